import PyProof.Rows.All
import Wide.All
import OpenK.AllK
import Wide.FinOn
import HandS.ForMost
import HandS.More
import HandS.Words
import HandS.WordsExc
import HandS.Defaults
import HandS.HeadHook1
import HandS.HeadHook2
import HandS.Ends
import KE.DataEq
import KE.DataAny
import KE.SortData
import KE.DatumIndex
import HandS.Wide
import HandS.TupAny
import HandS.AnyAll
import HandS.WideBits
import HandS.TupLen
import HandS.WordsDict
import HandS.RaiseMore
import HandS.SortInts
import HandS.SetFor
import HandS.Conv
import HandS.List
import HandS.IsInst
import PyProof.StrOps2
import HandS.Text
import HandS.Replace
import HandS.Iter
import HandS.Zip
import HandS.Comp
import HandS.Style
import PyProof.Draws
import PyProof.EnumMake
import HandS.DictComp
import HandS.Small
import HandS.Head0
import HandS.Head1
import HandS.Head2
import HandS.HeadEnd
import HandS.EndBits
import KE.DataCmp
import PyProof.ReprRoads
import PyProof.ReprBulk
import PySem.Challenge.RW_hiddenmines_k79_whole_ranks_of_layings
set_option Elab.async false
set_option linter.all false
set_option maxRecDepth 100000
set_option maxHeartbeats 4000000
-- Dv0
namespace Dv
open PySem PySem.Spec PyProof.Rows L2
/-! ### calls of defs where nothing is being shown: repr of lists and tuples wants to know it -/
structure Room (k : Nat) (A : Around) : Prop where
  rm : L2.Room k A
  gd : A.guards = some []
namespace Room
variable {j k : Nat} {A : Around}
theorem mono (r : Room k A) (h : j ≤ k) : Room j A := ⟨r.rm.mono h, r.gd⟩
theorem deeper (r : Room (k + 1) A) (env : Env) : Room k (A.deeper env) := ⟨r.rm.deeper env, r.gd⟩
theorem hd (r : Room k A) : A.handled = none := r.rm.hd
theorem dp (r : Room k A) : A.depth + 3 * k + 5 < recursionLimit := r.rm.dp
theorem un (r : Room k A) : A.units + 16 * k + 200 < cLine := r.rm.un
theorem units (r : Room k A) : A.units + 64 < cLine := r.rm.units
theorem make (r : Room (k + 1) A) (C : Addr) (us : List Value) : Room k (A.under (.builtin "type.__call__" ⟨.ref C :: us, []⟩)) :=
  ⟨r.rm.make C us [], by
    have g := r.gd
    simp [Around.under, Code.guards, Code.isGuard, guardIds, pushGuards, g]⟩
end Room
/-- a def keeps its promise wherever there is room and nothing is being shown -/
structure FnOk (P : Program) (w : World) (K : PySem.W.Frag) (mg : Str → Option Value) (base : Heap) (CX : CXT) (k : Nat) (f : Addr) (fd : FuncData) (ps : List Str) (sp : Sp) : Prop where
  fits : ∀ vs H Q E, sp vs H Q E → vs.length = ps.length
  goes : ∀ A outer s H args us vs Q E, Room k A → Env0 P w K mg base A outer s H → BindsTo s fd args (ps.zip us) → Vals vs us → sp vs H Q E →
    codeAny (model P w) A (.call (.ref f) args) (CR CX outer P w H s Q E) s
theorem FnOk.mono {P : Program} {w : World} {K : PySem.W.Frag} {mg : Str → Option Value} {base : Heap} {CX : CXT} {j k : Nat} {f : Addr} {fd : FuncData} {ps : List Str} {sp : Sp} (F : FnOk P w K mg base CX j f fd ps sp) (h : j ≤ k) : FnOk P w K mg base CX k f fd ps sp where
  fits := F.fits
  goes := fun A outer s H args us vs Q E r => F.goes A outer s H args us vs Q E (r.mono h)
section
variable {X : Cx} {CX : CXT} {k : Nat} {f C : Addr} {fd : FuncData} {ps : List Str} {sp : Sp} {E : XK} {x m : Str} {p pos apos : Pos} {e o : Expr} {es : List Expr} {ta : TE} {t : TA} {ds : List Value} {dvs : List V}
/-- a def's address, called -/
theorem def_callR (F : FnOk X.prog X.w X.K X.mg X.base CX k f fd ps sp) (hr : Room k X.A) (hb : Binds X.K fd ps ds) (hd : Vals dvs ds) (hx : Passes CX X E) : CallR X (.ref f) (fun vs H Q => sp (vs ++ dvs) H Q E) :=
  fun pins s σ H xs us Q I r h => wpAny_call (codeAny_mono (F.goes X.A X.stack s H ⟨us, []⟩ (us ++ ds) (xs ++ dvs) Q E hr I.env0 (hb s us I.kIn ((r.append hd).length.symm.trans (F.fits _ _ _ _ h))) (r.append hd) h) fun res s' hq => by
    match res, hq with
    | .error e, hq => exact hx pins σ H s e s' I hq
    | .ok (.ret u), hq => exact I.after hq
    | .ok .next, hq => exact False.elim hq
    | .ok .brk, hq => exact False.elim hq
    | .ok .cont, hq => exact False.elim hq)
theorem pe_call (F : FnOk X.prog X.w X.K X.mg X.base CX k f fd ps sp) (hr : Room k X.A) (hg : Gl X x) (hm : X.mg x = some (.ref f)) (hk : PySem.W.keepIn X.K (.ref f) = true) (hb : Binds X.K fd ps ds) (hd : Vals dvs ds) (hx : Passes CX X E)
    (ha : PA X (e :: es) t) (hdb : (x == ("__debug__" : Str)) = false := by decide) (he : starEach (e :: es) X.env = (false, eval e X.env) :: starEach es X.env := by rfl) (hpl : (backTo pos (starEach es X.env)).any (·.1) = false := by rfl) : PE X (.Call (.Name x p) (e :: es) [] pos) (tCall sp dvs E t) where
  run := fun pins s σ H Q I h => wpAny_Call_Name_kw (ld_glob I hg hm (PySem.W.callWith_K (h₀ := X.base) I.ok.mod.kin hk (thn (ha.run pos pins s σ H _ I h) fun us s1 ⟨vs, H1, I1, r, q⟩ => ⟨I1.kIn, def_callR F hr hb hd hx pins s1 σ H1 vs us Q I1 r q⟩) he hpl) hdb)
theorem pe_call0 (F : FnOk X.prog X.w X.K X.mg X.base CX k f fd ps sp) (hr : Room k X.A) (hg : Gl X x) (hm : X.mg x = some (.ref f)) (hk : PySem.W.keepIn X.K (.ref f) = true) (hb : Binds X.K fd ps ds) (hd : Vals dvs ds) (hx : Passes CX X E)
    (hdb : (x == ("__debug__" : Str)) = false := by decide) : PE X (.Call (.Name x p) [] [] pos) (tCall sp dvs E tNil) where
  run := fun pins s σ H Q I h => wpAny_Call_Name_kw (ld_glob I hg hm (PySem.W.callWith_K0 I.kIn hk (def_callR F hr hb hd hx pins s σ H [] [] Q I .nil h)) hdb)
theorem pe_meth {pl : Sem Bool} (he : PE X o ta) (c : Cls X.K C) (hm : Meth X.K C m f) (F : FnOk X.prog X.w X.K X.mg X.base CX k f fd ps sp) (hr : Room k X.A) (hb : Binds X.K fd ps ds) (hd : Vals dvs ds) (hx : Passes CX X E) (ha : PA X (e :: es) t)
    (hst : starEach (e :: es) X.env = (false, eval e X.env) :: starEach es X.env := by rfl) (hpl : (backTo pos (starEach es X.env)).any (·.1) = false := by rfl)
    (ht : eval (.Call (.Attribute o m apos) (e :: es) [] pos) X.env = (do
      let ov ← eval o X.env; standAt apos.atName
      let (f, first) ← holding [ov] (getMethod ov m pl); callWith pos f first (backTo pos (starEach (e :: es) X.env)) (backToKw pos (keywordEach [] X.env))) := by rfl) : PE X (.Call (.Attribute o m apos) (e :: es) [] pos) (tMeth C m sp dvs E ta t) where
  run := fun pins s σ H Q I h => PySem.W.methodCall_KW (pl := pl) (thn (he.run pins s σ H _ I h) fun u s1 ⟨x, H1, I1, rx, a, dx, fs, ex, ea, l, q⟩ => by
    subst ex
    cases (show u = Value.ref a from rx)
    exact getmeth_ok I1 ea c hm l (PySem.W.callWith_K (first := [.ref a]) (h₀ := X.base) I.ok.mod.kin hm.kp (thn (ha.run pos pins s1 σ H1 _ I1 q) fun us s2 ⟨vs, H2, I2, r, q2⟩ => ⟨I2.kIn, def_callR F hr hb hd hx pins s2 σ H2 (.ref a :: vs) (.ref a :: us) Q I2 (.cons rfl r) q2⟩) hst hpl)) ht
theorem pe_meth0 {pl : Sem Bool} (he : PE X o ta) (c : Cls X.K C) (hm : Meth X.K C m f) (F : FnOk X.prog X.w X.K X.mg X.base CX k f fd ps sp) (hr : Room k X.A) (hb : Binds X.K fd ps ds) (hd : Vals dvs ds) (hx : Passes CX X E)
    (ht : eval (.Call (.Attribute o m apos) [] [] pos) X.env = (do
      let ov ← eval o X.env; standAt apos.atName
      let (f, first) ← holding [ov] (getMethod ov m pl); callWith pos f first (backTo pos (starEach [] X.env)) (backToKw pos (keywordEach [] X.env))) := by rfl) : PE X (.Call (.Attribute o m apos) [] [] pos) (tMeth C m sp dvs E ta tNil) where
  run := fun pins s σ H Q I h => PySem.W.methodCall_KW (pl := pl) (thn (he.run pins s σ H _ I h) fun u s1 ⟨x, H1, I1, rx, a, dx, fs, ex, ea, l, q⟩ => by
    subst ex
    cases (show u = Value.ref a from rx)
    exact getmeth_ok I1 ea c hm l (PySem.W.callWith_K0 (first := [.ref a]) I1.kIn hm.kp (def_callR F hr hb hd hx pins s1 σ H1 [.ref a] [.ref a] Q I1 (.cons rfl .nil) q))) ht
theorem make_callR (M : L2.Mk X.K C f) (F : FnOk X.prog X.w X.K X.mg X.base CX k f fd ps sp) (hr : Room (k + 1) X.A) (hb : Binds X.K fd ps ds) (hd : Vals dvs ds) (hx : Passes CX X E) :
    CallR X (.ref C) (fun vs H Q => ∀ x dx, H x = none → H dx = none → dx ≠ x → sp (.ref x :: (vs ++ dvs)) (upd (upd H dx (.own x)) x (.ins C dx [])) (fun v H2 => v = .non ∧ Q (.ref x) H2) E) := by
  intro pins s σ H xs us Q I r h
  have q0 := h (s.heap.objs.size + 1) s.heap.objs.size (I.hok.fresh (Nat.le_succ _)) (I.hok.fresh (Nat.le_refl _)) (Nat.ne_of_lt (Nat.lt_succ_self _))
  have J := Inv.made (C := C) I
  have rr : Vals (V.ref (s.heap.objs.size + 1) :: (xs ++ dvs)) (Value.ref (s.heap.objs.size + 1) :: (us ++ ds)) := .cons rfl (r.append hd)
  have len : (Value.ref (s.heap.objs.size + 1) :: us ++ ds).length = ps.length := rr.length.symm.trans (F.fits _ _ _ _ q0)
  have bnd := hb _ (Value.ref (s.heap.objs.size + 1) :: us) J.kIn len
  have run := F.goes _ X.stack _ _ ⟨Value.ref (s.heap.objs.size + 1) :: us, []⟩ (Value.ref (s.heap.objs.size + 1) :: (us ++ ds)) _ _ E (hr.make C us) (J.env0.make C us []) bnd rr q0
  refine wpAny_call (make_map (f := f) I.kIn M.makes M.init (beq_iff_eq.mp M.fn) (codeAny_mono run fun res s' hq => ?_))
  match res, hq with
  | .error e, hq => exact hx pins σ _ _ e s' J hq
  | .ok .next, hq => exact False.elim hq
  | .ok .brk, hq => exact False.elim hq
  | .ok .cont, hq => exact False.elim hq
  | .ok (.ret u), hq =>
    obtain ⟨v, H', J', rv, ev, q3⟩ := J.after hq
    subst ev
    exact ⟨rv, ⟨V.ref (s.heap.objs.size + 1), H', J', rfl, q3⟩⟩
theorem pe_make (M : L2.Mk X.K C f) (F : FnOk X.prog X.w X.K X.mg X.base CX k f fd ps sp) (hr : Room (k + 1) X.A) (hg : Gl X x) (hm : X.mg x = some (.ref C)) (hb : Binds X.K fd ps ds) (hd : Vals dvs ds) (hx : Passes CX X E)
    (ha : PA X (e :: es) t) (hdb : (x == ("__debug__" : Str)) = false := by decide) (he : starEach (e :: es) X.env = (false, eval e X.env) :: starEach es X.env := by rfl) (hpl : (backTo pos (starEach es X.env)).any (·.1) = false := by rfl) : PE X (.Call (.Name x p) (e :: es) [] pos) (tMake C sp dvs E t) where
  run := fun pins s σ H Q I h => wpAny_Call_Name_kw (ld_glob I hg hm (PySem.W.callWith_K (h₀ := X.base) I.ok.mod.kin M.kp (thn (ha.run pos pins s σ H _ I h) fun us s1 ⟨vs, H1, I1, r, q⟩ => ⟨I1.kIn, make_callR M F hr hb hd hx pins s1 σ H1 vs us Q I1 r q⟩) he hpl) hdb)
end
/-! ### a def by its body -/
section
variable {P : Program} {w : World} {K : PySem.W.Frag} {mg : Str → Option Value} {base : Heap} {x qual : Str} {params : Arguments} {body : List Stmt} {scope : Scope} {dvs : List V} {kws : List (Str × V)} {f : Addr} {fd : FuncData}
theorem fn_body {CX : CXT} {N ps : List Str} {k : Nat} {sp : Sp} (F : FunD K x qual params body scope dvs kws f fd) (S : FnScope N ps scope) (len : ∀ vs H Q E, sp vs H Q E → vs.length = ps.length)
    (hbody : ∀ (cdv : Value) (A : Around) (outer : List Env) (s : Shared) (H : Hp) (vs : List V) (Q : VK) (E : XK), Room k (A.deeper (envOfC qual scope s.heap.objs.size f cdv)) → sp vs H Q E →
      ∃ t, PSs (cxOf CX P w K mg base N qual scope f cdv A outer s H E) body t ∧ t { nx := fun _ H' => Q .non H', rt := Q } (start N vs) H) : FnOk P w K mg base CX (k + 1) f fd ps sp where
  fits := len
  goes := fun A outer s H args us vs Q E hr e0 hb r hsp => by
    obtain ⟨oc, od, dV, kV, doc, pm, an, cdv, ct, osl, rfl, lk, hcd, _, _⟩ := F.ex
    have old : ∀ b o, base.get? b = some o → s.heap.get? b = some o := fun b o e => (e0.bs b o e).1
    have KX : K.In s.heap := e0.mod.kin.keeps old
    have kinds : ∀ y ∈ ps.zip us, scope.names.lookup y.1 = some .local ∨ (scope.names.lookup y.1 = some .cell ∧ ((cellsFrom (s.heap.objs.size + 1) scope.names []).lookup y.1).isSome = true) := fun y hy => by
      have hm : y.1 ∈ ps := (List.of_mem_zip (show (y.1, y.2) ∈ ps.zip us from hy)).1
      exact (S.par y.1 hm).imp id fun q => ⟨q, PySem.W.cellsFrom_some _ _ _ (.inl q)⟩
    refine codeAny_call_function hr.rm.depth (KX _ _ lk) rfl S.co S.gen rfl (PySem.W.codeRec_of KX hcd) (hb _ _ _ _ (wpAny_newFunctionEnv_cells S.kind kinds fun env he s1 i => ?_))
    subst he
    obtain ⟨t, ht, hq⟩ := hbody cdv A outer s H vs Q E (hr.deeper _) hsp
    have I := inv_start (CX := CX) (E := E) S hr.hd e0 (len _ _ _ _ hsp) r i
    refine ⟨(e0.mod.nolimit.keeps old).keeps i.toInCall.keep, codeAny_func (wpAny_mono (ht.run [] s1 (start N vs) H _ I hq) (fun fl s' hs => ?_) fun e s' hs => hs)⟩
    match fl, hs with
    | .ret u, ⟨v, σ', H', J, rv, q⟩ => exact ⟨v, H', J.os, J.bare, J.base, J.hok, rv, q⟩
    | .next, ⟨σ', H', J, q⟩ => exact ⟨.non, H', J.os, J.bare, J.base, J.hok, rfl, q⟩
    | .brk, ⟨_, _, _, q⟩ => exact False.elim q
    | .cont, ⟨_, _, _, q⟩ => exact False.elim q
end
end Dv

-- Dv0b
namespace Dv
open PySem PySem.Spec PyProof.Rows L2
/-! ### the law's call, from the heap behind the top -/
/-- what is tracked at the law's call: nothing, or the script -/
structure Trk (K : PySem.W.Frag) (P : Program) (w : World) (s : Shared) (a : Addr) (ns : List Int) (H : Hp) : Prop where
  only : Only H
  seq : SqL K H a (ns.map V.int)
  hok : HOk P w H s.heap
  at_ : ∀ b, H b ≠ none → b = a
  out : H a ≠ none → K.lookup a = none
section
variable {P : Program} {w : World} {K : PySem.W.Frag} {mg mb : Str → Option Value} {CX : CXT} {k : Nat} {fa a : Addr} {fd : FuncData} {x : Str} {sp : Sp} {s : Shared} {vs : List Value} {ns : List Int}
theorem trk_ex (KX : K.In s.heap) (ha : s.heap.get? a = some { cls := .type "list", data := .seq vs.toArray }) (hi : IntsAre vs ns) (hl : ns.length ≤ sizeLine) : ∃ H, Trk K P w s a ns H := by
  have rv : Vals (ns.map V.int) vs := vals_ints hi
  cases q : K.lookup a with
  | some o =>
    have e : o = { cls := .type "list", data := .seq vs.toArray } := Option.some.inj ((KX a o q).symm.trans ha)
    subst e
    exact ⟨fun _ => none, { only := fun _ => .inl rfl, seq := .inr ⟨_, vs.toArray, _, q, rfl, rfl, rfl, (by simpa [hi.length] using hl), (by simpa using rv)⟩, hok := (fun b u z => by cases z), at_ := (fun b z => (z rfl).elim), out := fun z => (z rfl).elim }⟩
  | none =>
    let H : Hp := fun b => if b = a then some (.frz { cls := .type "list", data := .seq vs.toArray } (.lst (ns.map V.int))) else none
    have at0 : H a = some (.frz { cls := .type "list", data := .seq vs.toArray } (.lst (ns.map V.int))) := if_pos rfl
    have off : ∀ b, b ≠ a → H b = none := fun b hb => if_neg hb
    refine ⟨H, { only := fun b => ?_, seq := .inl (.inr ⟨_, at0⟩), hok := fun b u z => ?_, at_ := fun b z => ?_, out := fun _ => q }⟩
    · rcases Decidable.em (b = a) with hb | hb
      · subst hb; exact .inr ⟨_, _, at0⟩
      · exact .inl (off b hb)
    · rcases Decidable.em (b = a) with hb | hb
      · subst hb
        cases at0.symm.trans z
        exact ⟨ha, by simpa using hl, vs, _, rv, ha⟩
      · rw [off b hb] at z; cases z
    · exact Decidable.byContradiction fun hb => z (off b hb)
theorem law_callG (KX : K.In s.heap) (hns : s.heap.Ns mainGlobals mg) (hb : s.heap.Ns builtinsNs mb) (hbb : ∀ x : Str, x ≠ "__name__" → mb x = bootBuiltins x) (hlim : s.heap.NoLimit) (hg : s.gens = #[])
    (ha : s.heap.get? a = some { cls := .type "list", data := .seq vs.toArray }) (hi : IntsAre vs ns) (hl : ns.length ≤ sizeLine) (hr : Room k callerA)
    (F : ∀ base : Heap, K.In base → base.Ns mainGlobals mg → FnOk P w K mg base CX k fa fd [x] sp) (hbind : ∀ (s : Shared) (u : Value), BindsTo s fd ⟨[u], []⟩ [(x, u)])
    (hsp : ∀ H : Hp, Only H → SqL K H a (ns.map V.int) → sp [.ref a] H (fun v _ => v = .bl true) fun _ _ _ => False) (hCX : ∀ H e s', CX [] H s (fun _ _ _ => False) e s' → False) :
    codeAny (model P w) callerA (.call (.ref fa) ⟨[.ref a], []⟩) (fun r s' => r = .ok (.ret (.bool true)) ∧ OldK s.heap s'.heap ∧ s'.os = s.os ∧ AllBare s'.gens) s := by
  obtain ⟨H, T⟩ := trk_ex (P := P) (w := w) KX ha hi hl
  -- a thing that is not the script is in the heap's other part
  have rest : ∀ {b : Addr} {o : Obj}, s.heap.get? b = some o → b ≠ a → (hidT s.heap H).get? b = some o := fun {b o} e hb => hidT_get e (Decidable.byContradiction fun z => hb (T.at_ b z))
  have isNs : ∀ {b : Addr} {m : Str → Option Value}, s.heap.Ns b m → (hidT s.heap H).Ns b m := fun {b m} ⟨o, es, ep, e, d, r⟩ => by
    refine ⟨o, es, ep, rest e fun z => ?_, d, r⟩
    subst z
    cases (Option.some.inj (ha.symm.trans e))
    cases d
  have inK : K.In (hidT s.heap H) := fun b o e => by
    rcases Decidable.em (H b = none) with z | z
    · exact hidT_get (KX b o e) z
    · have hba := T.at_ b z
      subst hba
      rw [T.out z] at e; cases e
  have md : Mod K mg (hidT s.heap H) := ⟨inK, isNs hns, ⟨mb, isNs hb, hbb⟩, by obtain ⟨mc, h1, h2⟩ := hlim; exact ⟨mc, isNs h1, h2⟩⟩
  have e0 : Env0 P w K mg (hidT s.heap H) callerA [] s H :=
    { frames := rfl, mod := md, bs := fun b o e => of_hidT e, bsz := Nat.le_of_eq (hidT_size _ _), funs := trivial, frf := (fun b hb => by cases hb), hok := T.hok, bare := .of_eq hg }
  refine codeAny_mono ((F _ inK (isNs hns)).goes callerA [] s H ⟨[.ref a], []⟩ [.ref a] [.ref a] _ _ hr e0 (hbind s (.ref a)) (.cons rfl .nil) (hsp H T.only T.seq)) fun res s' h => ?_
  match res, h with
  | .error e, h => exact (hCX H e s' h).elim
  | .ok .next, h => exact False.elim h
  | .ok .brk, h => exact False.elim h
  | .ok .cont, h => exact False.elim h
  | .ok (.ret u), ⟨v, H', os, bare, un, hok', r', q⟩ =>
    cases (show v = .bl true from q)
    cases (show u = Value.bool true from r')
    refine ⟨rfl, OldK.of_keep fun b o e => ?_, os, bare⟩
    rcases T.only b with z | ⟨ob, xs, z⟩
    · exact un.keep b o e z (by simp [frs]) (by simp)
    · have e1 := (T.hok b _ z).1
      have e2 := (hok' b _ (un.frzs b ob _ z)).1
      cases e1.symm.trans e
      exact e2
end
end Dv

-- Dv1
namespace Dv
open PySem PySem.Spec PyProof.Rows L2
abbrev Fg := PySem.W.Frag

/-- data, without the heap -/
inductive D where
  | non | bl (b : Bool) | int (i : Int) | str (x : Str)
  | lst (xs : List D) | tup (xs : List D)
  /-- a list that is read only: the script, a list of the module -/
  | frl (xs : List D)
  /-- a dict; lk: it is locked (nothing can be stored) -/
  | dct (lk : Bool) (kvs : List (Key × D))
  | obj (C : Str) (fs : List (Str × D))

def KeyOk : Key → Prop
  | .inl _ => True
  | .inr x => x.length ≤ sizeLine

def LkR (F : Hp) (a : Addr) (lk : Bool) (ks : List (Key × V)) : Prop := Rd F a (.dK ks) ∧ (lk = true → ∃ o, F a = some (.frz o (.dK ks)))
mutual
/-- the value v stands for the datum, over the abstract heap F -/
def Rep (K : Fg) (F : Hp) : D → V → Prop
  | .non, v => v = .non
  | .bl b, v => v = .bl b
  | .int i, v => v = .int i
  | .str x, v => v = .str x ∧ x.length ≤ sizeLine
  | .lst xs, v => ∃ a vs, v = .ref a ∧ F a = some (.lst vs) ∧ Reps K F xs vs
  | .frl xs, v => ∃ a vs, v = .ref a ∧ SqL K F a vs ∧ Reps K F xs vs
  | .tup xs, v => ∃ a vs, v = .ref a ∧ SqT K F a vs ∧ Reps K F xs vs
  | .dct lk kvs, v => ∃ a ks, v = .ref a ∧ LkR F a lk ks ∧ RepK K F kvs ks
  | .obj C fs, v => ∃ a dx gs, v = .ref a ∧ F a = some (.ins (He.ga K C) dx gs) ∧ RepF K F fs gs
def Reps (K : Fg) (F : Hp) : List D → List V → Prop
  | [], vs => vs = []
  | d :: ds, vs => ∃ v r, vs = v :: r ∧ Rep K F d v ∧ Reps K F ds r
def RepK (K : Fg) (F : Hp) : List (Key × D) → List (Key × V) → Prop
  | [], ks => ks = []
  | (k, d) :: ds, ks => ∃ v r, ks = (k, v) :: r ∧ KeyOk k ∧ Rep K F d v ∧ RepK K F ds r
def RepF (K : Fg) (F : Hp) : List (Str × D) → List (Str × V) → Prop
  | [], ks => ks = []
  | (k, d) :: ds, ks => ∃ v r, ks = (k, v) :: r ∧ Rep K F d v ∧ RepF K F ds r
end

theorem SqT.same {K : Fg} {H H' : Hp} {a : Addr} {xs : List V} (e : Same H H') (h : SqT K H a xs) : SqT K H' a xs := by
  rcases h with h | h
  · rcases h with h | ⟨o, h⟩
    · exact .inl (.inl (e _ _ h))
    · exact .inl (.inr ⟨o, e _ _ h⟩)
  · exact .inr h
theorem Rd.same {H H' : Hp} {a : Addr} {u : HO} (e : Same H H') (h : Rd H a u) : Rd H' a u := by
  rcases h with h | ⟨o, h⟩
  · exact .inl (e _ _ h)
  · exact .inr ⟨o, e _ _ h⟩

theorem LkR.same {H H' : Hp} {a : Addr} {lk : Bool} {u : List (Key × V)} (e : Same H H') (h : LkR H a lk u) : LkR H' a lk u :=
  ⟨Rd.same e h.1, fun z => let ⟨o, q⟩ := h.2 z; ⟨o, e _ _ q⟩⟩
section
variable {K : Fg} {F F' : Hp}
mutual
theorem Rep.mono (e : Same F F') : ∀ (d : D) (v : V), Rep K F d v → Rep K F' d v
  | .non, v, h => h
  | .bl b, v, h => h
  | .int i, v, h => h
  | .str x, v, h => h
  | .lst xs, v, h => by
    unfold Rep at h ⊢
    obtain ⟨a, vs, rfl, h1, h2⟩ := h
    exact ⟨a, vs, rfl, e _ _ h1, Reps.mono e xs vs h2⟩
  | .frl xs, v, h => by
    unfold Rep at h ⊢
    obtain ⟨a, vs, rfl, h1, h2⟩ := h
    exact ⟨a, vs, rfl, e.seq h1, Reps.mono e xs vs h2⟩
  | .tup xs, v, h => by
    unfold Rep at h ⊢
    obtain ⟨a, vs, rfl, h1, h2⟩ := h
    exact ⟨a, vs, rfl, SqT.same e h1, Reps.mono e xs vs h2⟩
  | .dct lk xs, v, h => by
    unfold Rep at h ⊢
    obtain ⟨a, vs, rfl, h1, h2⟩ := h
    exact ⟨a, vs, rfl, LkR.same e h1, RepK.mono e xs vs h2⟩
  | .obj C xs, v, h => by
    unfold Rep at h ⊢
    obtain ⟨a, dx, vs, rfl, h1, h2⟩ := h
    exact ⟨a, dx, vs, rfl, e _ _ h1, RepF.mono e xs vs h2⟩
theorem Reps.mono (e : Same F F') : ∀ (d : List D) (v : List V), Reps K F d v → Reps K F' d v
  | [], v, h => by unfold Reps at h ⊢; exact h
  | d :: ds, v, h => by
    unfold Reps at h ⊢
    obtain ⟨v, r, rfl, h1, h2⟩ := h
    exact ⟨v, r, rfl, Rep.mono e d v h1, Reps.mono e ds r h2⟩
theorem RepK.mono (e : Same F F') : ∀ (d : List (Key × D)) (v : List (Key × V)), RepK K F d v → RepK K F' d v
  | [], v, h => by unfold RepK at h ⊢; exact h
  | (k, d) :: ds, v, h => by
    unfold RepK at h ⊢
    obtain ⟨v, r, rfl, h0, h1, h2⟩ := h
    exact ⟨v, r, rfl, h0, Rep.mono e d v h1, RepK.mono e ds r h2⟩
theorem RepF.mono (e : Same F F') : ∀ (d : List (Str × D)) (v : List (Str × V)), RepF K F d v → RepF K F' d v
  | [], v, h => by unfold RepF at h ⊢; exact h
  | (k, d) :: ds, v, h => by
    unfold RepF at h ⊢
    obtain ⟨v, r, rfl, h1, h2⟩ := h
    exact ⟨v, r, rfl, Rep.mono e d v h1, RepF.mono e ds r h2⟩
end
theorem Reps.length : ∀ {d : List D} {v : List V}, Reps K F d v → v.length = d.length
  | [], v, h => by unfold Reps at h; subst h; rfl
  | d :: ds, v, h => by
    unfold Reps at h
    obtain ⟨v, r, rfl, _, h2⟩ := h
    simp [Reps.length h2]
theorem Reps.get : ∀ {d : List D} {v : List V} {i : Nat} {x : V}, Reps K F d v → v[i]? = some x → ∃ y, d[i]? = some y ∧ Rep K F y x
  | [], v, i, x, h, e => by unfold Reps at h; subst h; simp at e
  | d :: ds, v, 0, x, h, e => by
    unfold Reps at h
    obtain ⟨v, r, rfl, h1, h2⟩ := h
    simp at e; subst e
    exact ⟨d, rfl, h1⟩
  | d :: ds, v, i + 1, x, h, e => by
    unfold Reps at h
    obtain ⟨v, r, rfl, h1, h2⟩ := h
    simp at e
    obtain ⟨y, e1, e2⟩ := Reps.get h2 e
    exact ⟨y, by simpa using e1, e2⟩
theorem Reps.get' : ∀ {d : List D} {v : List V} {i : Nat} {y : D}, Reps K F d v → d[i]? = some y → ∃ x, v[i]? = some x ∧ Rep K F y x
  | [], v, i, x, h, e => by simp at e
  | d :: ds, v, 0, x, h, e => by
    unfold Reps at h
    obtain ⟨v, r, rfl, h1, h2⟩ := h
    simp at e; subst e
    exact ⟨v, rfl, h1⟩
  | d :: ds, v, i + 1, x, h, e => by
    unfold Reps at h
    obtain ⟨v, r, rfl, h1, h2⟩ := h
    simp at e
    obtain ⟨y, e1, e2⟩ := Reps.get' h2 e
    exact ⟨y, by simpa using e1, e2⟩
theorem Reps.nil : Reps K F [] [] := by unfold Reps; rfl
theorem Reps.cons {d : D} {v : V} {ds : List D} {vs : List V} (h : Rep K F d v) (r : Reps K F ds vs) : Reps K F (d :: ds) (v :: vs) := by
  unfold Reps; exact ⟨v, vs, rfl, h, r⟩
theorem Reps.append : ∀ {d : List D} {v : List V} {d' : List D} {v' : List V}, Reps K F d v → Reps K F d' v' → Reps K F (d ++ d') (v ++ v')
  | [], v, d', v', h, e => by unfold Reps at h; subst h; exact e
  | d :: ds, v, d', v', h, e => by
    unfold Reps at h
    obtain ⟨v, r, rfl, h1, h2⟩ := h
    exact Reps.cons h1 (Reps.append h2 e)
theorem Reps.one {d : D} {v : V} (h : Rep K F d v) : Reps K F [d] [v] := .cons h .nil
theorem Reps.take : ∀ {d : List D} {v : List V} (n : Nat), Reps K F d v → Reps K F (d.take n) (v.take n)
  | _, _, 0, _ => .nil
  | [], v, n + 1, h => by unfold Reps at h; subst h; exact .nil
  | d :: ds, v, n + 1, h => by
    unfold Reps at h
    obtain ⟨v, r, rfl, h1, h2⟩ := h
    exact .cons h1 (Reps.take n h2)
theorem Reps.drop : ∀ {d : List D} {v : List V} (n : Nat), Reps K F d v → Reps K F (d.drop n) (v.drop n)
  | _, _, 0, h => h
  | [], v, n + 1, h => by unfold Reps at h; subst h; exact .nil
  | d :: ds, v, n + 1, h => by
    unfold Reps at h
    obtain ⟨v, r, rfl, h1, h2⟩ := h
    exact Reps.drop n h2
theorem Reps.set : ∀ {d : List D} {v : List V} (n : Nat) {x : V} {y : D}, Reps K F d v → Rep K F y x → Reps K F (d.set n y) (v.set n x)
  | [], v, n, x, y, h, _ => by unfold Reps at h; subst h; exact .nil
  | d :: ds, v, 0, x, y, h, q => by
    unfold Reps at h
    obtain ⟨v, r, rfl, h1, h2⟩ := h
    exact .cons q h2
  | d :: ds, v, n + 1, x, y, h, q => by
    unfold Reps at h
    obtain ⟨v, r, rfl, h1, h2⟩ := h
    exact .cons h1 (Reps.set n h2 q)
theorem Reps.reverse : ∀ {d : List D} {v : List V}, Reps K F d v → Reps K F d.reverse v.reverse
  | [], v, h => by unfold Reps at h; subst h; exact .nil
  | d :: ds, v, h => by
    unfold Reps at h
    obtain ⟨v, r, rfl, h1, h2⟩ := h
    rw [List.reverse_cons, List.reverse_cons]
    exact Reps.append (Reps.reverse h2) (.one h1)
end

/-- what a slot, a pending value holds: nothing told, a datum (never changed), an own list, an own dict, an own instance -/
inductive SV where
  | un
  | dat (d : D)
  | ol (xs : List D)
  | od (kvs : List (Key × D))
  | oi (C : Str) (fs : List (Str × SV))

mutual
def Own (K : Fg) (F H : Hp) : SV → V → List Addr → Prop
  | .un, _, fp => fp = []
  | .dat d, v, fp => fp = [] ∧ Rep K F d v
  | .ol xs, v, fp => ∃ p vs, v = .ref p ∧ fp = [p] ∧ H p = some (.lst vs) ∧ Reps K F xs vs
  | .od xs, v, fp => ∃ p vs, v = .ref p ∧ fp = [p] ∧ H p = some (.dK vs) ∧ RepK K F xs vs
  | .oi C fs, v, fp => ∃ p dx gs f2, v = .ref p ∧ fp = p :: dx :: f2 ∧ H p = some (.ins (He.ga K C) dx gs) ∧ H dx = some (.own p) ∧ OwnF K F H fs gs f2
def OwnF (K : Fg) (F H : Hp) : List (Str × SV) → List (Str × V) → List Addr → Prop
  | [], gs, fp => gs = [] ∧ fp = []
  | (f, s) :: r, gs, fp => ∃ v gs' f1 f2, gs = (f, v) :: gs' ∧ fp = f1 ++ f2 ∧ Own K F H s v f1 ∧ OwnF K F H r gs' f2
end
section
variable {K : Fg} {F F' H H' : Hp}
mutual
theorem Own.mono (e : Same F F') : ∀ (s : SV) (v : V) (fp : List Addr), (∀ p ∈ fp, H' p = H p) → Own K F H s v fp → Own K F' H' s v fp
  | .un, v, fp, _, h => by unfold Own at h ⊢; exact h
  | .dat d, v, fp, _, h => by unfold Own at h ⊢; exact ⟨h.1, Rep.mono e d v h.2⟩
  | .ol xs, v, fp, q, h => by
    unfold Own at h ⊢
    obtain ⟨p, vs, rfl, rfl, h1, h2⟩ := h
    exact ⟨p, vs, rfl, rfl, (q p (by simp)).trans h1, Reps.mono e xs vs h2⟩
  | .od xs, v, fp, q, h => by
    unfold Own at h ⊢
    obtain ⟨p, vs, rfl, rfl, h1, h2⟩ := h
    exact ⟨p, vs, rfl, rfl, (q p (by simp)).trans h1, RepK.mono e xs vs h2⟩
  | .oi C fs, v, fp, q, h => by
    unfold Own at h ⊢
    obtain ⟨p, dx, gs, f2, rfl, rfl, h1, h2, h3⟩ := h
    exact ⟨p, dx, gs, f2, rfl, rfl, (q p (by simp)).trans h1, (q dx (by simp)).trans h2, OwnF.mono e fs gs f2 (fun b hb => q b (by simp [hb])) h3⟩
theorem OwnF.mono (e : Same F F') : ∀ (s : List (Str × SV)) (v : List (Str × V)) (fp : List Addr), (∀ p ∈ fp, H' p = H p) → OwnF K F H s v fp → OwnF K F' H' s v fp
  | [], v, fp, _, h => by unfold OwnF at h ⊢; exact h
  | (f, s) :: r, gs, fp, q, h => by
    unfold OwnF at h ⊢
    obtain ⟨v, gs', f1, f2, rfl, rfl, h1, h2⟩ := h
    exact ⟨v, gs', f1, f2, rfl, rfl, Own.mono e s v f1 (fun b hb => q b (by simp [hb])) h1, OwnF.mono e r gs' f2 (fun b hb => q b (by simp [hb])) h2⟩
end
mutual
/-- what is owned is tracked -/
theorem Own.trk : ∀ (s : SV) (v : V) (fp : List Addr), Own K F H s v fp → ∀ p ∈ fp, ∃ o, H p = some o
  | .un, v, fp, h, p, hp => by unfold Own at h; subst h; simp at hp
  | .dat d, v, fp, h, p, hp => by unfold Own at h; rw [h.1] at hp; simp at hp
  | .ol xs, v, fp, h, p, hp => by
    unfold Own at h
    obtain ⟨p', vs, rfl, rfl, h1, h2⟩ := h
    simp at hp; subst hp; exact ⟨_, h1⟩
  | .od xs, v, fp, h, p, hp => by
    unfold Own at h
    obtain ⟨p', vs, rfl, rfl, h1, h2⟩ := h
    simp at hp; subst hp; exact ⟨_, h1⟩
  | .oi C fs, v, fp, h, p, hp => by
    unfold Own at h
    obtain ⟨p', dx, gs, f2, rfl, rfl, h1, h2, h3⟩ := h
    simp only [List.mem_cons] at hp
    rcases hp with rfl | rfl | hp
    · exact ⟨_, h1⟩
    · exact ⟨_, h2⟩
    · exact OwnF.trk fs gs f2 h3 p hp
theorem OwnF.trk : ∀ (s : List (Str × SV)) (v : List (Str × V)) (fp : List Addr), OwnF K F H s v fp → ∀ p ∈ fp, ∃ o, H p = some o
  | [], v, fp, h, p, hp => by unfold OwnF at h; rw [h.2] at hp; simp at hp
  | (f, s) :: r, gs, fp, h, p, hp => by
    unfold OwnF at h
    obtain ⟨v, gs', f1, f2, rfl, rfl, h1, h2⟩ := h
    rcases List.mem_append.mp hp with hp | hp
    · exact Own.trk s v f1 h1 p hp
    · exact OwnF.trk r gs' f2 h2 p hp
end
/-- a slot -/
def OwnO (K : Fg) (F H : Hp) (o : Option V) (s : SV) (fp : List Addr) : Prop := match o with
  | none => s = .un ∧ fp = []
  | some v => Own K F H s v fp
theorem OwnO.mono (e : Same F F') {o : Option V} {s : SV} {fp : List Addr} (q : ∀ p ∈ fp, H' p = H p) (h : OwnO K F H o s fp) : OwnO K F' H' o s fp := by
  cases o with
  | none => exact h
  | some v => exact Own.mono e s v fp q h
theorem OwnO.trk {o : Option V} {s : SV} {fp : List Addr} (h : OwnO K F H o s fp) : ∀ p ∈ fp, ∃ u, H p = some u := by
  cases o with
  | none => intro p hp; rw [h.2] at hp; simp at hp
  | some v => exact Own.trk s v fp h
abbrev PR := Option V × SV
def OwnL (K : Fg) (F H : Hp) : List PR → List Addr → Prop
  | [], fp => fp = []
  | x :: r, fp => ∃ f1 f2, fp = f1 ++ f2 ∧ OwnO K F H x.1 x.2 f1 ∧ OwnL K F H r f2
theorem OwnL.mono (e : Same F F') : ∀ {l : List PR} {fp : List Addr}, (∀ p ∈ fp, H' p = H p) → OwnL K F H l fp → OwnL K F' H' l fp
  | [], fp, _, h => h
  | x :: r, fp, q, h => by
    obtain ⟨f1, f2, rfl, h1, h2⟩ := h
    exact ⟨f1, f2, rfl, h1.mono e (fun b hb => q b (by simp [hb])), OwnL.mono e (fun b hb => q b (by simp [hb])) h2⟩
theorem OwnL.trk : ∀ {l : List PR} {fp : List Addr}, OwnL K F H l fp → ∀ p ∈ fp, ∃ u, H p = some u
  | [], fp, h, p, hp => by rw [show fp = [] from h] at hp; simp at hp
  | x :: r, fp, h, p, hp => by
    obtain ⟨f1, f2, rfl, h1, h2⟩ := h
    rcases List.mem_append.mp hp with hp | hp
    · exact h1.trk p hp
    · exact OwnL.trk h2 p hp
theorem OwnL.split : ∀ {l1 l2 : List PR} {fp : List Addr}, OwnL K F H (l1 ++ l2) fp → ∃ f1 f2, fp = f1 ++ f2 ∧ OwnL K F H l1 f1 ∧ OwnL K F H l2 f2
  | [], l2, fp, h => ⟨[], fp, rfl, rfl, h⟩
  | x :: r, l2, fp, h => by
    obtain ⟨f1, f2, rfl, h1, h2⟩ := h
    obtain ⟨g1, g2, rfl, h3, h4⟩ := OwnL.split h2
    exact ⟨f1 ++ g1, g2, by simp, ⟨f1, g1, rfl, h1, h3⟩, h4⟩
theorem OwnL.join : ∀ {l1 l2 : List PR} {f1 f2 : List Addr}, OwnL K F H l1 f1 → OwnL K F H l2 f2 → OwnL K F H (l1 ++ l2) (f1 ++ f2)
  | [], l2, f1, f2, h1, h2 => by rw [show f1 = [] from h1]; exact h2
  | x :: r, l2, f1, f2, h1, h2 => by
    obtain ⟨g1, g2, rfl, h3, h4⟩ := h1
    exact ⟨g1, g2 ++ f2, by simp, h3, OwnL.join h4 h2⟩
/-- look at the i-th entry -/
theorem OwnL.focus {l : List PR} {fp : List Addr} {i : Nat} {x : PR} (h : OwnL K F H l fp) (e : l[i]? = some x) :
    ∃ f1 f f2, fp = f1 ++ (f ++ f2) ∧ OwnL K F H (l.take i) f1 ∧ OwnO K F H x.1 x.2 f ∧ OwnL K F H (l.drop (i + 1)) f2 := by
  have hl : l = l.take i ++ x :: l.drop (i + 1) := by
    have hi : i < l.length := (List.getElem?_eq_some_iff.mp e).1
    have hx : l[i] = x := (List.getElem?_eq_some_iff.mp e).2
    rw [← hx, ← List.drop_eq_getElem_cons hi, List.take_append_drop]
  rw [hl] at h
  obtain ⟨f1, f2, rfl, h1, h2⟩ := h.split
  obtain ⟨g1, g2, rfl, h3, h4⟩ := h2
  exact ⟨f1, g1, g2, rfl, h1, h3, h4⟩
/-- put another in its place -/
theorem OwnL.put {l : List PR} {i : Nat} {x : PR} {f1 f f2 : List Addr} (hi : i < l.length) (h1 : OwnL K F H (l.take i) f1) (h : OwnO K F H x.1 x.2 f) (h2 : OwnL K F H (l.drop (i + 1)) f2) : OwnL K F H (l.set i x) (f1 ++ (f ++ f2)) := by
  have hl : l.set i x = l.take i ++ x :: l.drop (i + 1) := List.set_eq_take_append_cons_drop.trans (if_pos hi)
  rw [hl]
  exact h1.join ⟨f, f2, rfl, h, h2⟩
end

/-- the ground of a def's run: what was frozen, the heap and what was owned at its entry, the slots that keep their objects -/
structure Bs where
  F0 : Hp
  H0 : Hp
  fp0 : List Addr
  fx : List (Nat × Addr)

abbrev Tp := List (V × SV)
abbrev Ep := List SV
def prs (σ : L2.St) (ε : Ep) (tmp : Tp) : List PR := tmp.map (fun t => (some t.1, t.2)) ++ σ.zip ε

structure StF (K : Fg) (B : Bs) (F H : Hp) (σ : L2.St) (ε : Ep) (tmp : Tp) (fp : List Addr) : Prop where
  sub0 : Same B.F0 F
  sub : Same F H
  keep : ∀ q o, B.H0 q = some o → q ∉ B.fp0 → H q = some o
  there : ∀ q o, B.H0 q = some o → ∃ o', H q = some o'
  new : ∀ p o, F p = some o → B.F0 p = some o ∨ B.H0 p = none ∨ p ∈ B.fp0
  len : σ.length = ε.length
  own : OwnL K F H (prs σ ε tmp) fp
  nd : fp.Nodup
  out : ∀ p ∈ fp, F p = none
  old : ∀ p ∈ fp, p ∈ B.fp0 ∨ B.H0 p = none
  fix : ∀ x ∈ B.fx, σ[x.1]? = some (some (.ref x.2))
def Sta (K : Fg) (B : Bs) (H : Hp) (σ : L2.St) (ε : Ep) (tmp : Tp) : Prop := ∃ F fp, StF K B F H σ ε tmp fp
section
variable {K : Fg} {B : Bs} {F H : Hp} {σ : L2.St} {ε : Ep} {tmp : Tp} {fp : List Addr}
theorem StF.trk (h : StF K B F H σ ε tmp fp) : ∀ p ∈ fp, ∃ u, H p = some u := h.own.trk
/-- nothing that was tracked has changed; more is frozen, all of it new -/
theorem StF.step {F' H' : Hp} (h : StF K B F H σ ε tmp fp) (s : Same H H') (e : Same F F') (e' : Same F' H') (n : ∀ p o, F' p = some o → F p = some o ∨ H p = none) : StF K B F' H' σ ε tmp fp where
  sub0 := h.sub0.trans e
  sub := e'
  keep := fun q o a b => s q o (h.keep q o a b)
  there := fun q o a => by
    obtain ⟨o', z⟩ := h.there q o a
    exact ⟨o', s _ _ z⟩
  new := fun p o a => by
    rcases n p o a with z | z
    · exact h.new p o z
    · right; left
      cases q : B.H0 p with
      | none => rfl
      | some u =>
        obtain ⟨o', z'⟩ := h.there p u q
        rw [z] at z'; cases z'
  len := h.len
  own := h.own.mono e fun p hp => by
    obtain ⟨u, z⟩ := h.trk p hp
    rw [z]; exact s _ _ z
  nd := h.nd
  out := fun p hp => by
    cases q : F' p with
    | none => rfl
    | some u =>
      rcases n p u q with z | z
      · rw [h.out p hp] at z; cases z
      · obtain ⟨u', z'⟩ := h.trk p hp
        rw [z] at z'; cases z'
  old := h.old
  fix := h.fix
theorem StF.same {H' : Hp} (h : StF K B F H σ ε tmp fp) (s : Same H H') : StF K B F H' σ ε tmp fp := h.step s (Same.refl F) (h.sub.trans s) fun _ _ q => .inl q
theorem prs_cons (x : V × SV) : prs σ ε (x :: tmp) = (some x.1, x.2) :: prs σ ε tmp := rfl
/-- a datum is laid aside -/
theorem StF.push (h : StF K B F H σ ε tmp fp) {v : V} {d : D} (r : Rep K F d v) : StF K B F H σ ε ((v, .dat d) :: tmp) fp :=
  { h with own := ⟨[], fp, rfl, by show Own K F H (.dat d) v []; unfold Own; exact ⟨rfl, r⟩, h.own⟩ }
/-- what was laid aside last is dropped -/
theorem StF.pop (h : StF K B F H σ ε tmp fp) {x : V × SV} {tmp' : Tp} (e : tmp = x :: tmp') : ∃ f1 f2, fp = f1 ++ f2 ∧ Own K F H x.2 x.1 f1 ∧ StF K B F H σ ε tmp' f2 := by
  subst e
  obtain ⟨f1, f2, rfl, h1, h2⟩ := h.own
  exact ⟨f1, f2, rfl, h1, { h with own := h2, nd := (List.nodup_append.mp h.nd).2.1, out := fun p hp => h.out p (by simp [hp]), old := fun p hp => h.old p (by simp [hp]) }⟩
theorem StF.datum (h : StF K B F H σ ε tmp fp) {v : V} {d : D} {tmp' : Tp} (e : tmp = (v, .dat d) :: tmp') : Rep K F d v ∧ StF K B F H σ ε tmp' fp := by
  obtain ⟨f1, f2, rfl, h1, h2⟩ := h.pop e
  unfold Own at h1
  rw [h1.1]
  exact ⟨h1.2, h2⟩
/-- a new object, frozen at once -/
theorem StF.frozen (h : StF K B F H σ ε tmp fp) {p : Addr} {o : HO} (hp : H p = none) : StF K B (upd F p o) (upd H p o) σ ε tmp fp := by
  have hF : F p = none := by
    cases q : F p with
    | none => rfl
    | some u => rw [h.sub _ _ q] at hp; cases hp
  refine h.step (fun b u q => ?_) (fun b u q => ?_) (fun b u q => ?_) (fun b u q => ?_)
  · rw [upd_ne (ne_of_none q hp)]; exact q
  · rw [upd_ne (ne_of_none q hF)]; exact q
  · by_cases z : b = p
    · subst z; rw [upd_same] at q ⊢; exact q
    · rw [upd_ne z] at q ⊢; exact h.sub _ _ q
  · by_cases z : b = p
    · subst z; exact .inr hp
    · rw [upd_ne z] at q; exact .inl q
theorem same_upd {H : Hp} {p : Addr} {o : HO} (hp : H p = none) : Same H (upd H p o) := fun b u q => by rw [upd_ne (ne_of_none q hp)]; exact q
/-- a new object, owned -/
theorem StF.owned (h : StF K B F H σ ε tmp fp) {p : Addr} {o : HO} {s : SV} (hp : H p = none) (hs : Own K F (upd H p o) s (.ref p) [p]) : StF K B F (upd H p o) σ ε ((.ref p, s) :: tmp) (p :: fp) := by
  have g := h.same (same_upd (o := o) hp)
  have hF : F p = none := by
    cases q : F p with
    | none => rfl
    | some u => rw [h.sub _ _ q] at hp; cases hp
  have hn : p ∉ fp := fun z => by
    obtain ⟨u, q⟩ := h.trk p z
    rw [hp] at q; cases q
  exact { g with
    own := ⟨[p], fp, rfl, hs, g.own⟩
    nd := List.nodup_cons.mpr ⟨hn, g.nd⟩
    out := fun q hq => by
      rcases List.mem_cons.mp hq with rfl | hq
      · exact hF
      · exact g.out q hq
    old := fun q hq => by
      rcases List.mem_cons.mp hq with rfl | hq
      · right
        cases z : B.H0 q with
        | none => rfl
        | some u =>
          obtain ⟨o', z'⟩ := h.there q u z
          rw [hp] at z'; cases z'
      · exact g.old q hq }
end

/-! as a datum: what is owned is given up -/
mutual
def SV.toD : SV → Option D
  | .un => none
  | .dat d => some d
  | .ol xs => some (.lst xs)
  | .od kvs => some (.dct false kvs)
  | .oi C fs => match toDF fs with
    | some gs => some (.obj C gs)
    | none => none
def toDF : List (Str × SV) → Option (List (Str × D))
  | [] => some []
  | (f, s) :: r => match SV.toD s with
    | some d => match toDF r with
      | some gs => some ((f, d) :: gs)
      | none => none
    | none => none
end
section
variable {K : Fg} {F F' H : Hp}
mutual
theorem Own.give (e : Same F F') : ∀ (s : SV) (v : V) (f : List Addr) (d : D), Own K F H s v f → s.toD = some d → (∀ p ∈ f, F' p = H p) → Rep K F' d v
  | .un, v, f, d, h, t, q => by unfold SV.toD at t; cases t
  | .dat x, v, f, d, h, t, q => by
    unfold SV.toD at t; cases t
    unfold Own at h
    exact Rep.mono e _ _ h.2
  | .ol xs, v, f, d, h, t, q => by
    unfold SV.toD at t; cases t
    unfold Own at h
    obtain ⟨p, vs, rfl, rfl, h1, h2⟩ := h
    unfold Rep
    exact ⟨p, vs, rfl, (q p (by simp)).trans h1, Reps.mono e _ _ h2⟩
  | .od xs, v, f, d, h, t, q => by
    unfold SV.toD at t; cases t
    unfold Own at h
    obtain ⟨p, vs, rfl, rfl, h1, h2⟩ := h
    unfold Rep
    exact ⟨p, vs, rfl, ⟨.inl ((q p (by simp)).trans h1), fun z => by cases z⟩, RepK.mono e _ _ h2⟩
  | .oi C fs, v, f, d, h, t, q => by
    unfold SV.toD at t
    cases z : toDF fs with
    | none => rw [z] at t; cases t
    | some gs =>
      rw [z] at t; cases t
      unfold Own at h
      obtain ⟨p, dx, gs', f2, rfl, rfl, h1, h2, h3⟩ := h
      unfold Rep
      exact ⟨p, dx, gs', rfl, (q p (by simp)).trans h1, OwnF.give e fs gs' f2 gs h3 z fun b hb => q b (by simp [hb])⟩
theorem OwnF.give (e : Same F F') : ∀ (s : List (Str × SV)) (v : List (Str × V)) (f : List Addr) (d : List (Str × D)), OwnF K F H s v f → toDF s = some d → (∀ p ∈ f, F' p = H p) → RepF K F' d v
  | [], v, f, d, h, t, q => by
    unfold toDF at t; cases t
    unfold OwnF at h
    unfold RepF
    exact h.1
  | (x, s) :: r, v, f, d, h, t, q => by
    unfold toDF at t
    cases z : s.toD with
    | none => rw [z] at t; cases t
    | some dd =>
      cases z2 : toDF r with
      | none => rw [z, z2] at t; cases t
      | some gs =>
        rw [z, z2] at t; cases t
        unfold OwnF at h
        obtain ⟨v', gs', f1, f2, rfl, rfl, h1, h2⟩ := h
        unfold RepF
        exact ⟨v', gs', rfl, Own.give e s v' f1 dd h1 z fun b hb => q b (by simp [hb]), OwnF.give e r gs' f2 gs h2 z2 fun b hb => q b (by simp [hb])⟩
end
end
section
variable {K : Fg} {B : Bs} {F H : Hp} {σ : L2.St} {ε : Ep} {tmp : Tp} {fp : List Addr}
theorem StF.rebuild (h : StF K B F H σ ε tmp fp) {F' H' : Hp} {σ' : L2.St} {ε' : Ep} {tmp' : Tp} {fp' : List Addr} (eF : Same F F') (sub : Same F' H') (chg : ∀ q o, H q = some o → q ∉ fp → H' q = some o)
    (th : ∀ q o, H q = some o → ∃ o', H' q = some o') (nw : ∀ p o, F' p = some o → F p = some o ∨ H p = none ∨ p ∈ fp) (len : σ'.length = ε'.length) (own' : OwnL K F' H' (prs σ' ε' tmp') fp') (nd' : fp'.Nodup)
    (out' : ∀ p ∈ fp', F' p = none) (old' : ∀ p ∈ fp', p ∈ fp ∨ H p = none) (fix' : ∀ x ∈ B.fx, σ'[x.1]? = some (some (.ref x.2))) : StF K B F' H' σ' ε' tmp' fp' := by
  have hn : ∀ p, H p = none → B.H0 p = none := fun p z => by
    cases q : B.H0 p with
    | none => rfl
    | some u =>
      obtain ⟨o', z'⟩ := h.there p u q
      rw [z] at z'; cases z'
  refine { sub0 := h.sub0.trans eF, sub := sub, keep := fun q o a b => ?_, there := fun q o a => ?_, new := fun p o a => ?_, len := len, own := own', nd := nd', out := out', old := fun p hp => ?_, fix := fix' }
  · refine chg q o (h.keep q o a b) fun z => ?_
    rcases h.old q z with z | z
    · exact b z
    · rw [a] at z; cases z
  · obtain ⟨o', z⟩ := h.there q o a
    exact th q o' z
  · rcases nw p o a with z | z | z
    · exact h.new p o z
    · exact .inr (.inl (hn p z))
    · rcases h.old p z with z | z
      · exact .inr (.inr z)
      · exact .inr (.inl z)
  · rcases old' p hp with z | z
    · exact h.old p z
    · exact .inr (hn p z)
/-- F with what is owned at f frozen -/
def fz (F H : Hp) (f : List Addr) : Hp := fun p => if p ∈ f then H p else F p
theorem fz_in {F H : Hp} {f : List Addr} {p : Addr} (h : p ∈ f) : fz F H f p = H p := if_pos h
theorem fz_out {F H : Hp} {f : List Addr} {p : Addr} (h : p ∉ f) : fz F H f p = F p := if_neg h
/-- what was laid aside last is given up -/
theorem StF.freeze (h : StF K B F H σ ε tmp fp) {v : V} {s : SV} {d : D} {tmp' : Tp} (e : tmp = (v, s) :: tmp') (t : s.toD = some d) : ∃ F' fp', Same F F' ∧ StF K B F' H σ ε ((v, .dat d) :: tmp') fp' := by
  obtain ⟨f1, f2, rfl, h1, h2⟩ := h.pop e
  have hs : Same F (fz F H f1) := fun p o q => by
    by_cases z : p ∈ f1
    · rw [h.out p (by simp [z])] at q; cases q
    · rw [fz_out z]; exact q
  have hd : ∀ p ∈ f2, p ∉ f1 := fun p hp z => (List.nodup_append.mp h.nd).2.2 p z p hp rfl
  refine ⟨fz F H f1, f2, hs, ?_⟩
  have g : StF K B (fz F H f1) H σ ε tmp' f2 := h.rebuild hs (fun p o q => ?_) (fun _ _ q _ => q) (fun q o z => ⟨o, z⟩) (fun p o q => ?_) h.len (h2.own.mono hs fun _ _ => rfl) h2.nd (fun p hp => ?_) (fun p hp => .inl (by simp [hp])) h.fix
  · exact g.push (Own.give hs s v f1 d h1 t fun p hp => fz_in hp)
  · by_cases z : p ∈ f1
    · rw [fz_in z] at q; exact q
    · rw [fz_out z] at q; exact h.sub _ _ q
  · by_cases z : p ∈ f1
    · exact .inr (.inr (by simp [z]))
    · rw [fz_out z] at q; exact .inl q
  · rw [fz_out (hd p hp)]; exact h2.out p hp
theorem zip_get {i : Nat} {s : SV} (hl : σ.length = ε.length) (e : ε[i]? = some s) : ∃ o, σ[i]? = some o ∧ (σ.zip ε)[i]? = some (o, s) := by
  have hi : i < ε.length := (List.getElem?_eq_some_iff.mp e).1
  have hi' : i < σ.length := by omega
  refine ⟨σ[i], List.getElem?_eq_getElem hi', ?_⟩
  have : ε[i] = s := (List.getElem?_eq_some_iff.mp e).2
  rw [List.getElem?_eq_getElem (by simp; omega), List.getElem_zip, this]
theorem zip_set {i : Nat} {o : Option V} {s : SV} : (σ.set i o).zip (ε.set i s) = (σ.zip ε).set i (o, s) := by
  induction σ generalizing ε i with
  | nil => simp
  | cons a r ih =>
    cases ε with
    | nil => simp
    | cons b q =>
      cases i with
      | zero => simp
      | succ j => simp [ih]
/-- the i-th slot -/
theorem StF.slot (h : StF K B F H σ ε tmp fp) {i : Nat} {s : SV} (e : ε[i]? = some s) : ∃ o ft f1 f f2, σ[i]? = some o ∧ fp = ft ++ (f1 ++ (f ++ f2)) ∧ OwnL K F H (tmp.map (fun t => (some t.1, t.2))) ft ∧ OwnO K F H o s f ∧
    OwnL K F H ((σ.zip ε).take i) f1 ∧ OwnL K F H ((σ.zip ε).drop (i + 1)) f2 := by
  obtain ⟨o, e1, e2⟩ := zip_get h.len e
  obtain ⟨ft, fe, rfl, h1, h2⟩ := OwnL.split h.own
  obtain ⟨f1, f, f2, rfl, h3, h4, h5⟩ := h2.focus e2
  exact ⟨o, ft, f1, f, f2, e1, rfl, h1, h4, h3, h5⟩
/-- a datum in a slot -/
theorem StF.read (h : StF K B F H σ ε tmp fp) {i : Nat} {d : D} (e : ε[i]? = some (.dat d)) : ∃ v, σ[i]? = some (some v) ∧ Rep K F d v := by
  obtain ⟨o, ft, f1, f, f2, e1, _, _, h4, _, _⟩ := h.slot e
  cases o with
  | none => cases h4.1
  | some v =>
    have h4' : Own K F H (.dat d) v f := h4
    unfold Own at h4'
    exact ⟨v, e1, h4'.2⟩
/-- what was laid aside last goes into a slot -/
theorem StF.store (h : StF K B F H σ ε tmp fp) {v : V} {s : SV} {tmp' : Tp} (e : tmp = (v, s) :: tmp') {i : Nat} (hi : i < ε.length) (hx : ∀ x ∈ B.fx, x.1 ≠ i) : ∃ fp', StF K B F H (σ.set i (some v)) (ε.set i s) tmp' fp' := by
  obtain ⟨g1, g2, rfl, h1, h2⟩ := h.pop e
  obtain ⟨o, ft, f1, f, f2, e1, rfl, h3, h4, h5, h6⟩ := h2.slot (i := i) (List.getElem?_eq_getElem hi)
  have hz : i < (σ.zip ε).length := by
    have := h.len
    simp; omega
  refine ⟨ft ++ (f1 ++ (g1 ++ f2)), h.rebuild (Same.refl F) h.sub (fun _ _ q _ => q) (fun q o z => ⟨o, z⟩) (fun p o q => .inl q) (by simpa using h.len) ?_ ?_ (fun p hp => h.out p ?_) (fun p hp => .inl ?_) (fun x hx' => ?_)⟩
  · show OwnL K F H (tmp'.map (fun t => (some t.1, t.2)) ++ (σ.set i (some v)).zip (ε.set i s)) _
    rw [zip_set]
    exact OwnL.join h3 (OwnL.put hz h5 h1 h6)
  · have nd := h.nd
    have p1 : (ft ++ (f1 ++ (g1 ++ f2))).Perm (g1 ++ (ft ++ (f1 ++ f2))) := by
      refine List.Perm.trans ?_ (List.perm_append_comm_assoc ft g1 (f1 ++ f2))
      exact List.Perm.append_left ft (List.perm_append_comm_assoc f1 g1 f2)
    have p2 : (g1 ++ (ft ++ (f1 ++ f2))).Sublist (g1 ++ (ft ++ (f1 ++ (f ++ f2)))) :=
      List.Sublist.append_left (List.Sublist.append_left (List.Sublist.append_left (List.sublist_append_right f f2) f1) ft) g1
    exact p1.nodup_iff.mpr (nd.sublist p2)
  · simp only [List.mem_append] at hp ⊢; rcases hp with z | z | z | z <;> simp [z]
  · simp only [List.mem_append] at hp ⊢; rcases hp with z | z | z | z <;> simp [z]
  · rw [List.getElem?_set_ne (hx x hx').symm]
    exact h.fix x hx'
/-- an own object in a slot is changed in place -/
theorem StF.mutate (h : StF K B F H σ ε tmp fp) {i : Nat} {s : SV} (e : ε[i]? = some s) (hs : s ≠ .un) : ∃ v f, σ[i]? = some (some v) ∧ Own K F H s v f ∧ (∀ p ∈ f, p ∈ fp) ∧
    ∀ p ∈ f, ∀ o s', Own K F (upd H p o) s' v f → StF K B F (upd H p o) σ (ε.set i s') tmp fp := by
  obtain ⟨o, ft, f1, f, f2, e1, rfl, h3, h4, h5, h6⟩ := h.slot e
  cases o with
  | none => exact absurd h4.1 hs
  | some v =>
    refine ⟨v, f, e1, h4, fun p hp => by simp [hp], fun p hp u s' h' => ?_⟩
    have hz : i < (σ.zip ε).length := by
      have := h.len
      have := (List.getElem?_eq_some_iff.mp e1).1
      simp; omega
    have nd := List.nodup_append.mp h.nd
    have nd2 := List.nodup_append.mp nd.2.1
    have nd3 := List.nodup_append.mp nd2.2.1
    have a1 : ∀ q ∈ ft, q ≠ p := fun q hq z => nd.2.2 q hq p (by simp [hp]) z
    have a2 : ∀ q ∈ f1, q ≠ p := fun q hq z => nd2.2.2 q hq p (by simp [hp]) z
    have a3 : ∀ q ∈ f2, q ≠ p := fun q hq z => nd3.2.2 p hp q hq z.symm
    have hF : F p = none := h.out p (by simp [hp])
    have hσ : σ.set i (some v) = σ := by
      obtain ⟨hi, ev⟩ := List.getElem?_eq_some_iff.mp e1
      rw [← ev]; exact List.set_getElem_self hi
    refine h.rebuild (Same.refl F) (fun b w q => ?_) (fun q w z hq => ?_) (fun q w z => ?_) (fun p o q => .inl q) (by simpa using h.len) ?_ h.nd h.out (fun p hp => .inl hp) h.fix
    · rw [upd_ne (ne_of_none q hF)]; exact h.sub _ _ q
    · rw [upd_ne (fun z => hq (by subst z; simp [hp]))]; exact z
    · by_cases y : q = p
      · subst y; exact ⟨_, upd_same⟩
      · exact ⟨w, by rw [upd_ne y]; exact z⟩
    · show OwnL K F _ (tmp.map (fun t => (some t.1, t.2)) ++ σ.zip (ε.set i s')) _
      have hzs : σ.zip (ε.set i s') = (σ.zip ε).set i (some v, s') := by
        rw [← zip_set, hσ]
      rw [hzs]
      exact OwnL.join (h3.mono (Same.refl F) fun q hq => upd_ne (a1 q hq)) (OwnL.put hz (h5.mono (Same.refl F) fun q hq => upd_ne (a2 q hq)) h' (h6.mono (Same.refl F) fun q hq => upd_ne (a3 q hq)))
end
/-! ### pending values, several -/
def zipR : List V → List SV → Tp
  | v :: vs, r :: rs => zipR vs rs ++ [(v, r)]
  | _, _ => []
def toDs : List SV → Option (List D)
  | [] => some []
  | s :: r => match s.toD with
    | some d => match toDs r with
      | some ds => some (d :: ds)
      | none => none
    | none => none
section
variable {K : Fg} {B : Bs} {F H : Hp} {σ : L2.St} {ε : Ep} {tmp : Tp} {fp : List Addr}
theorem StF.data : ∀ {rs : List SV} {vs : List V} {ds : List D} {tmp : Tp} {fp : List Addr}, StF K B F H σ ε (zipR vs rs ++ tmp) fp → vs.length = rs.length → toDs rs = some ds →
    ∃ F' fp', Same F F' ∧ StF K B F' H σ ε tmp fp' ∧ Reps K F' ds vs
  | [], [], ds, tmp, fp, h, _, t => by
    unfold toDs at t; cases t
    exact ⟨F, fp, Same.refl F, h, .nil⟩
  | r :: rs, v :: vs, ds, tmp, fp, h, hl, t => by
    unfold toDs at t
    cases z : r.toD with
    | none => rw [z] at t; cases t
    | some d =>
      cases z2 : toDs rs with
      | none => rw [z, z2] at t; cases t
      | some ds' =>
        rw [z, z2] at t; cases t
        have h' : StF K B F H σ ε (zipR vs rs ++ ((v, r) :: tmp)) fp := by
          have := h
          simp only [zipR, List.append_assoc, List.singleton_append] at this
          exact this
        obtain ⟨F1, fp1, e1, h1, r1⟩ := StF.data h' (by simpa using hl) z2
        obtain ⟨F2, fp2, e2, h2⟩ := h1.freeze rfl z
        obtain ⟨r2, h3⟩ := h2.datum rfl
        exact ⟨F2, fp2, e1.trans e2, h3, .cons r2 (Reps.mono e2 _ _ r1)⟩
  | [], _ :: _, _, _, _, _, hl, _ => by simp at hl
  | _ :: _, [], _, _, _, _, hl, _ => by simp at hl
end
end Dv

-- Dv2
namespace Dv
open PySem PySem.Spec PyProof.Rows L2

/-- an exception: its class's name, its own fields -/
structure Xc where
  C : Str
  fs : List (Str × D)
/-- what comes: a value; an exception; or nothing is told -/
inductive Ot (α : Type) where
  | ok (a : α)
  | err (x : Xc)
  | stuck
def Ot.bd {α β : Type} (x : Ot α) (f : α → Ot β) : Ot β := match x with
  | .ok a => f a
  | .err e => .err e
  | .stuck => .stuck
def ofO {α : Type} : Option α → Ot α
  | some a => .ok a
  | none => .stuck
theorem Ot.bd_ok {α β : Type} {a : α} {f : α → Ot β} : (Ot.ok a).bd f = f a := rfl
theorem Ot.bd_err {α β : Type} {e : Xc} {f : α → Ot β} : (Ot.err e : Ot α).bd f = .err e := rfl
theorem Ot.bd_stuck {α β : Type} {f : α → Ot β} : (Ot.stuck : Ot α).bd f = .stuck := rfl
theorem ofO_some {α : Type} {a : α} : ofO (some a) = .ok a := rfl
theorem ofO_none {α : Type} : ofO (none : Option α) = .stuck := rfl
def XFs (K : Fg) (F H : Hp) (dd : Option Addr) (fs : List (Str × D)) : Prop := match dd with
  | none => fs = []
  | some d => ∃ gs, H d = some (.xd gs) ∧ RepF K F fs gs
def XSt (K : Fg) (B : Bs) (H : Hp) (σ : L2.St) (ε : Ep) (c : Value) (dd : Option Addr) (x : Xc) : Prop := ∃ F fp, StF K B F H σ ε [] fp ∧ c = .ref (He.ga K x.C) ∧ XFs K F H dd x.fs
def wP (K : Fg) (E : XK) (B : Bs) (σ : L2.St) (ε : Ep) (tmp : Tp) (H : Hp) (Q : VK) : Ot SV → Prop
  | .ok r => ∀ v H', Sta K B H' σ ε ((v, r) :: tmp) → Same H H' → Q v H'
  | .err x => ∀ c dd H', XSt K B H' σ ε c dd x → E c dd H'
  | .stuck => False
/-! ### what an expression does: the slots may change -/
inductive Rs (α : Type) where
  | ok (a : α) (ε : Ep)
  | err (x : Xc) (ε : Ep)
  | stuck
abbrev M (α : Type) := Ep → Rs α
def Rs.bd {α β : Type} (x : Rs α) (k : α → M β) : Rs β := match x with
  | .ok a ε => k a ε
  | .err e ε => .err e ε
  | .stuck => .stuck
def bd {α β : Type} (m : M α) (k : α → M β) : M β := fun ε => (m ε).bd k
def pr {α : Type} (a : α) : M α := fun ε => .ok a ε
def lft {α : Type} (o : Ot α) : M α := fun ε => match o with
  | .ok a => .ok a ε
  | .err x => .err x ε
  | .stuck => .stuck
theorem Rs.bd_ok {α β : Type} {a : α} {ε : Ep} {k : α → M β} : (Rs.ok a ε).bd k = k a ε := rfl
theorem lft_ok {α : Type} {a : α} {ε : Ep} : lft (.ok a) ε = .ok a ε := rfl
theorem lft_err {α : Type} {x : Xc} {ε : Ep} : lft (.err x : Ot α) ε = .err x ε := rfl
theorem lft_stuck {α : Type} {ε : Ep} : lft (.stuck : Ot α) ε = .stuck := rfl
abbrev ME := M SV
abbrev MT := M Bool
abbrev MA := M (List SV)
/-- where it is known to leave all as it was -/
def Pq (pu : Bool) (ε : Ep) (H : Hp) (ε' : Ep) (H' : Hp) : Prop := pu = true → ε' = ε ∧ Same H H'
theorem Pq.refl {pu : Bool} {ε : Ep} {H : Hp} : Pq pu ε H ε H := fun _ => ⟨rfl, Same.refl H⟩
theorem Pq.of {pu : Bool} {ε : Ep} {H H' : Hp} (s : Same H H') : Pq pu ε H ε H' := fun _ => ⟨rfl, s⟩
theorem Pq.trans {pu : Bool} {ε ε' ε'' : Ep} {H H' H'' : Hp} (a : Pq pu ε H ε' H') (b : Pq pu ε' H' ε'' H'') : Pq pu ε H ε'' H'' := fun p => ⟨(b p).1.trans (a p).1, (a p).2.trans (b p).2⟩
def gP (K : Fg) (E : XK) (pu : Bool) (B : Bs) (σ : L2.St) (tmp : Tp) (Q : VK) (ε : Ep) (H : Hp) : Rs SV → Prop
  | .ok r ε' => ∀ v H', Sta K B H' σ ε' ((v, r) :: tmp) → Pq pu ε H ε' H' → Q v H'
  | .err x ε' => ∀ c dd H', XSt K B H' σ ε' c dd x → E c dd H'
  | .stuck => False
def gT (K : Fg) (E : XK) (pu : Bool) (B : Bs) (σ : L2.St) (tmp : Tp) (Q : Bool → Hp → Prop) (ε : Ep) (H : Hp) : Rs Bool → Prop
  | .ok b ε' => ∀ H', Sta K B H' σ ε' tmp → Pq pu ε H ε' H' → Q b H'
  | .err x ε' => ∀ c dd H', XSt K B H' σ ε' c dd x → E c dd H'
  | .stuck => False
def gA (K : Fg) (E : XK) (pu : Bool) (B : Bs) (σ : L2.St) (tmp : Tp) (Q : List V → Hp → Prop) (ε : Ep) (H : Hp) : Rs (List SV) → Prop
  | .ok rs ε' => ∀ vs H', vs.length = rs.length → Sta K B H' σ ε' (zipR vs rs ++ tmp) → Pq pu ε H ε' H' → Q vs H'
  | .err x ε' => ∀ c dd H', XSt K B H' σ ε' c dd x → E c dd H'
  | .stuck => False
/-- a wish for a result -/
structure Wi (K : Fg) (E : XK) (pu : Bool) (B : Bs) (σ : L2.St) (α : Type) where
  W : Ep → Hp → Rs α → Prop
  we : ∀ ε H x ε', W ε H (.err x ε') → ∀ c dd H', XSt K B H' σ ε' c dd x → E c dd H'
  ws : ∀ ε H, ¬ W ε H .stuck
  wq : ∀ ε H ε' H' o, Pq pu ε H ε' H' → W ε H o → W ε' H' o
section
variable {K : Fg} {E : XK} {pu : Bool} {B : Bs} {σ : L2.St}
def wiP (tmp : Tp) (Q : VK) : Wi K E pu B σ SV where
  W := gP K E pu B σ tmp Q
  we := fun _ _ _ _ w => w
  ws := fun _ _ w => w
  wq := fun ε H ε' H' o p w => by
    cases o with
    | ok r ε2 => exact fun v H2 h q => w v H2 h (p.trans q)
    | err x ε2 => exact w
    | stuck => exact w
def wiT (tmp : Tp) (Q : Bool → Hp → Prop) : Wi K E pu B σ Bool where
  W := gT K E pu B σ tmp Q
  we := fun _ _ _ _ w => w
  ws := fun _ _ w => w
  wq := fun ε H ε' H' o p w => by
    cases o with
    | ok r ε2 => exact fun H2 h q => w H2 h (p.trans q)
    | err x ε2 => exact w
    | stuck => exact w
def wiA (tmp : Tp) (Q : List V → Hp → Prop) : Wi K E pu B σ (List SV) where
  W := gA K E pu B σ tmp Q
  we := fun _ _ _ _ w => w
  ws := fun _ _ w => w
  wq := fun ε H ε' H' o p w => by
    cases o with
    | ok r ε2 => exact fun v H2 hl h q => w v H2 hl h (p.trans q)
    | err x ε2 => exact w
    | stuck => exact w
end
def tP (K : Fg) (E : XK) (pu : Bool) (m : ME) : TE := fun σ H Q => ∃ B ε tmp, Sta K B H σ ε tmp ∧ gP K E pu B σ tmp Q ε H (m ε)
def tT (K : Fg) (E : XK) (pu : Bool) (m : MT) : TT := fun σ H Q => ∃ B ε tmp, Sta K B H σ ε tmp ∧ gT K E pu B σ tmp Q ε H (m ε)
def tA (K : Fg) (E : XK) (pu : Bool) (m : MA) : TA := fun σ H Q => ∃ B ε tmp, Sta K B H σ ε tmp ∧ gA K E pu B σ tmp Q ε H (m ε)
/-- the judgements: an expression, a test, arguments, on data -/
def SP (X : Cx) (E : XK) (pu : Bool) (e : Expr) (m : ME) : Prop := PE X e (tP X.K E pu m)
def ST (X : Cx) (E : XK) (pu : Bool) (e : Expr) (m : MT) : Prop := PT X e (tT X.K E pu m)
def SW (X : Cx) (E : XK) (pu : Bool) (e : Expr) (m : MT) : Prop := PW X e (tT X.K E pu m)
def SA (X : Cx) (E : XK) (pu : Bool) (es : List Expr) (m : MA) : Prop := PA X es (tA X.K E pu m)

theorem pe_imp {X : Cx} {e : Expr} {t t' : TE} (h : PE X e t) (w : ∀ pins s σ H Q, Inv X pins σ H s → t' σ H Q → t σ H Q) : PE X e t' := ⟨fun pins s σ H Q I q => h.run pins s σ H Q I (w _ _ _ _ _ I q)⟩
theorem pt_imp {X : Cx} {e : Expr} {t t' : TT} (h : PT X e t) (w : ∀ pins s σ H Q, Inv X pins σ H s → t' σ H Q → t σ H Q) : PT X e t' := ⟨fun pins s σ H Q I q => h.run pins s σ H Q I (w _ _ _ _ _ I q)⟩
theorem pw_imp {X : Cx} {e : Expr} {t t' : TT} (h : PW X e t) (w : ∀ pins s σ H Q, Inv X pins σ H s → t' σ H Q → t σ H Q) : PW X e t' := ⟨fun wh pins s σ H Q I q => h.run wh pins s σ H Q I (w _ _ _ _ _ I q)⟩
theorem pa_imp {X : Cx} {e : List Expr} {t t' : TA} (h : PA X e t) (w : ∀ pins s σ H Q, Inv X pins σ H s → t' σ H Q → t σ H Q) : PA X e t' := ⟨fun pos pins s σ H Q I q => h.run pos pins s σ H Q I (w _ _ _ _ _ I q)⟩
theorem ps_imp {X : Cx} {e : Stmt} {t t' : TS} (h : PS X e t) (w : ∀ pins s σ H D, Inv X pins σ H s → t' D σ H → t D σ H) : PS X e t' := ⟨fun pins s σ H Q I q => h.run pins s σ H Q I (w _ _ _ _ _ I q)⟩
theorem pss_imp {X : Cx} {e : List Stmt} {t t' : TS} (h : PSs X e t) (w : ∀ pins s σ H D, Inv X pins σ H s → t' D σ H → t D σ H) : PSs X e t' := ⟨fun pins s σ H Q I q => h.run pins s σ H Q I (w _ _ _ _ _ I q)⟩

/-- a datum's value -/
abbrev okd (d : D) : Ot SV := .ok (.dat d)
section
variable {K : Fg} {B : Bs} {F H : Hp} {σ : L2.St} {ε : Ep} {tmp : Tp} {fp : List Addr} {E : XK}
theorem Sta.push (h : Sta K B H σ ε tmp) {v : V} {d : D} (r : ∀ F, Rep K F d v) : Sta K B H σ ε ((v, .dat d) :: tmp) := by
  obtain ⟨F, fp, h⟩ := h
  exact ⟨F, fp, h.push (r F)⟩
theorem Sta.pop (h : Sta K B H σ ε tmp) {x : V × SV} {tmp' : Tp} (e : tmp = x :: tmp') : Sta K B H σ ε tmp' := by
  obtain ⟨F, fp, h⟩ := h
  obtain ⟨f1, f2, rfl, _, h2⟩ := h.pop e
  exact ⟨F, f2, h2⟩
theorem Sta.drop : ∀ {t1 tmp : Tp}, Sta K B H σ ε (t1 ++ tmp) → Sta K B H σ ε tmp
  | [], _, h => h
  | _ :: _, _, h => Sta.drop (h.pop rfl)
/-- the last value as a datum -/
theorem Sta.datum (h : Sta K B H σ ε tmp) {v : V} {s : SV} {d : D} {tmp' : Tp} (e : tmp = (v, s) :: tmp') (t : s.toD = some d) : ∃ F fp, StF K B F H σ ε tmp' fp ∧ Rep K F d v := by
  obtain ⟨F, fp, h⟩ := h
  obtain ⟨F1, fp1, e1, h1⟩ := h.freeze e t
  obtain ⟨r, h2⟩ := h1.datum rfl
  exact ⟨F1, fp1, h2, r⟩
/-- the last two -/
theorem Sta.data2 (h : Sta K B H σ ε tmp) {x y : V} {r1 r2 : SV} {d1 d2 : D} {tmp' : Tp} (e : tmp = (y, r2) :: (x, r1) :: tmp') (t1 : r1.toD = some d1) (t2 : r2.toD = some d2) :
    ∃ F fp, StF K B F H σ ε tmp' fp ∧ Rep K F d1 x ∧ Rep K F d2 y := by
  obtain ⟨F, fp, h⟩ := h
  obtain ⟨F1, fp1, e1, h1⟩ := h.freeze e t2
  obtain ⟨r, h2⟩ := h1.datum rfl
  obtain ⟨F2, fp2, e2, h3⟩ := h2.freeze rfl t1
  obtain ⟨r', h4⟩ := h3.datum rfl
  exact ⟨F2, fp2, h4, r', Rep.mono e2 _ _ r⟩
theorem StF.sta (h : StF K B F H σ ε tmp fp) : Sta K B H σ ε tmp := ⟨F, fp, h⟩
theorem StF.pushS (h : StF K B F H σ ε tmp fp) {v : V} {d : D} (r : Rep K F d v) : Sta K B H σ ε ((v, .dat d) :: tmp) := ⟨F, fp, h.push r⟩
/-- a datum that leans on nothing -/
theorem rep_bl {b : Bool} : Rep K F (.bl b) (.bl b) := by unfold Rep; rfl
theorem rep_int {b : Int} : Rep K F (.int b) (.int b) := by unfold Rep; rfl
theorem rep_non : Rep K F .non .non := by unfold Rep; rfl
theorem rep_str {b : Str} (h : b.length ≤ sizeLine) : Rep K F (.str b) (.str b) := by unfold Rep; exact ⟨rfl, h⟩
end

/-! ### in sequence -/
section
variable {K : Fg} {E : XK} {pu : Bool} {B : Bs} {σ : L2.St} {ε : Ep} {tmp : Tp} {H H' : Hp} {α : Type}
/-- a pure result at the end -/
theorem gP_of {o : Ot SV} {Q : VK} (w : gP K E pu B σ tmp Q ε H (lft o ε)) : wP K E B σ ε tmp H Q o := by
  cases o with
  | ok r => exact fun v H' h s => w v H' h (Pq.of s)
  | err x => exact w
  | stuck => exact w
/-- first an expression: then what follows with its value pending -/
theorem gex (w : Wi K E pu B σ α) {m : ME} {k : SV → M α} (h : Sta K B H σ ε tmp) (q : w.W ε H (bd m k ε)) {Q' : VK}
    (hk : ∀ r v ε' H', Sta K B H' σ ε' ((v, r) :: tmp) → w.W ε' H' (k r ε') → Q' v H') : tP K E pu m σ H Q' := by
  refine ⟨B, ε, tmp, h, ?_⟩
  unfold bd at q
  cases e : m ε with
  | ok r ε' => rw [e] at q; exact fun v H' h' p => hk r v ε' H' h' (w.wq _ _ _ _ _ p q)
  | err x ε' => rw [e] at q; exact w.we _ _ _ _ q
  | stuck => rw [e] at q; exact (w.ws _ _ q).elim
/-- first a test -/
theorem gte (w : Wi K E pu B σ α) {m : MT} {k : Bool → M α} (h : Sta K B H σ ε tmp) (q : w.W ε H (bd m k ε)) {Q' : Bool → Hp → Prop}
    (hk : ∀ b ε' H', Sta K B H' σ ε' tmp → w.W ε' H' (k b ε') → Q' b H') : tT K E pu m σ H Q' := by
  refine ⟨B, ε, tmp, h, ?_⟩
  unfold bd at q
  cases e : m ε with
  | ok r ε' => rw [e] at q; exact fun H' h' p => hk r ε' H' h' (w.wq _ _ _ _ _ p q)
  | err x ε' => rw [e] at q; exact w.we _ _ _ _ q
  | stuck => rw [e] at q; exact (w.ws _ _ q).elim
/-- first arguments -/
theorem gar (w : Wi K E pu B σ α) {m : MA} {k : List SV → M α} (h : Sta K B H σ ε tmp) (q : w.W ε H (bd m k ε)) {Q' : List V → Hp → Prop}
    (hk : ∀ rs vs ε' H', vs.length = rs.length → Sta K B H' σ ε' (zipR vs rs ++ tmp) → w.W ε' H' (k rs ε') → Q' vs H') : tA K E pu m σ H Q' := by
  refine ⟨B, ε, tmp, h, ?_⟩
  unfold bd at q
  cases e : m ε with
  | ok r ε' => rw [e] at q; exact fun v H' hl h' p => hk r v ε' H' hl h' (w.wq _ _ _ _ _ p q)
  | err x ε' => rw [e] at q; exact w.we _ _ _ _ q
  | stuck => rw [e] at q; exact (w.ws _ _ q).elim
/-- a pure step -/
theorem Wi.lft {o : Ot α} {β : Type} (w : Wi K E pu B σ β) {k : α → M β} (q : w.W ε H (bd (lft o) k ε)) : (∃ a, o = .ok a ∧ w.W ε H (k a ε)) ∨ ∃ x, o = .err x ∧ ∀ c dd H', XSt K B H' σ ε c dd x → E c dd H' := by
  cases o with
  | ok a => exact .inl ⟨a, rfl, q⟩
  | err x => exact .inr ⟨x, rfl, w.we _ _ _ _ q⟩
  | stuck => exact (w.ws _ _ q).elim
theorem Wi.ofO {o : Option α} {β : Type} (w : Wi K E pu B σ β) {k : α → M β} (q : w.W ε H (bd (Dv.lft (Dv.ofO o)) k ε)) : ∃ a, o = some a ∧ w.W ε H (k a ε) := by
  cases o with
  | some a => exact ⟨a, rfl, q⟩
  | none => exact (w.ws _ _ q).elim
end
/-- what is pure may stand where it need not be -/
theorem gP.up {K : Fg} {E : XK} {B : Bs} {σ : L2.St} {tmp : Tp} {Q : VK} {ε : Ep} {H : Hp} {o : Rs SV} {pu : Bool} (w : gP K E pu B σ tmp Q ε H o) : gP K E true B σ tmp Q ε H o := by
  cases o with
  | ok r ε' => exact fun v H' h p => w v H' h fun _ => p rfl
  | err x ε' => exact w
  | stuck => exact w
theorem SP.up {X : Cx} {E : XK} {pu : Bool} {e : Expr} {m : ME} (h : SP X E true e m) : SP X E pu e m := pe_imp h fun pins s σ H Q I ⟨B, ε, tmp, hs, w⟩ => ⟨B, ε, tmp, hs, w.up⟩

/-! ### leaves -/
def cC (d : D) : ME := pr (.dat d)
def cV (i : Nat) : ME := fun ε => match ε[i]? with
  | some (.dat d) => .ok (.dat d) ε
  | _ => .stuck
section
variable {X : Cx} {E : XK} {pu : Bool} {pos : Pos}
theorem sp_int {i j} : SP X E pu (.Constant (.int i) j pos) (cC (.int i)) := pe_imp pe_int fun pins s σ H Q I ⟨B, ε, tmp, h, w⟩ => w _ H (h.push fun F => rep_int) Pq.refl
theorem sp_bl {i j} : SP X E pu (.Constant (.bool i) j pos) (cC (.bl i)) := pe_imp pe_bl fun pins s σ H Q I ⟨B, ε, tmp, h, w⟩ => w _ H (h.push fun F => rep_bl) Pq.refl
theorem sp_non {j} : SP X E pu (.Constant .none j pos) (cC .non) := pe_imp pe_non fun pins s σ H Q I ⟨B, ε, tmp, h, w⟩ => w _ H (h.push fun F => rep_non) Pq.refl
theorem sp_str {x j} (hl : x.length ≤ sizeLine) : SP X E pu (.Constant (.str x) j pos) (cC (.str x)) := pe_imp pe_str fun pins s σ H Q I ⟨B, ε, tmp, h, w⟩ => w _ H (h.push fun F => rep_str hl) Pq.refl
theorem sp_var (i : Nat) {x : Str} (hN : X.N[i]? = some x := by rfl) (hv : Vis X.env.scope x := by first | exact Or.inl rfl | exact Or.inr (Or.inl rfl) | exact Or.inr (Or.inr rfl)) (hd : (x == ("__debug__" : Str)) = false := by decide)
    (hcd : (x == ("__classdict__" : Str)) = false := by decide) : SP X E pu (.Name x pos) (cV i) := pe_imp (pe_var hN hv hd hcd) fun pins s σ H Q I ⟨B, ε, tmp, h, w⟩ => by
  unfold cV at w
  cases q : ε[i]? with
  | none => rw [q] at w; exact w.elim
  | some r =>
    rw [q] at w
    cases r with
    | dat d =>
      obtain ⟨F, fp, h⟩ := h
      obtain ⟨v, e1, r⟩ := h.read q
      exact ⟨v, e1, w v H (h.pushS r) Pq.refl⟩
    | _ => exact w.elim
theorem sp_glob {x : Str} {v : V} {u : Value} {d : D} (hg : Gl X x) (hm : X.mg x = some u) (r : RelV v u) (hr : ∀ F, Rep X.K F d v) (hd : (x == ("__debug__" : Str)) = false := by decide) : SP X E pu (.Name x pos) (cC d) :=
  pe_imp (pe_glob hg hm r hd) fun pins s σ H Q I ⟨B, ε, tmp, h, w⟩ => w v H (h.push hr) Pq.refl
end
/-! ### operations on two values -/
def c2 (f : SV → SV → Ot SV) (a b : ME) : ME := bd a fun x => bd b fun y => lft (f x y)
def c1 (f : SV → Ot SV) (a : ME) : ME := bd a fun x => lft (f x)
/-- on data -/
def l2 (g : D → D → Ot SV) : SV → SV → Ot SV := fun x y => (ofO x.toD).bd fun a => (ofO y.toD).bd fun b => g a b
def l1 (g : D → Ot SV) : SV → Ot SV := fun x => (ofO x.toD).bd g
/-- what an operation of two pending values gives -/
def R2of (X : Cx) (E : XK) (f : SV → SV → Ot SV) : R2 := fun x y H Q => ∃ B σ ε tmp r1 r2, Sta X.K B H σ ε ((y, r2) :: (x, r1) :: tmp) ∧ wP X.K E B σ ε tmp H Q (f r1 r2)
def Op2 (X : Cx) (E : XK) (g : Value → Value → Sem Value) (f : SV → SV → Ot SV) : Prop := OpR X g (R2of X E f)
theorem wP.same {K : Fg} {E : XK} {B : Bs} {σ : L2.St} {ε : Ep} {tmp : Tp} {H H' : Hp} {Q : VK} {o : Ot SV} (s : Same H H') (w : wP K E B σ ε tmp H Q o) : wP K E B σ ε tmp H' Q o := by
  cases o with
  | ok r => exact fun v H2 h s2 => w v H2 h (s.trans s2)
  | err x => exact w
  | stuck => exact w
section
variable {X : Cx} {E : XK} {pu : Bool} {a b c : Expr} {ma mb mc : ME} {pos : Pos} {f f' : SV → SV → Ot SV}
theorem sp_bin {op : Operator} (ho : Op2 X E (binaryOp op) f) (ha : SP X E pu a ma) (hb : SP X E pu b mb) : SP X E pu (.BinOp a op b pos) (c2 f ma mb) :=
  pe_imp (pe_op ho ha hb) fun pins s σ H Q I ⟨B, ε, tmp, h, w⟩ => gex (wiP tmp Q) h w fun r1 v1 ε1 H1 h1 w1 => gex (wiP tmp Q) h1 w1 fun r2 v2 ε2 H2 h2 w2 => ⟨B, σ, ε2, tmp, r1, r2, h2, gP_of w2⟩
theorem sp_cmp {op : CmpOp} (ho : Op2 X E (compareOp op) f) (ha : SP X E pu a ma) (hb : SP X E pu b mb) (hm : behindInMarks op b = false) : SP X E pu (.Compare a [op] [b] pos) (c2 f ma mb) :=
  pe_imp (pe_cmpR ho ha hb hm) fun pins s σ H Q I ⟨B, ε, tmp, h, w⟩ => gex (wiP tmp Q) h w fun r1 v1 ε1 H1 h1 w1 => gex (wiP tmp Q) h1 w1 fun r2 v2 ε2 H2 h2 w2 => ⟨B, σ, ε2, tmp, r1, r2, h2, gP_of w2⟩
end

/-! ### truth, tests -/
def D.tru : D → Bool
  | .non => false
  | .bl b => b
  | .int i => i != 0
  | .str x => (x.length : Int) != 0
  | .lst xs => !xs.isEmpty
  | .tup xs => !xs.isEmpty
  | .frl xs => !xs.isEmpty
  | .dct _ kvs => !kvs.isEmpty
  | .obj _ _ => true
/-- its truth, where it is told -/
def D.tru? : D → Option Bool
  | .obj _ _ => none
  | d => some d.tru
theorem isEmpty_len {α β : Type} {xs : List α} {ys : List β} (h : xs.length = ys.length) : xs.isEmpty = ys.isEmpty := by
  cases xs <;> cases ys <;> simp at h <;> rfl
theorem RepK.length {K : Fg} {F : Hp} : ∀ {d : List (Key × D)} {v : List (Key × V)}, RepK K F d v → v.length = d.length
  | [], v, h => by unfold RepK at h; subst h; rfl
  | (k, d) :: ds, v, h => by
    unfold RepK at h
    obtain ⟨v, r, rfl, _, _, h2⟩ := h
    simp [RepK.length h2]
theorem tru_rep {K : Fg} {F H : Hp} {d : D} {v : V} {b : Bool} (r : Rep K F d v) (s : Same F H) (ht : d.tru? = some b) : (∃ lk kvs, d = .dct lk kvs ∧ ∃ p o ks, v = .ref p ∧ H p = some (.frz o (.dK ks))) ∨ TruV K v H b := by
  cases d with
  | non => unfold Rep at r; subst r; cases ht; exact .inr rfl
  | bl b => unfold Rep at r; subst r; cases ht; exact .inr rfl
  | int b => unfold Rep at r; subst r; cases ht; exact .inr rfl
  | str b => unfold Rep at r; obtain ⟨rfl, h⟩ := r; cases ht; exact .inr ⟨h, rfl⟩
  | lst xs =>
    unfold Rep at r; cases ht
    obtain ⟨a, vs, rfl, h1, h2⟩ := r
    refine .inr (.inl ⟨vs, SqL.of (s _ _ h1), ?_⟩)
    show (!xs.isEmpty) = _
    rw [isEmpty_len h2.length]
  | frl xs =>
    unfold Rep at r; cases ht
    obtain ⟨a, vs, rfl, h1, h2⟩ := r
    refine .inr (.inl ⟨vs, s.seq h1, ?_⟩)
    show (!xs.isEmpty) = _
    rw [isEmpty_len h2.length]
  | tup xs =>
    unfold Rep at r; cases ht
    obtain ⟨a, vs, rfl, h1, h2⟩ := r
    refine .inr (.inr (.inl ⟨vs, SqT.same s h1, ?_⟩))
    show (!xs.isEmpty) = _
    rw [isEmpty_len h2.length]
  | dct lk xs =>
    unfold Rep at r; cases ht
    obtain ⟨a, vs, rfl, ⟨h1, _⟩, h2⟩ := r
    rcases Rd.same s h1 with h1 | ⟨o, h1⟩
    · refine .inr (.inr (.inr ⟨vs, h1, ?_⟩))
      show (!xs.isEmpty) = _
      rw [isEmpty_len h2.length]
    · exact .inl ⟨_, _, rfl, _, _, _, rfl, h1⟩
  | obj C fs => cases ht
theorem tru_okD {X : Cx} : TruR X (fun x H Q => ∃ F d b, Same F H ∧ Rep X.K F d x ∧ d.tru? = some b ∧ Q b H) := by
  intro pins s σ H x v Q I rx h
  obtain ⟨F, d, b, sF, r, ht, q⟩ := h
  rcases tru_rep r sF ht with ⟨lk, kvs, rfl, p, o, ks, rfl, hp⟩ | z
  · cases rx
    unfold Rep at r
    obtain ⟨a, ks', e, ⟨h1, _⟩, h2⟩ := r
    cases e
    have e2 : ks' = ks := by
      rcases Rd.same sF h1 with h1 | ⟨o', h1⟩
      · rw [hp] at h1; cases h1
      · rw [hp] at h1; cases h1; rfl
    subst e2
    refine d_truth I (kvs := ks') (.inr ⟨o, hp⟩) fun s' I' => ⟨H, I', ?_⟩
    have : (!ks'.isEmpty) = b := by
      cases ht
      show _ = (!kvs.isEmpty)
      rw [isEmpty_len h2.length]
    rw [this]; exact q
  · exact tru_ok pins s σ H x v Q I rx ⟨b, z, q⟩
/-- the truth of a value -/
def tB (m : ME) : MT := bd m fun r => bd (lft (ofO r.toD)) fun d => lft (ofO d.tru?)
/-- of a bool -/
def asB : SV → Ot Bool
  | .dat (.bl b) => .ok b
  | _ => .stuck
def tL (m : ME) : MT := bd m fun r => lft (asB r)
theorem asB_ok {r : SV} {b : Bool} (h : asB r = .ok b) : r = .dat (.bl b) := by
  unfold asB at h
  split at h
  · cases h; rfl
  · cases h
theorem asB_err {r : SV} {x : Xc} (h : asB r = .err x) : False := by
  unfold asB at h
  split at h <;> cases h
section
variable {X : Cx} {E : XK} {pu : Bool} {a b c : Expr} {ma mb mc : ME} {ta tb tc : MT} {pos : Pos} {rest : List Expr} {K : Fg} {B : Bs} {σ : L2.St} {ε : Ep} {tmp : Tp} {H : Hp}
/-- the last pending value is a bool -/
theorem Sta.bool (h : Sta K B H σ ε tmp) {v : V} {r : SV} {b : Bool} {tmp' : Tp} (e : tmp = (v, r) :: tmp') (q : asB r = .ok b) : v = .bl b ∧ Sta K B H σ ε tmp' := by
  have := asB_ok q; subst this
  obtain ⟨F, fp, h⟩ := h
  obtain ⟨r, h2⟩ := h.datum e
  unfold Rep at r
  exact ⟨r, F, fp, h2⟩
theorem gbool {α : Type} (w : Wi K E pu B σ α) {v : V} {r : SV} {k : Bool → M α} (h : Sta K B H σ ε ((v, r) :: tmp)) (q : w.W ε H (bd (lft (asB r)) k ε)) : ∃ c, v = .bl c ∧ Sta K B H σ ε tmp ∧ w.W ε H (k c ε) := by
  rcases w.lft q with ⟨c, e, q'⟩ | ⟨x, e, _⟩
  · obtain ⟨e, h'⟩ := h.bool rfl e
    exact ⟨c, e, h', q'⟩
  · exact (asB_err e).elim
/-- an expression as a test (a name, a call, a subscript ..) -/
theorem st_val (ha : SP X E pu a ma) (he : ∀ whole, isTrue a X.env whole = (do let v ← whole; standAt a.pos; holding [v] (truthy v)) := by intro _; rfl) : ST X E pu a (tB ma) := by
  have ht : PT X a (fun σ H Q => tP X.K E pu ma σ H fun x H' => ∃ F d b, Same F H' ∧ Rep X.K F d x ∧ d.tru? = some b ∧ Q b H') := by
    refine ⟨fun pins s σ H Q I h => ?_⟩
    exact isTrue_plain (thn (ha.run pins s σ H _ I h) fun v s1 ⟨x, H1, I1, r1, q1⟩ => tru_okD pins s1 σ H1 x v Q I1 r1 q1) (he _)
  refine pt_imp ht fun pins s σ H Q I ⟨B, ε, tmp, h, w⟩ => gex (wiT tmp Q) h w fun r v ε' H' h' w' => ?_
  obtain ⟨d, q2, w2⟩ := (wiT tmp Q).ofO w'
  obtain ⟨F, fp, hF, r⟩ := h'.datum rfl q2
  cases q3 : d.tru? with
  | none => rw [q3] at w2; exact w2.elim
  | some b => rw [q3] at w2; exact ⟨F, d, b, hF.sub, r, q3, w2 H' hF.sta Pq.refl⟩
theorem st_cmp {op : CmpOp} {f : SV → SV → Ot SV} (ho : Op2 X E (compareOp op) f) (ha : SP X E pu a ma) (hb : SP X E pu b mb) (hm : behindInMarks op b = false) : ST X E pu (.Compare a [op] [b] pos) (tL (c2 f ma mb)) := by
  refine pt_imp (pt_cmpR ho ha hb hm) fun pins s σ H Q I ⟨B, ε, tmp, h, w⟩ => ?_
  have e : tL (c2 f ma mb) = bd ma fun x => bd mb fun y => bd (lft (f x y)) fun r => lft (asB r) := by
    funext ε
    unfold tL c2 bd
    cases ma ε with
    | ok r ε1 =>
      show Rs.bd (Rs.bd (mb ε1) _) _ = Rs.bd (mb ε1) _
      cases mb ε1 <;> rfl
    | err x ε1 => rfl
    | stuck => rfl
  rw [e] at w
  refine gex (wiT tmp Q) h w fun r1 v1 ε1 H1 h1 w1 => gex (wiT tmp Q) h1 w1 fun r2 v2 ε2 H2 h2 w2 => ?_
  refine ⟨B, σ, ε2, tmp, r1, r2, h2, ?_⟩
  cases q3 : f r1 r2 with
  | err e => rw [q3] at w2; exact w2
  | stuck => rw [q3] at w2; exact w2.elim
  | ok r3 =>
    rw [q3] at w2
    intro v3 H3 h3 s3
    have w3 : (wiT (K := X.K) (E := E) (pu := pu) (B := B) (σ := σ) tmp Q).W ε2 H3 (bd (lft (asB r3)) pr ε2) := by
      have w3 := (wiT (K := X.K) (E := E) (pu := pu) (B := B) (σ := σ) tmp Q).wq _ _ _ _ _ (Pq.of (ε := ε2) s3) w2
      have : bd (lft (asB r3)) pr ε2 = lft (asB r3) ε2 := by unfold bd; cases asB r3 <;> rfl
      rw [this]; exact w3
    obtain ⟨c, e, h4, w4⟩ := gbool (wiT tmp Q) h3 w3
    exact ⟨c, e, w4 H3 h4 Pq.refl⟩
def tNt (t : MT) : MT := bd t fun b => pr (!b)
def tAn (t u : MT) : MT := bd t fun b => match b with
  | true => u
  | false => pr false
def tOo (t u : MT) : MT := bd t fun b => match b with
  | true => pr true
  | false => u
theorem st_not (ha : ST X E pu a ta) : ST X E pu (.UnaryOp .Not a pos) (tNt ta) :=
  pt_imp (pt_not ha) fun pins s σ H Q I ⟨B, ε, tmp, h, w⟩ => gte (wiT tmp Q) h w fun b ε' H' h' w' => w' H' h' Pq.refl
theorem st_pw {t : MT} (h : SW X E pu a t) : ST X E pu a t := PW.pt h
theorem sw_and1 (ha : ST X E pu a ta) : SW X E pu (.BoolOp .And [a] pos) ta := pw_and1 ha
theorem sw_or1 (ha : ST X E pu a ta) : SW X E pu (.BoolOp .Or [a] pos) ta := pw_or1 ha
theorem sw_and (ha : ST X E pu a ta) (hb : SW X E pu (.BoolOp .And (b :: rest) pos) tb) : SW X E pu (.BoolOp .And (a :: b :: rest) pos) (tAn ta tb) :=
  pw_imp (pw_and ha hb) fun pins s σ H Q I ⟨B, ε, tmp, h, w⟩ => gte (wiT tmp Q) h w fun c ε' H' h' w' => by
    cases c with
    | true => exact ⟨B, ε', tmp, h', w'⟩
    | false => exact w' H' h' Pq.refl
theorem sw_or (ha : ST X E pu a ta) (hb : SW X E pu (.BoolOp .Or (b :: rest) pos) tb) : SW X E pu (.BoolOp .Or (a :: b :: rest) pos) (tOo ta tb) :=
  pw_imp (pw_or ha hb) fun pins s σ H Q I ⟨B, ε, tmp, h, w⟩ => gte (wiT tmp Q) h w fun c ε' H' h' w' => by
    cases c with
    | true => exact w' H' h' Pq.refl
    | false => exact ⟨B, ε', tmp, h', w'⟩
/-- and, or, not of bools as values -/
def cAn (a b : ME) : ME := bd a fun r => bd (lft (asB r)) fun c => match c with
  | true => b
  | false => pr (.dat (.bl false))
def cOo (a b : ME) : ME := bd a fun r => bd (lft (asB r)) fun c => match c with
  | true => pr (.dat (.bl true))
  | false => b
def cNt (a : ME) : ME := bd a fun r => bd (lft (asB r)) fun c => pr (.dat (.bl (!c)))
theorem sp_not (ha : SP X E pu a ma) : SP X E pu (.UnaryOp .Not a pos) (cNt ma) :=
  pe_imp (pe_not ha) fun pins s σ H Q I ⟨B, ε, tmp, h, w⟩ => gex (wiP tmp Q) h w fun r v ε' H' h' w' => by
    obtain ⟨c, e, h2, w2⟩ := gbool (wiP tmp Q) h' w'
    exact ⟨c, e, w2 _ H' (h2.push fun F => rep_bl) Pq.refl⟩
theorem sp_one {op} {m : ME} (h : SP X E pu a m) : SP X E pu (.BoolOp op [a] pos) m := pe_one h
theorem sp_and (ha : SP X E pu a ma) (hb : SP X E pu (.BoolOp .And (b :: rest) pos) mb) : SP X E pu (.BoolOp .And (a :: b :: rest) pos) (cAn ma mb) :=
  pe_imp (pe_and ha hb) fun pins s σ H Q I ⟨B, ε, tmp, h, w⟩ => gex (wiP tmp Q) h w fun r v ε' H' h' w' => by
    obtain ⟨c, e, h2, w2⟩ := gbool (wiP tmp Q) h' w'
    refine ⟨c, e, ?_⟩
    cases c with
    | true => exact ⟨B, ε', tmp, h2, w2⟩
    | false => exact w2 _ H' (h2.push fun F => rep_bl) Pq.refl
theorem sp_or (ha : SP X E pu a ma) (hb : SP X E pu (.BoolOp .Or (b :: rest) pos) mb) : SP X E pu (.BoolOp .Or (a :: b :: rest) pos) (cOo ma mb) :=
  pe_imp (pe_or ha hb) fun pins s σ H Q I ⟨B, ε, tmp, h, w⟩ => gex (wiP tmp Q) h w fun r v ε' H' h' w' => by
    obtain ⟨c, e, h2, w2⟩ := gbool (wiP tmp Q) h' w'
    refine ⟨c, e, ?_⟩
    cases c with
    | true => exact w2 _ H' (h2.push fun F => rep_bl) Pq.refl
    | false => exact ⟨B, ε', tmp, h2, w2⟩
/-- a if t else b -/
def cIf (t : MT) (a b : ME) : ME := bd t fun c => match c with
  | true => a
  | false => b
theorem sp_if (hc : ST X E pu c tc) (ha : SP X E pu a ma) (hb : SP X E pu b mb) : SP X E pu (.IfExp c a b pos) (cIf tc ma mb) :=
  pe_imp (pe_ifExp hc ha hb) fun pins s σ H Q I ⟨B, ε, tmp, h, w⟩ => gte (wiP tmp Q) h w fun c ε' H' h' w' => by
    cases c with
    | true => exact ⟨B, ε', tmp, h', w'⟩
    | false => exact ⟨B, ε', tmp, h', w'⟩
end
end Dv

-- Dv3
namespace Dv
open PySem PySem.Spec PyProof.Rows L2

def c3 (f g : SV → SV → Ot SV) (a b c : ME) : ME := bd a fun x => bd b fun y => bd (lft (ofO x.toD)) fun dx => bd (lft (ofO y.toD)) fun dy => bd (lft (f (.dat dx) (.dat dy))) fun z => bd (lft (asB z)) fun k => match k with
  | true => bd c fun u => lft (g (.dat dy) u)
  | false => pr (.dat (.bl false))
section
variable {X : Cx} {E : XK} {pu : Bool} {a b c e : Expr} {es : List Expr} {ma mb mc me : ME} {mm : MA} {ta tb tc : MT} {pos : Pos} {rest : List Expr} {K : Fg} {B : Bs} {σ : L2.St} {ε : Ep} {tmp : Tp} {H : Hp}
theorem sp_chain {op op' : CmpOp} {f g : SV → SV → Ot SV} (ho : Op2 X E (compareOp op) f) (ho' : Op2 X E (compareOp op') g) (ha : SP X E pu a ma) (hb : SP X E pu b mb) (hc : SP X E pu c mc)
    (hm : lastMarks [op, op'] [b, c] = false := by with_unfolding_all rfl) : SP X E pu (.Compare a [op, op'] [b, c] pos) (c3 f g ma mb mc) :=
  pe_imp (pe_chain ho ho' ha hb hc hm) fun pins s σ H Q I ⟨B, ε, tmp, h, w⟩ => gex (wiP tmp Q) h w fun r1 v1 ε1 H1 h1 w1 => gex (wiP tmp Q) h1 w1 fun r2 v2 ε2 H2 h2 w2 => by
    obtain ⟨d1, q1, w2⟩ := (wiP tmp Q).ofO w2
    obtain ⟨d2, q2, w2⟩ := (wiP tmp Q).ofO w2
    obtain ⟨F, fp, hF, rx, ry⟩ := h2.data2 rfl q1 q2
    have h3 : Sta X.K B H2 σ ε2 ((v2, .dat d2) :: (v1, .dat d1) :: (v2, .dat d2) :: tmp) := (((hF.push ry).push rx).push ry).sta
    refine ⟨B, σ, ε2, _, _, _, h3, ?_⟩
    rcases (wiP tmp Q).lft w2 with ⟨z, q3, w3⟩ | ⟨x, q3, w3⟩
    · rw [q3]
      intro v3 H3 h4 s3
      obtain ⟨k, ek, h5, w4⟩ := gbool (wiP tmp Q) h4 ((wiP tmp Q).wq _ _ _ _ _ (Pq.of s3) w3)
      refine ⟨k, ek, ?_⟩
      cases k with
      | true => exact gex (wiP tmp Q) h5 w4 fun r3 v4 ε4 H4 h6 w6 => ⟨B, σ, ε4, tmp, _, r3, h6, gP_of w6⟩
      | false => exact w4 _ H3 ((h5.pop rfl).push fun F => rep_bl) Pq.refl
    · rw [q3]; exact w3

/-! ### displays -/
def aN : MA := pr []
def aC (m : ME) (r : MA) : MA := bd m fun x => bd r fun xs => pr (x :: xs)
theorem sa_nil : SA X E pu [] aN := pa_imp pa_nil fun pins s σ H Q I ⟨B, ε, tmp, h, w⟩ => w [] H rfl h Pq.refl
theorem sa_cons (he : SP X E pu e me) (hr : SA X E pu es mm) (hs : starEach (e :: es) X.env = (false, eval e X.env) :: starEach es X.env := by rfl) : SA X E pu (e :: es) (aC me mm) :=
  pa_imp (pa_cons he hr hs) fun pins s σ H Q I ⟨B, ε, tmp, h, w⟩ => gex (wiA tmp Q) h w fun r v ε1 H1 h1 w1 => gar (wiA tmp Q) h1 w1 fun rs vs ε2 H2 hl h2 w2 => by
    refine w2 (v :: vs) H2 (by simp [hl]) ?_ Pq.refl
    show Sta X.K B H2 σ ε2 ((zipR vs rs ++ [(v, r)]) ++ tmp)
    rw [List.append_assoc]; exact h2
/-- several values as data -/
theorem Sta.datas {vs : List V} {rs : List SV} {ds : List D} (h : Sta K B H σ ε (zipR vs rs ++ tmp)) (hl : vs.length = rs.length) (t : toDs rs = some ds) : ∃ F fp, StF K B F H σ ε tmp fp ∧ Reps K F ds vs := by
  obtain ⟨F, fp, h⟩ := h
  obtain ⟨F', fp', _, h', r⟩ := h.data hl t
  exact ⟨F', fp', h', r⟩
/-- data, the wish -/
theorem w_data {Q : VK} {vs : List V} {rs : List SV} {k : List D → Ot SV} (h : Sta K B H σ ε (zipR vs rs ++ tmp)) (hl : vs.length = rs.length) (w : wP K E B σ ε tmp H Q ((ofO (toDs rs)).bd k)) :
    ∃ ds F fp, StF K B F H σ ε tmp fp ∧ Reps K F ds vs ∧ wP K E B σ ε tmp H Q (k ds) := by
  cases q : toDs rs with
  | none => rw [q] at w; exact w.elim
  | some ds =>
    rw [q] at w
    obtain ⟨F, fp, h', r⟩ := h.datas hl q
    exact ⟨ds, F, fp, h', r, w⟩
theorem gdata {α : Type} (w : Wi K E pu B σ α) {vs : List V} {rs : List SV} {k : List D → M α} (h : Sta K B H σ ε (zipR vs rs ++ tmp)) (hl : vs.length = rs.length) (q : w.W ε H (bd (lft (ofO (toDs rs))) k ε)) :
    ∃ ds F fp, StF K B F H σ ε tmp fp ∧ Reps K F ds vs ∧ w.W ε H (k ds ε) := by
  obtain ⟨ds, e, q⟩ := w.ofO q
  obtain ⟨F, fp, h', r⟩ := h.datas hl e
  exact ⟨ds, F, fp, h', r, q⟩
/-- arguments as data, then a pure step -/
def cA (f : List D → Ot SV) (m : MA) : ME := bd m fun rs => bd (lft (ofO (toDs rs))) fun ds => lft (f ds)
def tupO (ds : List D) : Ot SV := if ds.length ≤ sizeLine then okd (.tup ds) else .stuck
def lstO (ds : List D) : Ot SV := if ds.length ≤ sizeLine then .ok (.ol ds) else .stuck
def cTup (m : MA) : ME := cA tupO m
def cLst (m : MA) : ME := cA lstO m
theorem gcA {m : MA} {f : List D → Ot SV} {Q : VK} (h : Sta K B H σ ε tmp) (w : gP K E pu B σ tmp Q ε H (cA f m ε)) {Q' : List V → Hp → Prop}
    (hk : ∀ ds vs ε' H' F fp, StF K B F H' σ ε' tmp fp → Reps K F ds vs → wP K E B σ ε' tmp H' Q (f ds) → Q' vs H') : tA K E pu m σ H Q' :=
  gar (wiP tmp Q) h w fun rs vs ε1 H1 hl h1 w1 => by
    obtain ⟨ds, F, fp, hF, r, w2⟩ := gdata (wiP tmp Q) h1 hl w1
    exact hk ds vs ε1 H1 F fp hF r (gP_of w2)
theorem sp_tup {x1} (ha : SA X E pu es mm) : SP X E pu (.Tuple es x1 pos) (cTup mm) :=
  pe_imp (pe_tup ha) fun pins s σ H Q I ⟨B, ε, tmp, h, w⟩ => gcA h w fun ds vs ε' H1 F fp hF r w2 => by
    unfold tupO at w2
    by_cases z : ds.length ≤ sizeLine
    · rw [if_pos z] at w2
      refine ⟨by rw [r.length]; exact z, fun p hp => ?_⟩
      refine w2 _ _ (((hF.frozen hp).push ?_).sta) (same_upd hp)
      have hFp : F p = none := by
        cases q : F p with
        | none => rfl
        | some u => rw [hF.sub _ _ q] at hp; cases hp
      unfold Rep
      exact ⟨p, vs, rfl, SqT.of upd_same, Reps.mono (same_upd hFp) _ _ r⟩
    · rw [if_neg z] at w2; exact w2.elim
theorem sp_lst (ha : SA X E pu es mm) : SP X E pu (.List es pos) (cLst mm) :=
  pe_imp (pe_lst ha) fun pins s σ H Q I ⟨B, ε, tmp, h, w⟩ => gcA h w fun ds vs ε' H1 F fp hF r w2 => by
    unfold lstO at w2
    by_cases z : ds.length ≤ sizeLine
    · rw [if_pos z] at w2
      refine ⟨by rw [r.length]; exact z, fun p hp => ?_⟩
      refine w2 _ _ ((hF.owned hp ?_).sta) (same_upd hp)
      unfold Own
      exact ⟨p, vs, rfl, rfl, upd_same, r⟩
    · rw [if_neg z] at w2; exact w2.elim
end
end Dv

-- Dv4
namespace Dv
open PySem PySem.Spec PyProof.Rows L2

/-! ### a def's promise on data -/
/-- what has grown: nothing tracked has changed; what is frozen now was frozen, or is new -/
structure Gr (F H F' H' : Hp) : Prop where
  same : Same H H'
  le : Same F F'
  sub : Same F' H'
  new : ∀ p o, F' p = some o → F p = some o ∨ H p = none
theorem Gr.refl {F H : Hp} (s : Same F H) : Gr F H F H := ⟨Same.refl H, Same.refl F, s, fun _ _ q => .inl q⟩
theorem StF.gr {K : Fg} {B : Bs} {F H F' H' : Hp} {σ : L2.St} {ε : Ep} {tmp : Tp} {fp : List Addr} (h : StF K B F H σ ε tmp fp) (g : Gr F H F' H') : StF K B F' H' σ ε tmp fp := h.step g.same g.le g.sub g.new
def spF (K : Fg) (g : List D → Ot SV) : Sp := fun vs H Q E => ∃ F ds, Same F H ∧ Reps K F ds vs ∧ match g ds with
  | .ok r => ∀ v F' H' f, Gr F H F' H' → Own K F' H' r v f → f.Nodup → (∀ p ∈ f, F' p = none ∧ H p = none) → Q v H'
  | .err x => ∀ c dd F' H', Gr F H F' H' → c = .ref (He.ga K x.C) → XFs K F' H' dd x.fs → E c dd H'
  | .stuck => False
section
variable {K : Fg} {B : Bs} {F H : Hp} {σ : L2.St} {ε : Ep} {tmp : Tp} {fp : List Addr}
theorem StF.pushOwn (h : StF K B F H σ ε tmp fp) {v : V} {r : SV} {f : List Addr} (o : Own K F H r v f) (nd : f.Nodup) (hf : ∀ p ∈ f, F p = none ∧ p ∉ fp ∧ (p ∈ B.fp0 ∨ B.H0 p = none)) : StF K B F H σ ε ((v, r) :: tmp) (f ++ fp) :=
  { h with
    own := ⟨f, fp, rfl, o, h.own⟩
    nd := List.nodup_append.mpr ⟨nd, h.nd, fun a ha b hb e => (hf a ha).2.1 (e ▸ hb)⟩
    out := fun p hp => by
      rcases List.mem_append.mp hp with z | z
      · exact (hf p z).1
      · exact h.out p z
    old := fun p hp => by
      rcases List.mem_append.mp hp with z | z
      · exact (hf p z).2.2
      · exact h.old p z }
theorem StF.dropAll : ∀ {tmp : Tp} {fp : List Addr}, StF K B F H σ ε tmp fp → ∃ fp', StF K B F H σ ε [] fp'
  | [], fp, h => ⟨fp, h⟩
  | _ :: _, fp, h => by
    obtain ⟨f1, f2, rfl, _, h2⟩ := h.pop rfl
    exact StF.dropAll h2
/-- behind a call: the result is pending -/
theorem StF.called (h : StF K B F H σ ε tmp fp) {F' H' : Hp} (g : Gr F H F' H') {v : V} {r : SV} {f : List Addr} (o : Own K F' H' r v f) (nd : f.Nodup) (hf : ∀ p ∈ f, F' p = none ∧ H p = none) : Sta K B H' σ ε ((v, r) :: tmp) := by
  have hn : ∀ p, H p = none → B.H0 p = none := fun p z => by
    cases q : B.H0 p with
    | none => rfl
    | some u =>
      obtain ⟨o', z'⟩ := h.there p u q
      rw [z] at z'; cases z'
  exact ⟨F', _, (h.gr g).pushOwn o nd fun p hp => ⟨(hf p hp).1, (fun z => by
    obtain ⟨u, q⟩ := h.trk p z
    rw [(hf p hp).2] at q; cases q), .inr (hn p (hf p hp).2)⟩⟩
end
def cCall (g : List D → Ot SV) (mm : MA) (df : List D) : ME := cA (fun ds => g (ds ++ df)) mm
section
variable {X : Cx} {E : XK} {pu : Bool} {e o : Expr} {es : List Expr} {mm : MA} {me : ME} {p pos apos : Pos} {k : Nat} {f : Addr} {fd : FuncData} {ps : List Str} {g : List D → Ot SV} {x m : Str} {dvs : List V} {ds : List Value} {df : List D}
theorem w_call {K : Fg} {B : Bs} {F : Hp} {fp : List Addr} {σ : L2.St} {ε : Ep} {tmp : Tp} {H : Hp} {Q : VK} {vs : List V} {ds : List D} (hdf : ∀ F, Reps K F df dvs) (hF : StF K B F H σ ε tmp fp) (r : Reps K F ds vs)
    (w2 : wP K E B σ ε tmp H Q (g (ds ++ df))) : spF K g (vs ++ dvs) H Q E := by
  refine ⟨F, ds ++ df, hF.sub, r.append (hdf F), ?_⟩
  cases q : g (ds ++ df) with
  | stuck => rw [q] at w2; exact w2.elim
  | ok r => rw [q] at w2; exact fun v F' H' f gr own nd out => w2 v H' (hF.called gr own nd out) gr.same
  | err x =>
    rw [q] at w2
    intro c dd F' H' gr ec xf
    obtain ⟨fp', h'⟩ := (hF.gr gr).dropAll
    exact w2 c dd H' ⟨F', fp', h', ec, xf⟩
theorem sp_call (F : FnOk X.prog X.w X.K X.mg X.base (L2.CX X.prog X.w) k f fd ps (spF X.K g)) (hr : Room k X.A) (hg : Gl X x) (hm : X.mg x = some (.ref f)) (hk : PySem.W.keepIn X.K (.ref f) = true) (hb : Binds X.K fd ps ds) (hd : Vals dvs ds) (hdf : ∀ F, Reps X.K F df dvs)
    (hx : Passes (L2.CX X.prog X.w) X E) (ha : SA X E pu (e :: es) mm) (hdb : (x == ("__debug__" : Str)) = false := by decide) (he : starEach (e :: es) X.env = (false, eval e X.env) :: starEach es X.env := by rfl) (hpl : (backTo pos (starEach es X.env)).any (·.1) = false := by rfl) :
    SP X E pu (.Call (.Name x p) (e :: es) [] pos) (cCall g mm df) :=
  pe_imp (pe_call F hr hg hm hk hb hd hx ha hdb he hpl) fun pins s σ H Q I ⟨B, ε, tmp, h, w⟩ => gcA h w fun ds vs ε' H' F fp hF r w2 => w_call hdf hF r w2
theorem sp_call0 (F : FnOk X.prog X.w X.K X.mg X.base (L2.CX X.prog X.w) k f fd ps (spF X.K g)) (hr : Room k X.A) (hg : Gl X x) (hm : X.mg x = some (.ref f)) (hk : PySem.W.keepIn X.K (.ref f) = true) (hb : Binds X.K fd ps ds) (hd : Vals dvs ds) (hdf : ∀ F, Reps X.K F df dvs)
    (hx : Passes (L2.CX X.prog X.w) X E) (hdb : (x == ("__debug__" : Str)) = false := by decide) :
    SP X E pu (.Call (.Name x p) [] [] pos) (lft (g df)) :=
  pe_imp (pe_call0 F hr hg hm hk hb hd hx hdb) fun pins s σ H Q I ⟨B, ε, tmp, ⟨F, fp, h⟩, w⟩ => w_call (ds := []) (vs := []) hdf h .nil (gP_of w)
/-! ### fields and methods of frozen instances -/
def objF (C f : Str) : SV → Ot SV
  | .dat (.obj C' fs) => if C' = C then (ofO (fs.lookup f)).bd okd else .stuck
  | _ => .stuck
theorem RepF.lookup {K : Fg} {F : Hp} {f : Str} : ∀ {fs : List (Str × D)} {gs : List (Str × V)} {d : D}, RepF K F fs gs → fs.lookup f = some d → ∃ v, gs.lookup f = some v ∧ Rep K F d v
  | [], gs, d, h, e => by simp at e
  | (x, d') :: r, gs, d, h, e => by
    unfold RepF at h
    obtain ⟨v, gs', rfl, h1, h2⟩ := h
    by_cases z : f = x
    · subst z
      simp only [List.lookup, BEq.rfl] at e ⊢
      cases e; exact ⟨v, rfl, h1⟩
    · have z' : (f == x) = false := by simpa using z
      simp only [List.lookup, z'] at e ⊢
      exact RepF.lookup h2 e
theorem RepF.nolook {K : Fg} {F : Hp} {f : Str} : ∀ {fs : List (Str × D)} {gs : List (Str × V)}, RepF K F fs gs → fs.lookup f = none → gs.lookup f = none
  | [], gs, h, e => by unfold RepF at h; subst h; rfl
  | (x, d') :: r, gs, h, e => by
    unfold RepF at h
    obtain ⟨v, gs', rfl, h1, h2⟩ := h
    by_cases z : f = x
    · subst z
      simp only [List.lookup, BEq.rfl] at e
      cases e
    · have z' : (f == x) = false := by simpa using z
      simp only [List.lookup, z'] at e ⊢
      exact RepF.nolook h2 e
theorem sp_fld {C fn : Str} (hc : Cls X.K (He.ga X.K C)) (hn : NoAttr X.K (He.ga X.K C) fn) (ho : SP X E pu o me) (hb : attributeBase o fn X.env (eval o X.env) = eval o X.env := by rfl) : SP X E pu (.Attribute o fn pos) (c1 (objF C fn) me) :=
  pe_imp (pe_fld ho hb) fun pins s σ H Q I ⟨B, ε, tmp, h, w⟩ => gex (wiP tmp Q) h w fun r v ε1 H1 h1 w0 => by
    have w1 : wP X.K E B σ ε1 tmp H1 Q (objF C fn r) := gP_of w0
    unfold objF at w1
    split at w1
    · rename_i C' fs
      by_cases z : C' = C
      · subst z
        rw [if_pos rfl] at w1
        cases q : fs.lookup fn with
        | none => rw [q] at w1; exact w1.elim
        | some d =>
          rw [q] at w1
          obtain ⟨F, fp, h2⟩ := h1
          obtain ⟨r, h3⟩ := h2.datum rfl
          unfold Rep at r
          obtain ⟨a, dx, gs, rfl, r1, r2⟩ := r
          obtain ⟨v, ev, rv⟩ := r2.lookup q
          exact ⟨a, _, dx, gs, v, rfl, h3.sub _ _ r1, hc, hn, ev, w1 v H1 (h3.pushS rv) (Same.refl H1)⟩
      · rw [if_neg z] at w1; exact w1.elim
    · exact w1.elim
/-- a method of a frozen instance -/
def objM (C m : Str) : SV → Ot D
  | .dat (.obj C' fs) => if C' = C then (match fs.lookup m with | none => .ok (.obj C' fs) | some _ => .stuck) else .stuck
  | _ => .stuck
def cMeth (C m : Str) (g : List D → Ot SV) (me : ME) (mm : MA) (df : List D) : ME := bd me fun r => bd (lft (objM C m r)) fun d => bd mm fun rs => bd (lft (ofO (toDs rs))) fun ds => lft (g (d :: (ds ++ df)))
theorem objM_ok {C m : Str} {r : SV} {d : D} (h : objM C m r = .ok d) : ∃ fs, r = .dat (.obj C fs) ∧ d = .obj C fs ∧ fs.lookup m = none := by
  unfold objM at h
  split at h
  · rename_i C' fs
    by_cases z : C' = C
    · subst z
      rw [if_pos rfl] at h
      cases q : fs.lookup m with
      | none => rw [q] at h; cases h; exact ⟨fs, rfl, rfl, q⟩
      | some _ => rw [q] at h; cases h
    · rw [if_neg z] at h; cases h
  · cases h
theorem objM_err {C m : Str} {r : SV} {x : Xc} (h : objM C m r = .err x) : False := by
  unfold objM at h
  repeat' split at h <;> try cases h
theorem w_meth {K : Fg} {B : Bs} {σ : L2.St} {ε : Ep} {tmp : Tp} {H H0 : Hp} {Q : VK} {vs : List V} {rs : List SV} {v : V} {d : D} (hdf : ∀ F, Reps K F df dvs) (h : Sta K B H σ ε (zipR vs rs ++ ((v, .dat d) :: tmp))) (hl : vs.length = rs.length)
    (w : gP K E pu B σ tmp Q ε H (bd (lft (ofO (toDs rs))) (fun ds => lft (g (d :: (ds ++ df)))) ε)) : spF K g (v :: (vs ++ dvs)) H Q E := by
  obtain ⟨ds, F, fp, h', r, w2⟩ := gdata (wiP tmp Q) h hl w
  obtain ⟨r0, hF⟩ := h'.datum rfl
  have w2 : wP K E B σ ε tmp H Q (g (d :: (ds ++ df))) := gP_of w2
  refine ⟨F, d :: (ds ++ df), hF.sub, .cons r0 (r.append (hdf F)), ?_⟩
  cases q : g (d :: (ds ++ df)) with
  | stuck => rw [q] at w2; exact w2.elim
  | ok r => rw [q] at w2; exact fun v F' H' f gr own nd out => w2 v H' (hF.called gr own nd out) gr.same
  | err x =>
    rw [q] at w2
    intro c dd F' H' gr ec xf
    obtain ⟨fp', h'⟩ := (hF.gr gr).dropAll
    exact w2 c dd H' ⟨F', fp', h', ec, xf⟩
section
variable {C : Str} {pl : Sem Bool} (c : Cls X.K (He.ga X.K C)) (hm : Meth X.K (He.ga X.K C) m f) (F : FnOk X.prog X.w X.K X.mg X.base (L2.CX X.prog X.w) k f fd ps (spF X.K g)) (hr : Room k X.A) (hb : Binds X.K fd ps ds) (hd : Vals dvs ds) (hdf : ∀ F, Reps X.K F df dvs)
    (hx : Passes (L2.CX X.prog X.w) X E) (ho : SP X E pu o me)
include c hm F hr hb hd hdf hx ho
theorem sp_meth (ha : SA X E pu (e :: es) mm)
    (hst : starEach (e :: es) X.env = (false, eval e X.env) :: starEach es X.env := by rfl) (hpl : (backTo pos (starEach es X.env)).any (·.1) = false := by rfl)
    (ht : eval (.Call (.Attribute o m apos) (e :: es) [] pos) X.env = (do
      let ov ← eval o X.env
      standAt apos.atName
      let (f, first) ← holding [ov] (getMethod ov m pl)
      callWith pos f first (backTo pos (starEach (e :: es) X.env)) (backToKw pos (keywordEach [] X.env))) := by rfl) :
    SP X E pu (.Call (.Attribute o m apos) (e :: es) [] pos) (cMeth C m g me mm df) :=
  pe_imp (pe_meth ho c hm F hr hb hd hx ha hst hpl ht) fun pins s σ H Q I ⟨B, ε, tmp, h, w⟩ => gex (wiP tmp Q) h w fun r v ε1 H1 h1 w1 => by
    rcases (wiP tmp Q).lft w1 with ⟨d, q, w1⟩ | ⟨x, q, _⟩
    · obtain ⟨fs, rfl, rfl, hl⟩ := objM_ok q
      obtain ⟨F0, fp, h2⟩ := h1
      obtain ⟨r0, h3⟩ := h2.datum rfl
      have r0' := r0
      unfold Rep at r0'
      obtain ⟨a, dx, gs, rfl, r1, r2⟩ := r0'
      refine ⟨a, dx, gs, rfl, h3.sub _ _ r1, r2.nolook hl, ?_⟩
      exact gar (wiP tmp Q) (tmp := (.ref a, .dat (.obj C fs)) :: tmp) h2.sta w1 fun rs vs ε2 H2 hl h4 w2 => w_meth (H0 := H2) hdf h4 hl w2
    · exact (objM_err q).elim
theorem sp_meth0
    (ht : eval (.Call (.Attribute o m apos) [] [] pos) X.env = (do
      let ov ← eval o X.env
      standAt apos.atName
      let (f, first) ← holding [ov] (getMethod ov m pl)
      callWith pos f first (backTo pos (starEach [] X.env)) (backToKw pos (keywordEach [] X.env))) := by rfl) :
    SP X E pu (.Call (.Attribute o m apos) [] [] pos) (cMeth C m g me aN df) :=
  pe_imp (pe_meth0 ho c hm F hr hb hd hx ht) fun pins s σ H Q I ⟨B, ε, tmp, h, w⟩ => gex (wiP tmp Q) h w fun r v ε1 H1 h1 w1 => by
    rcases (wiP tmp Q).lft w1 with ⟨d, q, w1⟩ | ⟨x, q, _⟩
    · obtain ⟨fs, rfl, rfl, hl⟩ := objM_ok q
      obtain ⟨F0, fp, h2⟩ := h1
      obtain ⟨r0, h3⟩ := h2.datum rfl
      have r0' := r0
      unfold Rep at r0'
      obtain ⟨a, dx, gs, rfl, r1, r2⟩ := r0'
      refine ⟨a, dx, gs, rfl, h3.sub _ _ r1, r2.nolook hl, ?_⟩
      exact w_meth (pu := pu) (H0 := H1) (rs := []) (vs := []) hdf h2.sta rfl w1
    · exact (objM_err q).elim
end
end

/-! ### a def's promise with a first parameter that changes -/
inductive Rm where
  | ok (r s : SV)
  | err (x : Xc) (s : SV)
  | stuck
structure GrM (fp : List Addr) (F H F' H' : Hp) : Prop where
  keep : ∀ q o, H q = some o → q ∉ fp → H' q = some o
  there : ∀ q o, H q = some o → ∃ o', H' q = some o'
  le : Same F F'
  sub : Same F' H'
  new : ∀ p o, F' p = some o → F p = some o ∨ H p = none ∨ p ∈ fp
def spM (K : Fg) (g : SV → List D → Rm) : Sp := fun vs H Q E => ∃ F s fp a vr ds, vs = .ref a :: vr ∧ Same F H ∧ Own K F H s (.ref a) fp ∧ fp.Nodup ∧ (∀ p ∈ fp, F p = none) ∧ Reps K F ds vr ∧ match g s ds with
  | .ok r s' => ∀ v F' H' f f', GrM fp F H F' H' → Own K F' H' r v f → Own K F' H' s' (.ref a) f' → (f ++ f').Nodup → (∀ p ∈ f ++ f', F' p = none ∧ (p ∈ fp ∨ H p = none)) → Q v H'
  | .err x s' => ∀ c dd F' H' f', GrM fp F H F' H' → Own K F' H' s' (.ref a) f' → f'.Nodup → (∀ p ∈ f', F' p = none ∧ (p ∈ fp ∨ H p = none)) → c = .ref (He.ga K x.C) → XFs K F' H' dd x.fs → E c dd H'
  | .stuck => False
/-- an own thing, by its kind -/
def SV.own? : SV → Bool
  | .ol _ => true
  | .od _ => true
  | .oi _ _ => true
  | _ => false
theorem own_ref {K : Fg} {F H : Hp} {s : SV} {v : V} {f : List Addr} (o : Own K F H s v f) (h : s.own? = true) : ∃ a, v = .ref a := by
  cases s with
  | un => cases h
  | dat d => cases h
  | ol xs => unfold Own at o; obtain ⟨a, _, rfl, _⟩ := o; exact ⟨a, rfl⟩
  | od xs => unfold Own at o; obtain ⟨a, _, rfl, _⟩ := o; exact ⟨a, rfl⟩
  | oi C xs => unfold Own at o; obtain ⟨a, _, _, _, rfl, _⟩ := o; exact ⟨a, rfl⟩
/-- what is done with the object of a slot -/
def onS (i : Nat) (g : SV → Rm) : ME := fun ε => match ε[i]? with
  | some s => if s.own? = true then (match g s with
    | .ok r s' => .ok r (ε.set i s')
    | .err x s' => .err x (ε.set i s')
    | .stuck => .stuck) else .stuck
  | none => .stuck
/-- an own thing is in the slot -/
def hasO (i : Nat) (ε : Ep) : Bool := match ε[i]? with
  | some s => s.own?
  | none => false
def ifO {α : Type} (i : Nat) (m : M α) : M α := fun ε => if hasO i ε = true then m ε else .stuck
theorem hasO_val {K : Fg} {B : Bs} {σ : L2.St} {ε : Ep} {tmp : Tp} {H : Hp} {i : Nat} (h : Sta K B H σ ε tmp) (q : hasO i ε = true) : ∃ a, σ[i]? = some (some (.ref a)) := by
  obtain ⟨F, fp, h⟩ := h
  unfold hasO at q
  cases e : ε[i]? with
  | none => rw [e] at q; cases q
  | some s =>
    rw [e] at q
    obtain ⟨o, ft, f1, f0, f2, e1, rfl, h3, h4, h5, h6⟩ := h.slot e
    cases o with
    | none => have := h4.1; subst this; cases q
    | some v =>
      obtain ⟨a, rfl⟩ := own_ref (show Own K F H s v f0 from h4) q
      exact ⟨a, e1⟩
def cCallM (i : Nat) (g : SV → List D → Rm) (mm : MA) (df : List D) : ME := ifO i (bd mm fun rs => bd (lft (ofO (toDs rs))) fun ds => onS i fun s => g s (ds ++ df))
section
variable {X : Cx} {E : XK} {e o : Expr} {es : List Expr} {mm : MA} {me : ME} {p pos apos : Pos} {k : Nat} {f : Addr} {fd : FuncData} {ps : List Str} {g : SV → List D → Rm} {x m : Str} {dvs : List V} {ds : List Value} {df : List D}
theorem w_callM {K : Fg} {B : Bs} {F : Hp} {fp : List Addr} {σ : L2.St} {ε : Ep} {tmp : Tp} {H : Hp} {Q : VK} {i : Nat} {v0 : V} {vs : List V} {ds : List D} (hdf : ∀ F, Reps K F df dvs) (h : StF K B F H σ ε tmp fp) (r : Reps K F ds vs) (e0 : σ[i]? = some (some v0))
    (w2 : gP K E false B σ tmp Q ε H (onS i (fun s => g s (ds ++ df)) ε)) : spM K g (v0 :: (vs ++ dvs)) H Q E := by
  unfold onS at w2
  cases q : ε[i]? with
  | none => rw [q] at w2; exact w2.elim
  | some s =>
    rw [q] at w2
    simp only at w2
    by_cases hs : s.own? = true
    · rw [if_pos hs] at w2
      obtain ⟨o, ft, f1, f0, f2, e1, rfl, h3, h4, h5, h6⟩ := h.slot q
      rw [e0] at e1; cases e1
      have h4 : Own K F H s v0 f0 := h4
      obtain ⟨a, rfl⟩ := own_ref h4 hs
      have hz : i < (σ.zip ε).length := by
        have := h.len
        have := (List.getElem?_eq_some_iff.mp e0).1
        simp; omega
      have nd := List.nodup_append.mp h.nd
      have nd2 := List.nodup_append.mp nd.2.1
      have nd3 := List.nodup_append.mp nd2.2.1
      have a1 : ∀ q ∈ ft, q ∉ f0 := fun q hq z => nd.2.2 q hq q (by simp [z]) rfl
      have a2 : ∀ q ∈ f1, q ∉ f0 := fun q hq z => nd2.2.2 q hq q (by simp [z]) rfl
      have a3 : ∀ q ∈ f2, q ∉ f0 := fun q hq z => nd3.2.2 q z q hq rfl
      have hσ : σ.set i (some (.ref a)) = σ := by
        obtain ⟨hi, ev⟩ := List.getElem?_eq_some_iff.mp e0
        rw [← ev]; exact List.set_getElem_self hi
      refine ⟨F, s, f0, a, vs ++ dvs, ds ++ df, rfl, h.sub, h4, nd3.1, fun p hp => h.out p (by simp [hp]), r.append (hdf F), ?_⟩
      have key : ∀ (tmpR : Tp) (fr : List Addr) (s' : SV) (F' H' : Hp) (f' : List Addr), GrM f0 F H F' H' → OwnL K F' H' (tmpR.map (fun t => (some t.1, t.2))) fr → Own K F' H' s' (.ref a) f' → (fr ++ f').Nodup → (∀ p ∈ fr ++ f', F' p = none ∧ (p ∈ f0 ∨ H p = none)) →
          StF K B F' H' σ (ε.set i s') (tmpR ++ tmp) (fr ++ (ft ++ (f1 ++ (f' ++ f2)))) := by
        intro tmpR fr s' F' H' f' gr orr os nd' hf
        have hk : ∀ p ∈ ft ++ (f1 ++ f2), H' p = H p := by
          intro p hp
          have hp0 : p ∉ f0 := by
            rcases List.mem_append.mp hp with z | z
            · exact a1 p z
            · rcases List.mem_append.mp z with z | z
              · exact a2 p z
              · exact a3 p z
          obtain ⟨u, hu⟩ := h.trk p (by
            rcases List.mem_append.mp hp with z | z
            · simp [z]
            · rcases List.mem_append.mp z with z | z <;> simp [z])
          rw [hu]; exact gr.keep p u hu hp0
        have hsub : ∀ p, p ∈ ft ++ (f1 ++ f2) → p ∈ ft ++ (f1 ++ (f0 ++ f2)) := by
          intro p hp
          simp only [List.mem_append] at hp ⊢
          rcases hp with z | z | z <;> simp [z]
        have hn0 : ∀ p ∈ ft ++ (f1 ++ f2), p ∉ fr ++ f' := by
          intro p hp z
          have hp0 : p ∉ f0 := by
            rcases List.mem_append.mp hp with z | z
            · exact a1 p z
            · rcases List.mem_append.mp z with z | z
              · exact a2 p z
              · exact a3 p z
          rcases (hf p z).2 with y | y
          · exact hp0 y
          · obtain ⟨u, hu⟩ := h.trk p (hsub p hp)
            rw [y] at hu; cases hu
        have perm : (fr ++ (ft ++ (f1 ++ (f' ++ f2)))).Perm ((fr ++ f') ++ (ft ++ (f1 ++ f2))) := by
          rw [List.append_assoc]
          refine List.Perm.append_left fr ?_
          refine List.Perm.trans ?_ (List.perm_append_comm_assoc ft f' (f1 ++ f2))
          exact List.Perm.append_left ft (List.perm_append_comm_assoc f1 f' f2)
        have ndr : (ft ++ (f1 ++ f2)).Nodup := by
          refine List.Sublist.nodup ?_ h.nd
          exact List.Sublist.append_left (List.Sublist.append_left (List.sublist_append_right f0 f2) f1) ft
        refine h.rebuild gr.le gr.sub (fun q o a b => gr.keep q o a fun z => b (by simp [z])) gr.there (fun p o q => ?_) (by simpa using h.len) ?_ ?_ (fun p hp => ?_) (fun p hp => ?_) h.fix
        · rcases gr.new p o q with z | z | z
          · exact .inl z
          · exact .inr (.inl z)
          · exact .inr (.inr (by simp [z]))
        · show OwnL K F' H' ((tmpR ++ tmp).map (fun t => (some t.1, t.2)) ++ σ.zip (ε.set i s')) _
          have hzs : σ.zip (ε.set i s') = (σ.zip ε).set i (some (.ref a), s') := by
            rw [← zip_set, hσ]
          rw [hzs, List.map_append, List.append_assoc]
          refine OwnL.join orr (OwnL.join (h3.mono gr.le fun p hp => hk p (by simp [hp])) (OwnL.put hz (h5.mono gr.le fun p hp => hk p (by simp [hp])) os (h6.mono gr.le fun p hp => hk p (by simp [hp]))))
        · rw [perm.nodup_iff]
          exact List.nodup_append.mpr ⟨nd', ndr, fun x hx y hy e => hn0 y hy (e ▸ hx)⟩
        · rcases List.mem_append.mp (perm.subset hp) with z | z
          · exact (hf p z).1
          · cases qq : F' p with
            | none => rfl
            | some u =>
              rcases gr.new p u qq with y | y | y
              · rw [h.out p (hsub p z)] at y; cases y
              · obtain ⟨u', hu⟩ := h.trk p (hsub p z)
                rw [y] at hu; cases hu
              · exfalso
                rcases List.mem_append.mp z with z | z
                · exact a1 p z y
                · rcases List.mem_append.mp z with z | z
                  · exact a2 p z y
                  · exact a3 p z y
        · rcases List.mem_append.mp (perm.subset hp) with z | z
          · rcases (hf p z).2 with y | y
            · exact .inl (by simp [y])
            · exact .inr y
          · exact .inl (hsub p z)
      cases q2 : g s (ds ++ df) with
      | stuck => rw [q2] at w2; exact w2.elim
      | ok r s' =>
        rw [q2] at w2
        intro v F' H' f f' gr orr os nd' hf
        have := key [(v, r)] f s' F' H' f' gr ⟨f, [], by simp, orr, rfl⟩ os nd' hf
        exact w2 v H' ⟨F', _, this⟩ (fun z => by cases z)
      | err x s' =>
        rw [q2] at w2
        intro c dd F' H' f' gr os nd' hf ec xf
        have := key [] [] s' F' H' f' gr rfl os (by simpa using nd') (by simpa using hf)
        obtain ⟨fp', h'⟩ := this.dropAll
        exact w2 c dd H' ⟨F', fp', h', ec, xf⟩
    · rw [if_neg hs] at w2; exact w2.elim
theorem sp_callM (i : Nat) {y : Str} {py : Pos} (F : FnOk X.prog X.w X.K X.mg X.base (L2.CX X.prog X.w) k f fd ps (spM X.K g)) (hr : Room k X.A) (hg : Gl X x) (hm : X.mg x = some (.ref f)) (hk : PySem.W.keepIn X.K (.ref f) = true) (hb : Binds X.K fd ps ds) (hd : Vals dvs ds) (hdf : ∀ F, Reps X.K F df dvs)
    (hx : Passes (L2.CX X.prog X.w) X E) (ha : SA X E false es mm) (hN : X.N[i]? = some y := by rfl) (hv : Vis X.env.scope y := by first | exact Or.inl rfl | exact Or.inr (Or.inl rfl) | exact Or.inr (Or.inr rfl)) (hyd : (y == ("__debug__" : Str)) = false := by decide)
    (hcd : (y == ("__classdict__" : Str)) = false := by decide) (hdb : (x == ("__debug__" : Str)) = false := by decide) (he : starEach ((.Name y py) :: es) X.env = (false, eval (.Name y py) X.env) :: starEach es X.env := by rfl) (hpl : (backTo pos (starEach es X.env)).any (·.1) = false := by rfl) :
    SP X E false (.Call (.Name x p) ((.Name y py) :: es) [] pos) (cCallM i g mm df) :=
  pe_imp (pe_call F hr hg hm hk hb hd hx (pa_cons (pe_var hN hv hyd hcd) ha he) hdb he hpl) fun pins s σ H Q I ⟨B, ε, tmp, h, w⟩ => by
    unfold cCallM ifO at w
    by_cases z : hasO i ε = true
    · rw [if_pos z] at w
      obtain ⟨a, e0⟩ := hasO_val h z
      refine ⟨_, e0, ?_⟩
      exact gar (wiP tmp Q) h w fun rs vs ε1 H1 hl h1 w1 => by
        obtain ⟨ds, F, fp, hF, r, w2⟩ := gdata (wiP tmp Q) h1 hl w1
        exact w_callM hdf hF r e0 w2
    · rw [if_neg z] at w; exact w.elim
end
end Dv

-- Dv5
namespace Dv
open PySem PySem.Spec PyProof.Rows L2

/-- how a statement ends -/
inductive Fl where
  | nx
  | rt (r : SV)
  | bk
  | ct
abbrev MS := M Fl
def gS (K : Fg) (E : XK) (B : Bs) (tmp : Tp) (D : Ends) : Rs Fl → Prop
  | .ok .nx ε => ∀ σ H, Sta K B H σ ε tmp → D.nx σ H
  | .ok (.rt r) ε => ∀ v σ H, Sta K B H σ ε ((v, r) :: tmp) → D.rt v H
  | .ok .bk ε => ∀ σ H, Sta K B H σ ε tmp → D.bk σ H
  | .ok .ct ε => ∀ σ H, Sta K B H σ ε tmp → D.ct σ H
  | .err x ε => ∀ c dd σ H, XSt K B H σ ε c dd x → E c dd H
  | .stuck => False
def wiS {K : Fg} {E : XK} {B : Bs} {σ : L2.St} (tmp : Tp) (D : Ends) : Wi K E false B σ Fl where
  W := fun _ _ o => gS K E B tmp D o
  we := fun _ _ _ _ w c dd H' => w c dd _ H'
  ws := fun _ _ w => w
  wq := fun _ _ _ _ _ _ w => w
def tS (K : Fg) (E : XK) (fi : List Nat) (m : MS) : TS := fun D σ H => ∃ B ε tmp, B.fx.map (·.1) = fi ∧ Sta K B H σ ε tmp ∧ gS K E B tmp D (m ε)
def SS (X : Cx) (E : XK) (fi : List Nat) (st : Stmt) (m : MS) : Prop := PS X st (tS X.K E fi m)
def SB (X : Cx) (E : XK) (fi : List Nat) (st : List Stmt) (m : MS) : Prop := PSs X st (tS X.K E fi m)
def sSeq (a b : MS) : MS := bd a fun f => match f with
  | .nx => b
  | .rt r => pr (.rt r)
  | .bk => pr .bk
  | .ct => pr .ct
def sNil : MS := pr .nx
def sNev : MS := fun _ => .stuck
def sExp (m : ME) : MS := bd m fun _ => pr .nx
def sRet (m : ME) : MS := bd m fun r => pr (.rt r)
def sRetN : MS := pr (.rt (.dat .non))
def sIf (t : MT) (a b : MS) : MS := bd t fun c => match c with
  | true => a
  | false => b
def putS (i : Nat) (r : SV) : MS := fun ε => .ok .nx (ε.set i r)
def sSet (i : Nat) (m : ME) : MS := bd m fun r => putS i r
/-- return x, x an own object: it is given to the caller -/
def sRetV (i : Nat) : MS := fun ε => match ε[i]? with
  | some .un => .stuck
  | some r => .ok (.rt r) (ε.set i .un)
  | none => .stuck
section
variable {X : Cx} {E : XK} {fi : List Nat} {st : Stmt} {rest : List Stmt} {m m' : MS} {e : Expr} {me : ME} {c : Expr} {tc : MT} {a b : List Stmt} {ma mb : MS} {pos : Pos}
theorem sb_nil : SB X E fi [] sNil := pss_imp pss_nil fun pins s σ H D I ⟨B, ε, tmp, hx, h, w⟩ => w σ H h
theorem sb_one (h : SS X E fi st m) : SB X E fi [st] m := pss_one h
theorem sb_cons (h : SS X E fi st m) (h' : SB X E fi rest m') : SB X E fi (st :: rest) (sSeq m m') :=
  pss_imp (pss_cons h h') fun pins s σ H D I ⟨B, ε, tmp, hx, h, w⟩ => by
    refine ⟨B, ε, tmp, hx, h, ?_⟩
    unfold sSeq bd at w
    cases q : m ε with
    | ok f ε1 =>
      rw [q] at w
      cases f with
      | nx => exact fun σ' H' h' => ⟨B, ε1, tmp, hx, h', w⟩
      | rt r => exact w
      | bk => exact w
      | ct => exact w
    | err x ε1 => rw [q] at w; exact w
    | stuck => rw [q] at w; exact w
theorem ss_never : SS X E fi st sNev := ps_imp ps_never fun pins s σ H D I ⟨B, ε, tmp, hx, h, w⟩ => w
theorem ss_pass : SS X E fi (.Pass pos) sNil := ps_imp ps_pass fun pins s σ H D I ⟨B, ε, tmp, hx, h, w⟩ => w σ H h
theorem ss_break : SS X E fi (.Break pos) (pr .bk) := ps_imp ps_break fun pins s σ H D I ⟨B, ε, tmp, hx, h, w⟩ => w σ H h
theorem ss_continue : SS X E fi (.Continue pos) (pr .ct) := ps_imp ps_continue fun pins s σ H D I ⟨B, ε, tmp, hx, h, w⟩ => w σ H h
theorem ss_expr (he : SP X E false e me) (hs : swapsWith e none pos.line X.env = pure false := by rfl) : SS X E fi (.Expr e pos) (sExp me) :=
  ps_imp (ps_expr he hs) fun pins s σ H D I ⟨B, ε, tmp, hx, h, w⟩ => gex (wiS tmp D) h w fun r v ε' H' h' w' => w' σ H' (h'.pop rfl)
theorem ss_ret (he : SP X E false e me) : SS X E fi (.Return (some e) pos) (sRet me) :=
  ps_imp (ps_ret he) fun pins s σ H D I ⟨B, ε, tmp, hx, h, w⟩ => gex (wiS tmp D) h w fun r v ε' H' h' w' => w' v σ H' h'
theorem ss_retN : SS X E fi (.Return none pos) sRetN :=
  ps_imp ps_retN fun pins s σ H D I ⟨B, ε, tmp, hx, h, w⟩ => w .non σ H (h.push fun F => rep_non)
theorem ss_if (hc : ST X E false c tc) (ha : SB X E fi a ma) (hb : SB X E fi b mb) : SS X E fi (.If c a b pos) (sIf tc ma mb) :=
  ps_imp (ps_if hc ha hb) fun pins s σ H D I ⟨B, ε, tmp, hx, h, w⟩ => gte (wiS tmp D) h w fun b ε' H' h' w' => by
    cases b with
    | true => exact ⟨B, ε', tmp, hx, h', w'⟩
    | false => exact ⟨B, ε', tmp, hx, h', w'⟩
theorem fx_ne {B : Bs} {i : Nat} (hx : B.fx.map (·.1) = fi) (hi : fi.contains i = false) : ∀ x ∈ B.fx, x.1 ≠ i := by
  intro x hm e
  have : i ∈ fi := by rw [← hx, ← e]; exact List.mem_map_of_mem hm
  have h2 : fi.contains i = true := List.contains_iff_mem.mpr this
  rw [hi] at h2; cases h2
theorem Sta.len {K : Fg} {B : Bs} {H : Hp} {σ : L2.St} {ε : Ep} {tmp : Tp} (h : Sta K B H σ ε tmp) : σ.length = ε.length := by
  obtain ⟨F, fp, h⟩ := h
  exact h.len
theorem Sta.store {K : Fg} {B : Bs} {H : Hp} {σ : L2.St} {ε : Ep} {tmp : Tp} {v : V} {r : SV} (h : Sta K B H σ ε ((v, r) :: tmp)) {i : Nat} (hi : i < ε.length) (hx : ∀ x ∈ B.fx, x.1 ≠ i) : Sta K B H (σ.set i (some v)) (ε.set i r) tmp := by
  obtain ⟨F, fp, h⟩ := h
  obtain ⟨fp', h'⟩ := h.store rfl hi hx
  exact ⟨F, fp', h'⟩
theorem ix_lt {pins : List (Addr × Obj)} {σ : L2.St} {H : Hp} {s : Shared} {K : Fg} {B : Bs} {ε : Ep} {tmp : Tp} {i : Nat} {x : Str} (I : Inv X pins σ H s) (hN : X.N[i]? = some x) (hl : σ.length = ε.length) : i < ε.length := by
  have := (List.getElem?_eq_some_iff.mp hN).1
  have := I.len
  omega
theorem ss_set {i : Nat} {x : Str} {pos' : Pos} (hN : X.N.Nodup) (he : SP X E false e me) (hi : X.N[i]? = some x := by rfl) (hx : Loc X.env.scope x := by first | exact Or.inl rfl | exact Or.inr rfl) (hfi : fi.contains i = false := by rfl)
    (hs : swapsWith e (some (.Name x pos')) pos.line X.env = pure false := by rfl) (hf : X.fn x = true ∨ X.env.scope.names.lookup x = some .local := by first | exact .inl rfl | exact .inr rfl | assumption) : SS X E fi (.Assign [.Name x pos'] e pos) (sSet i me) :=
  ps_imp (ps_set hN hi hx he hs hf) fun pins s σ H D I ⟨B, ε, tmp, hfx, h, w⟩ => gex (wiS tmp D) h w fun r v ε' H' h' w' => by
    have hl := h.len
    exact w' _ H' (h'.store (by
      have := h'.len
      have := (List.getElem?_eq_some_iff.mp hi).1
      have := I.len
      omega) (fx_ne hfx hfi))
theorem StF.take {K : Fg} {B : Bs} {F H : Hp} {σ : L2.St} {ε : Ep} {tmp : Tp} {fp : List Addr} (h : StF K B F H σ ε tmp fp) {i : Nat} {r : SV} {v : V} (e : ε[i]? = some r) (ev : σ[i]? = some (some v)) : ∃ fp', StF K B F H σ (ε.set i .un) ((v, r) :: tmp) fp' := by
  obtain ⟨o, ft, f1, f, f2, e1, rfl, h3, h4, h5, h6⟩ := h.slot e
  rw [ev] at e1; cases e1
  have hz : i < (σ.zip ε).length := by
    have := h.len
    have := (List.getElem?_eq_some_iff.mp ev).1
    simp; omega
  have hσ : σ.set i (some v) = σ := by
    obtain ⟨hi, ev⟩ := List.getElem?_eq_some_iff.mp ev
    rw [← ev]; exact List.set_getElem_self hi
  have p1 : (f ++ (ft ++ (f1 ++ ([] ++ f2)))).Perm (ft ++ (f1 ++ (f ++ f2))) := by
    rw [List.nil_append]
    refine List.Perm.trans (List.perm_append_comm_assoc f ft (f1 ++ f2)) ?_
    exact List.Perm.append_left ft (List.perm_append_comm_assoc f f1 f2)
  refine ⟨f ++ (ft ++ (f1 ++ ([] ++ f2))), h.rebuild (Same.refl F) h.sub (fun _ _ q _ => q) (fun q o z => ⟨o, z⟩) (fun p o q => .inl q) (by simpa using h.len) ?_ (p1.nodup_iff.mpr h.nd) (fun p hp => h.out p (p1.subset hp)) (fun p hp => .inl (p1.subset hp)) h.fix⟩
  refine ⟨f, _, rfl, h4, ?_⟩
  show OwnL K F H (tmp.map (fun t => (some t.1, t.2)) ++ σ.zip (ε.set i .un)) _
  have hzs : σ.zip (ε.set i .un) = (σ.zip ε).set i (some v, .un) := by rw [← zip_set, hσ]
  rw [hzs]
  refine OwnL.join h3 (OwnL.put hz h5 ?_ h6)
  show Own K F H .un v []
  unfold Own; rfl
theorem ss_retV {i : Nat} {x : Str} {pos' : Pos} (hN : X.N[i]? = some x := by rfl) (hv : Vis X.env.scope x := by first | exact Or.inl rfl | exact Or.inr (Or.inl rfl) | exact Or.inr (Or.inr rfl)) (hd : (x == ("__debug__" : Str)) = false := by decide)
    (hcd : (x == ("__classdict__" : Str)) = false := by decide) : SS X E fi (.Return (some (.Name x pos')) pos) (sRetV i) :=
  ps_imp (ps_ret (pe_var hN hv hd hcd)) fun pins s σ H D I ⟨B, ε, tmp, hfx, h, w⟩ => by
    unfold sRetV at w
    cases q : ε[i]? with
    | none => rw [q] at w; exact w.elim
    | some r =>
      rw [q] at w
      obtain ⟨F, fp, h⟩ := h
      obtain ⟨o, ft, f1, f, f2, e1, _, _, h4, _, _⟩ := h.slot q
      cases o with
      | none => have := h4.1; subst this; exact w.elim
      | some v =>
        obtain ⟨fp', h'⟩ := h.take q e1
        refine ⟨v, e1, ?_⟩
        have w' : gS X.K E B tmp D (.ok (.rt r) (ε.set i .un)) := by cases r <;> first | exact w | exact w.elim
        exact w' v σ H ⟨F, fp', h'⟩
end
/-! ### ghost steps -/
section
variable {K : Fg} {B : Bs} {F H : Hp} {σ : L2.St} {ε : Ep} {tmp : Tp} {fp : List Addr}
/-- what was laid aside last is what a slot holds: it goes back there -/
theorem StF.back (h : StF K B F H σ ε tmp fp) {v : V} {s : SV} {tmp' : Tp} (e : tmp = (v, s) :: tmp') {i : Nat} (ev : σ[i]? = some (some v)) : ∃ fp', StF K B F H σ (ε.set i s) tmp' fp' := by
  obtain ⟨g1, g2, rfl, h1, h2⟩ := h.pop e
  have hi : i < ε.length := by
    have := h.len
    have := (List.getElem?_eq_some_iff.mp ev).1
    omega
  obtain ⟨o, ft, f1, f, f2, e1, rfl, h3, h4, h5, h6⟩ := h2.slot (i := i) (List.getElem?_eq_getElem hi)
  have hz : i < (σ.zip ε).length := by
    have := h.len
    simp; omega
  have hσ : σ.set i (some v) = σ := by
    obtain ⟨hi, ev⟩ := List.getElem?_eq_some_iff.mp ev
    rw [← ev]; exact List.set_getElem_self hi
  refine ⟨ft ++ (f1 ++ (g1 ++ f2)), h.rebuild (Same.refl F) h.sub (fun _ _ q _ => q) (fun q o z => ⟨o, z⟩) (fun p o q => .inl q) (by simpa using h.len) ?_ ?_ (fun p hp => h.out p ?_) (fun p hp => .inl ?_) h.fix⟩
  · show OwnL K F H (tmp'.map (fun t => (some t.1, t.2)) ++ σ.zip (ε.set i s)) _
    have hzs : σ.zip (ε.set i s) = (σ.zip ε).set i (some v, s) := by rw [← zip_set, hσ]
    rw [hzs]
    exact OwnL.join h3 (OwnL.put hz h5 h1 h6)
  · have nd := h.nd
    have p1 : (ft ++ (f1 ++ (g1 ++ f2))).Perm (g1 ++ (ft ++ (f1 ++ f2))) := by
      refine List.Perm.trans ?_ (List.perm_append_comm_assoc ft g1 (f1 ++ f2))
      exact List.Perm.append_left ft (List.perm_append_comm_assoc f1 g1 f2)
    have p2 : (g1 ++ (ft ++ (f1 ++ f2))).Sublist (g1 ++ (ft ++ (f1 ++ (f ++ f2)))) :=
      List.Sublist.append_left (List.Sublist.append_left (List.Sublist.append_left (List.sublist_append_right f f2) f1) ft) g1
    exact p1.nodup_iff.mpr (nd.sublist p2)
  · simp only [List.mem_append] at hp ⊢; rcases hp with z | z | z | z <;> simp [z]
  · simp only [List.mem_append] at hp ⊢; rcases hp with z | z | z | z <;> simp [z]
/-- what a slot holds is frozen in place -/
theorem StF.fzSlot (h : StF K B F H σ ε tmp fp) {i : Nat} {s : SV} {d : D} (e : ε[i]? = some s) (t : s.toD = some d) : ∃ v F' fp', Same F F' ∧ σ[i]? = some (some v) ∧ Rep K F' d v ∧ StF K B F' H σ (ε.set i (.dat d)) tmp fp' := by
  obtain ⟨o, ft, f1, f, f2, e1, _, _, h4, _, _⟩ := h.slot e
  cases o with
  | none => rw [h4.1] at t; unfold SV.toD at t; cases t
  | some v =>
    obtain ⟨fp1, h1⟩ := h.take e e1
    obtain ⟨F2, fp2, s2, h2⟩ := h1.freeze rfl t
    obtain ⟨fp3, h3⟩ := h2.back rfl e1
    rw [List.set_set] at h3
    exact ⟨v, F2, fp3, s2, e1, (h2.datum rfl).1, h3⟩
end
/-- a slot's own thing, frozen from now on -/
def fzS (i : Nat) : M D := fun ε => match ε[i]? with
  | some s => match s.toD with
    | some d => .ok d (ε.set i (.dat d))
    | none => .stuck
  | none => .stuck
def cVF (i : Nat) : ME := bd (fzS i) fun d => pr (.dat d)
theorem fzS_ok {K : Fg} {B : Bs} {H : Hp} {σ : L2.St} {ε : Ep} {tmp : Tp} {i : Nat} (h : Sta K B H σ ε tmp) : fzS i ε = .stuck ∨ ∃ d v, fzS i ε = .ok d (ε.set i (.dat d)) ∧ σ[i]? = some (some v) ∧ Sta K B H σ (ε.set i (.dat d)) ((v, .dat d) :: tmp) := by
  unfold fzS
  cases e : ε[i]? with
  | none => exact .inl rfl
  | some s =>
    cases t : s.toD with
    | none => left; simp only [t]
    | some d =>
      right
      obtain ⟨F, fp, h⟩ := h
      obtain ⟨v, F', fp', _, e1, r, h'⟩ := h.fzSlot e t
      exact ⟨d, v, by simp only [t], e1, h'.pushS r⟩
section
variable {X : Cx} {E : XK} {pos : Pos}
theorem sp_varF (i : Nat) {x : Str} (hN : X.N[i]? = some x := by rfl) (hv : Vis X.env.scope x := by first | exact Or.inl rfl | exact Or.inr (Or.inl rfl) | exact Or.inr (Or.inr rfl)) (hd : (x == ("__debug__" : Str)) = false := by decide)
    (hcd : (x == ("__classdict__" : Str)) = false := by decide) : SP X E false (.Name x pos) (cVF i) := pe_imp (pe_var hN hv hd hcd) fun pins s σ H Q I ⟨B, ε, tmp, h, w⟩ => by
  unfold cVF bd at w
  rcases fzS_ok (i := i) h with z | ⟨d, v, z, e1, h'⟩
  · rw [z] at w; exact w.elim
  · rw [z] at w
    exact ⟨v, e1, w v H h' (fun z => by cases z)⟩
end
/-- the value is frozen at once -/
def cFz (m : ME) : ME := bd m fun r => bd (lft (ofO r.toD)) fun d => pr (.dat d)
theorem Sta.fz {K : Fg} {B : Bs} {H : Hp} {σ : L2.St} {ε : Ep} {tmp : Tp} {v : V} {r : SV} {d : D} (h : Sta K B H σ ε ((v, r) :: tmp)) (t : r.toD = some d) : Sta K B H σ ε ((v, .dat d) :: tmp) := by
  obtain ⟨F, fp, hF, rr⟩ := h.datum rfl t
  exact hF.pushS rr
theorem sp_fz {X : Cx} {E : XK} {pu : Bool} {e : Expr} {m : ME} (h : SP X E pu e m) : SP X E pu e (cFz m) := pe_imp h fun pins s σ H Q I ⟨B, ε, tmp, h, w⟩ => by
  refine gex (wiP tmp Q) h w fun r v ε' H' h' w' => ?_
  obtain ⟨d, t, w2⟩ := (wiP tmp Q).ofO w'
  exact w2 v H' (h'.fz t) Pq.refl
/-! ### a slot's own thing, lent for a while -/
mutual
/-- nothing in it can be changed -/
def D.flat : D → Bool
  | .non | .bl _ | .int _ | .str _ => true
  | .tup xs => flats xs
  | _ => false
def flats : List D → Bool
  | [] => true
  | d :: ds => D.flat d && flats ds
end
section
variable {K : Fg} {F F' H : Hp}
mutual
theorem Rep.flat (e : ∀ a vs, SqT K F a vs → SqT K F' a vs) : ∀ (d : D) (v : V), d.flat = true → Rep K F d v → Rep K F' d v
  | .non, v, _, h => h
  | .bl b, v, _, h => h
  | .int i, v, _, h => h
  | .str x, v, _, h => h
  | .lst xs, v, q, h => by cases q
  | .frl xs, v, q, h => by cases q
  | .tup xs, v, q, h => by
    unfold Rep at h ⊢
    unfold D.flat at q
    obtain ⟨a, vs, rfl, h1, h2⟩ := h
    exact ⟨a, vs, rfl, e _ _ h1, Reps.flat e xs vs q h2⟩
  | .dct _ xs, v, q, h => by cases q
  | .obj C xs, v, q, h => by cases q
theorem Reps.flat (e : ∀ a vs, SqT K F a vs → SqT K F' a vs) : ∀ (d : List D) (v : List V), flats d = true → Reps K F d v → Reps K F' d v
  | [], v, _, h => by unfold Reps at h ⊢; exact h
  | d :: ds, v, q, h => by
    unfold Reps at h ⊢
    unfold flats at q
    obtain ⟨v, r, rfl, h1, h2⟩ := h
    exact ⟨v, r, rfl, Rep.flat e d v (Bool.and_eq_true_iff.mp q).1 h1, Reps.flat e ds r (Bool.and_eq_true_iff.mp q).2 h2⟩
end
mutual
/-- what is owned is no tuple -/
theorem Own.notup : ∀ (s : SV) (v : V) (f : List Addr), Own K F H s v f → ∀ p ∈ f, ∀ xs, H p ≠ some (.tup xs) ∧ ∀ o, H p ≠ some (.frz o (.tup xs))
  | .un, v, f, h, p, hp, xs => by unfold Own at h; rw [h] at hp; cases hp
  | .dat d, v, f, h, p, hp, xs => by unfold Own at h; rw [h.1] at hp; cases hp
  | .ol ys, v, f, h, p, hp, xs => by
    unfold Own at h
    obtain ⟨a, vs, rfl, rfl, h1, h2⟩ := h
    rw [List.mem_singleton] at hp; subst hp
    exact ⟨fun z => by (rw [z] at h1; cases h1), fun o z => by (rw [z] at h1; cases h1)⟩
  | .od ys, v, f, h, p, hp, xs => by
    unfold Own at h
    obtain ⟨a, vs, rfl, rfl, h1, h2⟩ := h
    rw [List.mem_singleton] at hp; subst hp
    exact ⟨fun z => by (rw [z] at h1; cases h1), fun o z => by (rw [z] at h1; cases h1)⟩
  | .oi C fs, v, f, h, p, hp, xs => by
    unfold Own at h
    obtain ⟨a, dx, gs, f2, rfl, rfl, h1, h2, h3⟩ := h
    rcases List.mem_cons.mp hp with rfl | hp
    · exact ⟨fun z => by (rw [z] at h1; cases h1), fun o z => by (rw [z] at h1; cases h1)⟩
    · rcases List.mem_cons.mp hp with rfl | hp
      · exact ⟨fun z => by (rw [z] at h2; cases h2), fun o z => by (rw [z] at h2; cases h2)⟩
      · exact OwnF.notup fs gs f2 h3 p hp xs
theorem OwnF.notup : ∀ (s : List (Str × SV)) (v : List (Str × V)) (f : List Addr), OwnF K F H s v f → ∀ p ∈ f, ∀ xs, H p ≠ some (.tup xs) ∧ ∀ o, H p ≠ some (.frz o (.tup xs))
  | [], v, f, h, p, hp, xs => by unfold OwnF at h; rw [h.2] at hp; cases hp
  | (x, s) :: r, gs, f, h, p, hp, xs => by
    unfold OwnF at h
    obtain ⟨v, gs', f1, f2, rfl, rfl, h1, h2⟩ := h
    rcases List.mem_append.mp hp with z | z
    · exact Own.notup s v f1 h1 p z xs
    · exact OwnF.notup r gs' f2 h2 p z xs
end
end
section
variable {K : Fg} {F F' H H' : Hp}
mutual
/-- what is owned is told by the heap -/
theorem Own.det (e : Same H H') : ∀ (s : SV) (v : V) (f f' : List Addr), Own K F H s v f → Own K F' H' s v f' → f = f'
  | .un, v, f, f', h, h' => by unfold Own at h h'; rw [h, h']
  | .dat d, v, f, f', h, h' => by unfold Own at h h'; rw [h.1, h'.1]
  | .ol xs, v, f, f', h, h' => by
    unfold Own at h h'
    obtain ⟨p, vs, rfl, rfl, h1, h2⟩ := h
    obtain ⟨p', vs', e1, rfl, h3, h4⟩ := h'
    cases e1; rfl
  | .od xs, v, f, f', h, h' => by
    unfold Own at h h'
    obtain ⟨p, vs, rfl, rfl, h1, h2⟩ := h
    obtain ⟨p', vs', e1, rfl, h3, h4⟩ := h'
    cases e1; rfl
  | .oi C fs, v, f, f', h, h' => by
    unfold Own at h h'
    obtain ⟨p, dx, gs, f2, rfl, rfl, h1, h2, h3⟩ := h
    obtain ⟨p', dx', gs', f2', e1, rfl, h4, h5, h6⟩ := h'
    cases e1
    have := e _ _ h1
    rw [h4] at this; cases this
    rw [OwnF.det e fs gs f2 f2' h3 h6]
theorem OwnF.det (e : Same H H') : ∀ (s : List (Str × SV)) (v : List (Str × V)) (f f' : List Addr), OwnF K F H s v f → OwnF K F' H' s v f' → f = f'
  | [], v, f, f', h, h' => by unfold OwnF at h h'; rw [h.2, h'.2]
  | (x, s) :: r, v, f, f', h, h' => by
    unfold OwnF at h h'
    obtain ⟨v1, gs1, f1, f2, rfl, rfl, h1, h2⟩ := h
    obtain ⟨v2, gs2, f3, f4, e1, rfl, h3, h4⟩ := h'
    cases e1
    rw [Own.det e s _ f1 f3 h1 h3, OwnF.det e r _ f2 f4 h2 h4]
end
theorem OwnL.det (e : Same H H') : ∀ {l : List PR} {f f' : List Addr}, OwnL K F H l f → OwnL K F' H' l f' → f = f'
  | [], f, f', h, h' => by rw [show f = [] from h, show f' = [] from h']
  | (o, s) :: r, f, f', h, h' => by
    obtain ⟨f1, f2, rfl, h1, h2⟩ := h
    obtain ⟨f3, f4, rfl, h3, h4⟩ := h'
    rw [OwnL.det e h2 h4]
    cases o with
    | none => rw [h1.2, h3.2]
    | some v => rw [Own.det e s v f1 f3 h1 h3]
end
def flatR : SV → Bool
  | .dat d => d.flat
  | _ => false
def flatR2 : SV → Bool
  | .dat d => d.flat
  | .ol xs => flats xs
  | _ => false
def lendR2 (ε : Ep) : Rs SV → Rs SV
  | .ok r _ => if flatR2 r = true then .ok r ε else .stuck
  | _ => .stuck
def lendR (ε : Ep) : Rs SV → Rs SV
  | .ok r _ => if flatR r = true then .ok r ε else .stuck
  | _ => .stuck
def lend (i : Nat) (m : ME) : ME := fun ε => match ε[i]? with
  | some s => match s.toD with
    | some d => lendR2 ε (m (ε.set i (.dat d)))
    | none => .stuck
  | none => .stuck
section
variable {K : Fg} {B : Bs} {F H : Hp} {σ : L2.St} {ε : Ep} {tmp : Tp} {fp : List Addr}
theorem StF.pushOwn' (h : StF K B F H σ ε tmp fp) {v : V} {r : SV} {f : List Addr} (o : Own K F H r v f) (nd : f.Nodup) (hf : ∀ p ∈ f, F p = none ∧ p ∉ fp ∧ (p ∈ B.fp0 ∨ B.H0 p = none)) : StF K B F H σ ε ((v, r) :: tmp) (f ++ fp) := h.pushOwn o nd hf
/-- what is lent: under another ground; and back -/
theorem StF.lend (h : StF K B F H σ ε tmp fp) {i : Nat} {s : SV} {d : D} (e : ε[i]? = some s) (t : s.toD = some d) : ∃ B1, Sta K B1 H σ (ε.set i (.dat d)) tmp ∧
    ∀ H' v r, Sta K B1 H' σ (ε.set i (.dat d)) ((v, r) :: tmp) → Same H H' → flatR2 r = true → Sta K B H' σ ε ((v, r) :: tmp) := by
  obtain ⟨o, ft, f1, f, f2, e1, rfl, h3, h4, h5, h6⟩ := h.slot e
  cases o with
  | none => rw [h4.1] at t; unfold SV.toD at t; cases t
  | some v0 =>
  have h4 : Own K F H s v0 f := h4
  have hs : Same F (fz F H f) := fun p o q => by
    by_cases z : p ∈ f
    · rw [h.out p (by simp [z])] at q; cases q
    · rw [fz_out z]; exact q
  have hz : i < (σ.zip ε).length := by
    have := h.len
    have := (List.getElem?_eq_some_iff.mp e1).1
    simp; omega
  have hσ : σ.set i (some v0) = σ := by
    obtain ⟨hi, ev⟩ := List.getElem?_eq_some_iff.mp e1
    rw [← ev]; exact List.set_getElem_self hi
  have ndr : (ft ++ (f1 ++ f2)).Nodup := by
    refine List.Sublist.nodup ?_ h.nd
    exact List.Sublist.append_left (List.Sublist.append_left (List.sublist_append_right f f2) f1) ft
  have nd := List.nodup_append.mp h.nd
  have nd2 := List.nodup_append.mp nd.2.1
  have nd3 := List.nodup_append.mp nd2.2.1
  have hd : ∀ p ∈ ft ++ (f1 ++ f2), p ∉ f := fun p hp z => by
    rcases List.mem_append.mp hp with y | y
    · exact nd.2.2 p y p (by simp [z]) rfl
    · rcases List.mem_append.mp y with y | y
      · exact nd2.2.2 p y p (by simp [z]) rfl
      · exact nd3.2.2 p z p y rfl
  have hm : ∀ p, p ∈ ft ++ (f1 ++ f2) → p ∈ ft ++ (f1 ++ (f ++ f2)) := fun p hp => by
    simp only [List.mem_append] at hp ⊢
    rcases hp with z | z | z <;> simp [z]
  let B1 : Bs := ⟨fz F H f, H, ft ++ (f1 ++ f2), B.fx⟩
  refine ⟨B1, ⟨fz F H f, ft ++ (f1 ++ ([] ++ f2)), ?_⟩, ?_⟩
  · exact {
      sub0 := Same.refl _
      sub := fun p o q => by
        by_cases z : p ∈ f
        · rw [fz_in z] at q; exact q
        · rw [fz_out z] at q; exact h.sub _ _ q
      keep := fun q o a _ => a
      there := fun q o a => ⟨o, a⟩
      new := fun p o q => .inl q
      len := by simpa using h.len
      own := by
        show OwnL K _ H (tmp.map (fun t => (some t.1, t.2)) ++ σ.zip (ε.set i (.dat d))) _
        have hzs : σ.zip (ε.set i (.dat d)) = (σ.zip ε).set i (some v0, .dat d) := by rw [← zip_set, hσ]
        rw [hzs]
        refine OwnL.join (h3.mono hs fun _ _ => rfl) (OwnL.put hz (h5.mono hs fun _ _ => rfl) ?_ (h6.mono hs fun _ _ => rfl))
        show Own K _ H (.dat d) v0 []
        unfold Own
        exact ⟨rfl, Own.give hs s v0 f d h4 t fun p hp => fz_in hp⟩
      nd := by simpa using ndr
      out := fun p hp => by
        have hp : p ∈ ft ++ (f1 ++ f2) := by simpa using hp
        rw [fz_out (hd p hp)]; exact h.out p (hm p hp)
      old := fun p hp => .inl (by rw [List.nil_append] at hp; exact hp)
      fix := h.fix }
  · rintro H' v r0 ⟨F', fp', h'⟩ sH fl
    obtain ⟨ga, gb, efp, o0, hB⟩ := h'.pop rfl
    let F2 : Hp := fun p => if p ∈ f then none else F' p
    have f2i : ∀ p, p ∈ f → F2 p = none := fun p hp => if_pos hp
    have f2o : ∀ p, p ∉ f → F2 p = F' p := fun p hp => if_neg hp
    have le : Same F F2 := fun p o q => by
      by_cases z : p ∈ f
      · rw [h.out p (by simp [z])] at q; cases q
      · rw [f2o p z]; exact h'.sub0 _ _ (hs _ _ q)
    have r2 : ∀ a vs, SqT K F' a vs → SqT K F2 a vs := by
      intro a vs q
      have nf : ∀ xs, (F' a = some (.tup xs) ∨ ∃ o, F' a = some (.frz o (.tup xs))) → a ∉ f := by
        intro xs q z
        obtain ⟨u, hu⟩ := h.trk a (by simp [z])
        have hu' := sH _ _ hu
        rcases q with q | ⟨o, q⟩
        · have := h'.sub _ _ q
          rw [hu'] at this; cases this
          exact (Own.notup s v0 f h4 a z xs).1 hu
        · have := h'.sub _ _ q
          rw [hu'] at this; cases this
          exact (Own.notup s v0 f h4 a z xs).2 o hu
      rcases q with q | q
      · have z := nf _ q
        left
        rcases q with q | ⟨o, q⟩
        · exact .inl (by rw [f2o a z]; exact q)
        · exact .inr ⟨o, by rw [f2o a z]; exact q⟩
      · exact .inr q
    -- the footprints of the rest are as they were
    have rest : gb = ft ++ (f1 ++ f2) := by
      obtain ⟨o', ft', f1', f', f2', e1', rfl, h3', h4', h5', h6'⟩ := hB.slot (i := i) (s := .dat d) (by
        rw [List.getElem?_set_self (by
          have := h.len
          have := (List.getElem?_eq_some_iff.mp e1).1
          omega)])
      have hzs : σ.zip (ε.set i (.dat d)) = (σ.zip ε).set i (some v0, .dat d) := by rw [← zip_set, hσ]
      rw [hzs, List.take_set_of_le (Nat.le_refl i)] at h5'
      rw [hzs, List.drop_set_of_lt (Nat.lt_succ_self i)] at h6'
      have d1 := OwnL.det sH h3 h3'
      have d2 := OwnL.det sH h5 h5'
      have d3 := OwnL.det sH h6 h6'
      subst d1; subst d2; subst d3
      have : f' = [] := by
        rw [e1] at e1'; cases e1'
        have h4' : Own K F' H' (.dat d) v0 f' := h4'
        unfold Own at h4'; exact h4'.1
      subst this; rfl
    have g : StF K B F2 H' σ ε tmp (ft ++ (f1 ++ (f ++ f2))) := by
      refine h.rebuild le (fun p o q => ?_) (fun q o a _ => sH _ _ a) (fun q o a => ⟨o, sH _ _ a⟩) (fun p o q => ?_) h.len (h.own.mono le fun p hp => ?_) h.nd (fun p hp => ?_) (fun p hp => .inl hp) h.fix
      · by_cases z : p ∈ f
        · rw [f2i p z] at q; cases q
        · rw [f2o p z] at q; exact h'.sub _ _ q
      · by_cases z : p ∈ f
        · rw [f2i p z] at q; cases q
        · rw [f2o p z] at q
          rcases h'.new p o q with y | y | y
          · left
            have y : fz F H f p = some o := y
            rw [fz_out z] at y; exact y
          · exact .inr (.inl y)
          · exact .inr (.inr (hm p y))
      · obtain ⟨u, hu⟩ := h.trk p hp
        rw [hu]; exact sH _ _ hu
      · by_cases z : p ∈ f
        · exact f2i p z
        · rw [f2o p z]
          cases qq : F' p with
          | none => rfl
          | some u =>
            have hp' : p ∈ ft ++ (f1 ++ f2) := by
              simp only [List.mem_append] at hp ⊢
              rcases hp with y | y | y | y
              · simp [y]
              · simp [y]
              · exact absurd y z
              · simp [y]
            exfalso
            have : F' p = none := h'.out p (by rw [efp, rest]; exact List.mem_append_right _ hp')
            rw [this] at qq; cases qq
    cases r0 with
    | dat d' =>
      unfold Own at o0
      exact g.pushS (Rep.flat r2 d' v fl o0.2)
    | ol xs =>
      unfold Own at o0
      obtain ⟨q, vs, rfl, rfl, q1, q2⟩ := o0
      have hqF : F' q = none := h'.out q (by rw [efp]; simp)
      have hqf : q ∉ f := fun z => by
        obtain ⟨u, hu⟩ := h.trk q (by simp [z])
        have : fz F H f q = some u := by rw [fz_in z]; exact hu
        rw [h'.sub0 _ _ this] at hqF; cases hqF
      have hnd := h'.nd
      rw [efp, rest] at hnd
      have hqr : q ∉ ft ++ (f1 ++ f2) := (List.nodup_cons.mp (show (q :: (ft ++ (f1 ++ f2))).Nodup from hnd)).1
      have hold : H q = none := by
        rcases h'.old q (by rw [efp]; simp) with z | z
        · exact absurd z hqr
        · exact z
      refine ⟨F2, _, g.pushOwn' (f := [q]) ?_ (by simp) (fun p hp => ?_)⟩
      · unfold Own
        exact ⟨q, vs, rfl, rfl, q1, Reps.flat r2 xs vs fl q2⟩
      · rw [List.mem_singleton] at hp
        subst hp
        refine ⟨by rw [f2o p hqf]; exact hqF, fun z => ?_, ?_⟩
        · obtain ⟨u, hu⟩ := h.trk p z
          rw [hold] at hu; cases hu
        · right
          cases qq : B.H0 p with
          | none => rfl
          | some u =>
            obtain ⟨o', z'⟩ := h.there p u qq
            rw [hold] at z'; cases z'
    | _ => cases fl
end
theorem sp_lend {X : Cx} {E : XK} {pu : Bool} {e : Expr} {m : ME} (i : Nat) (h : SP X E true e m) : SP X E pu e (Dv.lend i m) := pe_imp h fun pins s σ H Q I ⟨B, ε, tmp, h, w⟩ => by
  unfold Dv.lend at w
  cases q : ε[i]? with
  | none => rw [q] at w; exact w.elim
  | some s =>
    rw [q] at w
    simp only at w
    cases t : s.toD with
    | none => rw [t] at w; exact w.elim
    | some d =>
      rw [t] at w
      simp only at w
      obtain ⟨F, fp, h⟩ := h
      obtain ⟨B1, h1, bk⟩ := h.lend q t
      refine ⟨B1, _, _, h1, ?_⟩
      cases q2 : m (ε.set i (.dat d)) with
      | err x ε' => rw [q2] at w; exact w.elim
      | stuck => rw [q2] at w; exact w.elim
      | ok r ε' =>
        rw [q2] at w
        unfold lendR2 at w
        simp only at w
        by_cases z : flatR2 r = true
        · rw [if_pos z] at w
          intro v H' h' p
          obtain ⟨rfl, sH⟩ := p rfl
          exact w v H' (bk H' v r h' sH z) (Pq.of sH)
        · rw [if_neg z] at w; exact w.elim
/-! ### the function -/
def fnR : Rs Fl → Ot SV
  | .ok (.rt r) _ => .ok r
  | .ok .nx _ => okd .non
  | .err x _ => .err x
  | _ => .stuck
def fnS (n len : Nat) (m : MS) : List D → Ot SV := fun ds => if ds.length = n then fnR (m (ds.map .dat ++ List.replicate (len - n) .un)) else .stuck
def slot0 (ε : Ep) : SV := match ε with
  | s :: _ => s
  | [] => .un
def fnRM : Rs Fl → Rm
  | .ok (.rt r) ε => .ok r (slot0 ε)
  | .ok .nx ε => .ok (.dat .non) (slot0 ε)
  | .err x ε => .err x (slot0 ε)
  | _ => .stuck
/-- with a first parameter that changes -/
def fnM (n len : Nat) (m : MS) : SV → List D → Rm := fun s ds => if (s.own? && ds.length + 1 == n) = true then fnRM (m (s :: (ds.map .dat ++ List.replicate (len - n) .un))) else .stuck
section
variable {K : Fg} {F H : Hp}
theorem own_args : ∀ {ds : List D} {vs : List V}, Reps K F ds vs → OwnL K F H ((vs.map some).zip (ds.map .dat)) []
  | [], vs, h => by unfold Reps at h; subst h; rfl
  | d :: ds, vs, h => by
    unfold Reps at h
    obtain ⟨v, r, rfl, h1, h2⟩ := h
    refine ⟨[], [], rfl, ?_, own_args h2⟩
    show Own K F H (.dat d) v []
    unfold Own; exact ⟨rfl, h1⟩
theorem own_un : ∀ n : Nat, OwnL K F H ((List.replicate n (none : Option V)).zip (List.replicate n SV.un)) []
  | 0 => rfl
  | n + 1 => ⟨[], [], rfl, ⟨rfl, rfl⟩, own_un n⟩
theorem sta_start {ds : List D} {vs : List V} {n len : Nat} (N : List Str) (hN : N.length = len) (hn : ds.length = n) (s : Same F H) (r : Reps K F ds vs) :
    StF K ⟨F, H, [], []⟩ F H (L2.start N vs) (ds.map .dat ++ List.replicate (len - n) .un) [] [] where
  sub0 := Same.refl F
  sub := s
  keep := fun q o a _ => a
  there := fun q o a => ⟨o, a⟩
  new := fun p o q => .inl q
  len := by
    have := r.length
    simp [L2.start]; omega
  own := by
    show OwnL K F H ([] ++ (L2.start N vs).zip _) []
    unfold L2.start
    rw [List.nil_append, List.zip_append (by simp [r.length])]
    have e : N.length - vs.length = len - n := by rw [hN, r.length, hn]
    rw [e]
    exact (own_args r).join (own_un _)
  nd := List.nodup_nil
  out := fun p hp => by cases hp
  old := fun p hp => by cases hp
  fix := fun x hx => by cases hx
end
section
variable {P : Program} {w : World} {K : Fg} {mg : Str → Option Value} {base : Heap} {x qual : Str} {params : Arguments} {body : List Stmt} {scope : Scope} {dvs : List V} {kws : List (Str × V)} {f : Addr} {fd : FuncData} {N ps : List Str} {k : Nat}
/-- the wishes of exceptions, of a def -/
theorem passes_def {N : List Str} {A : Around} {outer : List Env} {s : Shared} {H : Hp} {E : XK} {cdv : Value} : Passes (L2.CX P w) (cxOf (L2.CX P w) P w K mg base N qual scope f cdv A outer s H E) E :=
  passes_call (takes_of rfl rfl rfl rfl) fun _ _ _ _ q => q
/-- the context of a def's body -/
abbrev CD (P : Program) (w : World) (K : Fg) (mg : Str → Option Value) (base : Heap) (N : List Str) (qual : Str) (scope : Scope) (f : Addr) (cdv : Value) (A : Around) (outer : List Env) (s : Shared) (H : Hp) (E : XK) : Cx := cxOf (L2.CX P w) P w K mg base N qual scope f cdv A outer s H E
theorem own_def {f : Addr} {cdv : Value} {N : List Str} {A : Around} {outer : List Env} {s : Shared} {H : Hp} {E : XK} : PassesOwn (model P w) (CD P w K mg base N qual scope f cdv A outer s H E).A (CD P w K mg base N qual scope f cdv A outer s H E).env (CD P w K mg base N qual scope f cdv A outer s H E).xe := passes_of rfl
theorem passes_blk {P : Program} {w : World} {X : Cx} {s : Shared} {H : Hp} {scope : Scope} {cenv : Env} {fp : List Addr} : Passes (L2.CX P w) (X.blk s H scope cenv fp) (fun _ _ _ => False) := fun pins σ H s e s' I c => by
  obtain ⟨a, B, H', cls, d, _, _, _, _, _, _, _, hE⟩ := c
  exact hE
theorem fn_ok {m : MS} (F : FunD K x qual params body scope dvs kws f fd) (S : FnScope N ps scope)
    (hbody : ∀ (cdv : Value) (A : Around) (outer : List Env) (s : Shared) (H : Hp) (E : XK), Room k (A.deeper (envOfC qual scope s.heap.objs.size f cdv)) → SB (CD P w K mg base N qual scope f cdv A outer s H E) E [] body m) :
    FnOk P w K mg base (L2.CX P w) (k + 1) f fd ps (spF K (fnS ps.length N.length m)) := by
  refine fn_body F S (fun vs H Q E h => ?_) (fun cdv A outer s H vs Q E hr h => ⟨tS K E [] m, ?_, ?_⟩)
  · obtain ⟨F0, ds, _, r, q⟩ := h
    rw [r.length]
    by_cases z : ds.length = ps.length
    · exact z
    · unfold fnS at q; rw [if_neg z] at q; exact q.elim
  · exact hbody cdv A outer s H E hr
  · obtain ⟨F0, ds, sF, r, q⟩ := h
    have z : ds.length = ps.length := by
      by_cases z : ds.length = ps.length
      · exact z
      · unfold fnS at q; rw [if_neg z] at q; exact q.elim
    unfold fnS at q
    rw [if_pos z] at q
    have h0 := sta_start (K := K) N rfl z sF r
    refine ⟨_, _, _, rfl, h0.sta, ?_⟩
    have gr : ∀ {σ' : L2.St} {ε' : Ep} {tmp : Tp} {F' H' : Hp} {fp : List Addr}, StF K ⟨F0, H, [], []⟩ F' H' σ' ε' tmp fp → Gr F0 H F' H' := fun h => ⟨fun q o a => h.keep q o a (by simp), h.sub0, h.sub, fun p o a => by
      rcases h.new p o a with z | z | z
      · exact .inl z
      · exact .inr z
      · cases z⟩
    cases e : m (ds.map .dat ++ List.replicate (N.length - ps.length) .un) with
    | stuck => rw [e] at q; exact q
    | ok fl ε' =>
      rw [e] at q
      cases fl with
      | nx =>
        intro σ' H' h'
        obtain ⟨F', fp, h'⟩ := h'
        exact q .non F' H' [] (gr h') (by unfold Own; exact ⟨rfl, rep_non⟩) List.nodup_nil (fun p hp => by cases hp)
      | rt r =>
        intro v σ' H' h'
        obtain ⟨F', fp, h'⟩ := h'
        obtain ⟨f1, f2, rfl, o, h2⟩ := h'.pop rfl
        refine q v F' H' f1 (gr h') o (List.nodup_append.mp h'.nd).1 fun p hp => ⟨h'.out p (by simp [hp]), ?_⟩
        rcases h'.old p (by simp [hp]) with z | z
        · cases z
        · exact z
      | bk => exact q.elim
      | ct => exact q.elim
    | err x ε' =>
      rw [e] at q
      intro c dd σ' H' ⟨F', fp, h', ec, xf⟩
      exact q c dd F' H' (gr h') ec xf
theorem sta_startM {F H : Hp} {s : SV} {ds : List D} {vs : List V} {a : Addr} {fp : List Addr} {n len : Nat} (N : List Str) (hN : N.length = len) (hn : ds.length + 1 = n) (sF : Same F H) (o : Own K F H s (.ref a) fp) (nd : fp.Nodup) (out : ∀ p ∈ fp, F p = none) (r : Reps K F ds vs) :
    StF K ⟨F, H, fp, [(0, a)]⟩ F H (L2.start N (.ref a :: vs)) (s :: (ds.map .dat ++ List.replicate (len - n) .un)) [] (fp ++ []) where
  sub0 := Same.refl F
  sub := sF
  keep := fun q o a _ => a
  there := fun q o a => ⟨o, a⟩
  new := fun p o q => .inl q
  len := by
    have := r.length
    simp [L2.start]; omega
  own := by
    show OwnL K F H ([] ++ (L2.start N (.ref a :: vs)).zip _) _
    unfold L2.start
    rw [List.nil_append, List.map_cons, List.cons_append, List.zip_cons_cons]
    refine ⟨fp, [], rfl, o, ?_⟩
    rw [List.zip_append (by simp [r.length])]
    have e : N.length - (V.ref a :: vs).length = len - n := by rw [List.length_cons, hN, r.length, hn]
    rw [e]
    exact (own_args r).join (own_un _)
  nd := by simpa using nd
  out := fun p hp => out p (by simpa using hp)
  old := fun p hp => .inl (by simpa using hp)
  fix := fun x hx => by
    rw [List.mem_singleton] at hx; subst hx
    rfl
theorem fn_okM {m : MS} (F : FunD K x qual params body scope dvs kws f fd) (S : FnScope N ps scope)
    (hbody : ∀ (cdv : Value) (A : Around) (outer : List Env) (s : Shared) (H : Hp) (E : XK), Room k (A.deeper (envOfC qual scope s.heap.objs.size f cdv)) → SB (CD P w K mg base N qual scope f cdv A outer s H E) E [0] body m) :
    FnOk P w K mg base (L2.CX P w) (k + 1) f fd ps (spM K (fnM ps.length N.length m)) := by
  refine fn_body F S (fun vs H Q E h => ?_) (fun cdv A outer s H vs Q E hr h => ⟨tS K E [0] m, ?_, ?_⟩)
  · obtain ⟨F0, s, fp, a, vr, ds, rfl, _, _, _, _, r, q⟩ := h
    rw [List.length_cons, r.length]
    by_cases z : (s.own? && ds.length + 1 == ps.length) = true
    · exact eq_of_beq (Bool.and_eq_true_iff.mp z).2
    · unfold fnM at q; rw [if_neg z] at q; exact q.elim
  · exact hbody cdv A outer s H E hr
  · obtain ⟨F0, s0, fp0, a, vr, ds, rfl, sF, o0, nd0, out0, r, q⟩ := h
    have z : (s0.own? && ds.length + 1 == ps.length) = true := by
      by_cases z : (s0.own? && ds.length + 1 == ps.length) = true
      · exact z
      · unfold fnM at q; rw [if_neg z] at q; exact q.elim
    unfold fnM at q
    rw [if_pos z] at q
    have h0 := sta_startM (K := K) N rfl (eq_of_beq (Bool.and_eq_true_iff.mp z).2) sF o0 nd0 out0 r
    refine ⟨_, _, _, rfl, h0.sta, ?_⟩
    have gr : ∀ {σ' : L2.St} {ε' : Ep} {tmp : Tp} {F' H' : Hp} {fp : List Addr}, StF K ⟨F0, H, fp0, [(0, a)]⟩ F' H' σ' ε' tmp fp → GrM fp0 F0 H F' H' := fun h => ⟨h.keep, h.there, h.sub0, h.sub, h.new⟩
    have zero : ∀ {σ' : L2.St} {ε' : Ep} {tmp : Tp} {F' H' : Hp} {fp : List Addr}, StF K ⟨F0, H, fp0, [(0, a)]⟩ F' H' σ' ε' tmp fp → ∃ f1 f2 f3, fp = f1 ++ (f2 ++ f3) ∧ OwnL K F' H' (tmp.map (fun t => (some t.1, t.2))) f1 ∧ Own K F' H' (slot0 ε') (.ref a) f2 := by
      intro σ' ε' tmp F' H' fp h
      have e0 : σ'[0]? = some (some (.ref a)) := h.fix (0, a) (List.mem_singleton.mpr rfl)
      cases ε' with
      | nil =>
        have a1 := h.len
        have a2 := (List.getElem?_eq_some_iff.mp e0).1
        rw [List.length_nil] at a1; omega
      | cons s r =>
        obtain ⟨o, ft, f1, f0, f2, e1, rfl, h3, h4, h5, h6⟩ := h.slot (i := 0) (s := s) rfl
        rw [e0] at e1; cases e1
        have h5 : f1 = [] := h5
        subst h5
        exact ⟨ft, f0, f2, rfl, h3, h4⟩
    cases e : m (s0 :: (ds.map .dat ++ List.replicate (N.length - ps.length) .un)) with
    | stuck => rw [e] at q; exact q
    | ok fl ε' =>
      rw [e] at q
      cases fl with
      | nx =>
        intro σ' H' h'
        obtain ⟨F', fp, h'⟩ := h'
        obtain ⟨f1, f2, f3, rfl, o1, o2⟩ := zero h'
        have o1 : f1 = [] := o1
        subst o1
        refine q .non F' H' [] f2 (gr h') (by unfold Own; exact ⟨rfl, rep_non⟩) o2 ?_ (fun p hp => ⟨h'.out p (by simp at hp; simp [hp]), h'.old p (by simp at hp; simp [hp])⟩)
        have := h'.nd
        rw [List.nil_append] at this ⊢
        exact (List.nodup_append.mp this).1
      | rt r =>
        intro v σ' H' h'
        obtain ⟨F', fp, h'⟩ := h'
        obtain ⟨f1, f2, f3, rfl, o1, o2⟩ := zero h'
        obtain ⟨g1, g2, rfl, o3, o4⟩ := o1
        have o4 : g2 = [] := o4
        subst o4
        rw [List.append_nil] at h'
        refine q v F' H' g1 f2 (gr h') o3 o2 ?_ (fun p hp => ⟨h'.out p (by rw [← List.append_assoc]; exact List.mem_append_left _ hp), h'.old p (by rw [← List.append_assoc]; exact List.mem_append_left _ hp)⟩)
        have := h'.nd
        rw [← List.append_assoc] at this
        exact (List.nodup_append.mp this).1
      | bk => exact q.elim
      | ct => exact q.elim
    | err x ε' =>
      rw [e] at q
      intro c dd σ' H' ⟨F', fp, h', ec, xf⟩
      obtain ⟨f1, f2, f3, rfl, o1, o2⟩ := zero h'
      have o1 : f1 = [] := o1
      subst o1
      have nd : f2.Nodup := by
        have := h'.nd
        rw [List.nil_append] at this
        exact (List.nodup_append.mp this).1
      exact q c dd F' H' f2 (gr h') o2 nd (fun p hp => ⟨h'.out p (by simp [hp]), h'.old p (by simp [hp])⟩) ec xf
end
end Dv

-- Dv6
namespace Dv
open PySem PySem.Spec PyProof.Rows L2

/-! ### data as the library's data -/
mutual
def D.py : D → PyData
  | .non => .none
  | .bl b => .bool b
  | .int i => .int i
  | .str x => .str x
  | .lst xs => .list (pys xs)
  | .frl xs => .list (pys xs)
  | .tup xs => .tuple (pys xs)
  | .dct _ _ => .dict []
  | .obj _ _ => .dict []
def pys : List D → List PyData
  | [] => []
  | d :: ds => D.py d :: pys ds
end
mutual
/-- no dict, no instance within -/
def D.pl : D → Bool
  | .non | .bl _ | .int _ | .str _ => true
  | .lst xs => pls xs
  | .frl xs => pls xs
  | .tup xs => pls xs
  | .dct _ _ => false
  | .obj _ _ => false
def pls : List D → Bool
  | [] => true
  | d :: ds => D.pl d && pls ds
end
mutual
def D.dep : D → Nat
  | .lst xs => deps xs + 1
  | .frl xs => deps xs + 1
  | .tup xs => deps xs + 1
  | .dct _ _ => 1
  | .obj _ _ => 1
  | _ => 0
def deps : List D → Nat
  | [] => 0
  | d :: ds => max (D.dep d) (deps ds)
end
mutual
/-- == -/
def D.eqv : D → D → Bool
  | .non, .non => true
  | .bl a, .bl b => a == b
  | .bl a, .int j => (if a then 1 else 0) == j
  | .int i, .bl b => i == (if b then 1 else 0)
  | .int i, .int j => i == j
  | .str x, .str y => x == y
  | .lst xs, .lst ys => eqvs xs ys
  | .lst xs, .frl ys => eqvs xs ys
  | .frl xs, .lst ys => eqvs xs ys
  | .frl xs, .frl ys => eqvs xs ys
  | .tup xs, .tup ys => eqvs xs ys
  | _, _ => false
def eqvs : List D → List D → Bool
  | [], [] => true
  | x :: xs, y :: ys => D.eqv x y && eqvs xs ys
  | _, _ => false
end
theorem pys_map : ∀ xs : List D, pys xs = xs.map D.py
  | [] => rfl
  | x :: xs => by unfold pys; rw [pys_map xs]; rfl
mutual
theorem plain_py : ∀ d : D, d.pl = true → d.py.plain = true
  | .non, _ => rfl
  | .bl _, _ => rfl
  | .int _, _ => rfl
  | .str _, _ => rfl
  | .lst xs, h => by unfold D.pl at h; unfold D.py PyData.plain; exact plain_pys xs h
  | .frl xs, h => by unfold D.pl at h; unfold D.py PyData.plain; exact plain_pys xs h
  | .tup xs, h => by unfold D.pl at h; unfold D.py PyData.plain; exact plain_pys xs h
  | .dct _ _, h => by cases h
  | .obj _ _, h => by cases h
theorem plain_pys : ∀ ds : List D, pls ds = true → PyData.plainAll (pys ds) = true
  | [], _ => rfl
  | d :: ds, h => by
    unfold pls at h
    unfold pys PyData.plainAll
    rw [plain_py d (Bool.and_eq_true_iff.mp h).1, plain_pys ds (Bool.and_eq_true_iff.mp h).2]; rfl
end
mutual
theorem dep_py : ∀ d : D, d.py.depth ≤ d.dep
  | .non => Nat.le_refl _
  | .bl _ => Nat.le_refl _
  | .int _ => Nat.le_refl _
  | .str _ => Nat.le_refl _
  | .lst xs => by unfold D.dep D.py PyData.depth; exact Nat.succ_le_succ (dep_pys xs)
  | .frl xs => by unfold D.dep D.py PyData.depth; exact Nat.succ_le_succ (dep_pys xs)
  | .tup xs => by unfold D.dep D.py PyData.depth; exact Nat.succ_le_succ (dep_pys xs)
  | .dct _ _ => by unfold D.dep D.py PyData.depth; exact Nat.le_refl _
  | .obj _ _ => by unfold D.dep D.py PyData.depth; exact Nat.le_refl _
theorem dep_pys : ∀ ds : List D, PyData.depthAll (pys ds) ≤ deps ds
  | [] => Nat.le_refl _
  | d :: ds => by
    unfold pys PyData.depthAll deps
    have a := dep_py d
    have b := dep_pys ds
    omega
end
mutual
theorem eqv_py : ∀ a b : D, a.pl = true → b.pl = true → PyData.eqv a.py b.py = a.eqv b
  | .non, b, _, h => by cases b <;> first | (cases h; done) | rfl
  | .bl _, b, _, h => by cases b <;> first | (cases h; done) | rfl
  | .int _, b, _, h => by cases b <;> first | (cases h; done) | rfl
  | .str _, b, _, h => by cases b <;> first | (cases h; done) | rfl
  | .lst xs, b, g, h => by
    cases b with
    | lst ys => unfold D.pl at g h; unfold D.py PyData.eqv D.eqv; exact eqv_pys xs ys g h
    | frl ys => unfold D.pl at g h; unfold D.py PyData.eqv D.eqv; exact eqv_pys xs ys g h
    | dct _ _ => cases h
    | obj _ _ => cases h
    | _ => rfl
  | .frl xs, b, g, h => by
    cases b with
    | lst ys => unfold D.pl at g h; unfold D.py PyData.eqv D.eqv; exact eqv_pys xs ys g h
    | frl ys => unfold D.pl at g h; unfold D.py PyData.eqv D.eqv; exact eqv_pys xs ys g h
    | dct _ _ => cases h
    | obj _ _ => cases h
    | _ => rfl
  | .tup xs, b, g, h => by
    cases b with
    | tup ys => unfold D.pl at g h; unfold D.py PyData.eqv D.eqv; exact eqv_pys xs ys g h
    | dct _ _ => cases h
    | obj _ _ => cases h
    | _ => rfl
  | .dct _ _, b, g, _ => by cases g
  | .obj _ _, b, g, _ => by cases g
theorem eqv_pys : ∀ a b : List D, pls a = true → pls b = true → PyData.eqvAll (pys a) (pys b) = eqvs a b
  | [], b, _, h => by cases b <;> rfl
  | x :: xs, b, g, h => by
    cases b with
    | nil => rfl
    | cons y ys =>
      unfold pls at g h
      unfold pys PyData.eqvAll eqvs
      rw [eqv_py x y (Bool.and_eq_true_iff.mp g).1 (Bool.and_eq_true_iff.mp h).1, eqv_pys xs ys (Bool.and_eq_true_iff.mp g).2 (Bool.and_eq_true_iff.mp h).2]
end
section
variable {X : Cx} {pins : List (Addr × Obj)} {σ : L2.St} {H : Hp} {s : Shared}
mutual
theorem reads_of (I : Inv X pins σ H s) : ∀ (d : D) (v : V) (u : Value), d.pl = true → Rep X.K H d v → RelV v u → ∃ as, Reads s.heap u d.py as
  | .non, v, u, _, r, q => by unfold Rep at r; subst r; cases q; exact ⟨_, .none⟩
  | .bl b, v, u, _, r, q => by unfold Rep at r; subst r; cases q; exact ⟨_, .bool b⟩
  | .int i, v, u, _, r, q => by unfold Rep at r; subst r; obtain ⟨t, rfl⟩ := q; exact ⟨_, .int i t⟩
  | .str x, v, u, _, r, q => by unfold Rep at r; obtain ⟨rfl, _⟩ := r; obtain ⟨t, rfl⟩ := q; exact ⟨_, .str x t⟩
  | .lst xs, v, u, h, r, q => by
    unfold Rep at r; unfold D.pl at h
    obtain ⟨a, vs, rfl, h1, h2⟩ := r
    cases q
    obtain ⟨its, rv, ⟨o, n, e1, e2, e3, e4⟩, hz⟩ := I.list (SqL.of h1)
    obtain ⟨as, ra⟩ := reads_ofs I xs vs its h h2 rv
    exact ⟨_, .list e1 e2 e4 (by simpa using ra)⟩
  | .frl xs, v, u, h, r, q => by
    unfold Rep at r; unfold D.pl at h
    obtain ⟨a, vs, rfl, h1, h2⟩ := r
    cases q
    obtain ⟨its, rv, ⟨o, n, e1, e2, e3, e4⟩, hz⟩ := I.list h1
    obtain ⟨as, ra⟩ := reads_ofs I xs vs its h h2 rv
    exact ⟨_, .list e1 e2 e4 (by simpa using ra)⟩
  | .tup xs, v, u, h, r, q => by
    unfold Rep at r; unfold D.pl at h
    obtain ⟨a, vs, rfl, h1, h2⟩ := r
    cases q
    obtain ⟨its, rv, ⟨o, e1, e2, n, e4⟩, hz⟩ := I.tuple h1
    obtain ⟨as, ra⟩ := reads_ofs I xs vs its h h2 rv
    exact ⟨_, .tuple e1 e2 e4 (by simpa using ra)⟩
  | .dct _ _, _, _, h, _, _ => by cases h
  | .obj _ _, _, _, h, _, _ => by cases h
theorem reads_ofs (I : Inv X pins σ H s) : ∀ (ds : List D) (vs : List V) (us : List Value), pls ds = true → Reps X.K H ds vs → Vals vs us → ∃ as, ReadsAll s.heap us (pys ds) as
  | [], vs, us, _, r, q => by unfold Reps at r; subst r; cases q; exact ⟨_, .nil⟩
  | d :: ds, vs, us, h, r, q => by
    unfold Reps at r; unfold pls at h
    obtain ⟨v, r, rfl, h1, h2⟩ := r
    cases q with
    | cons q1 q2 =>
      obtain ⟨as, ra⟩ := reads_of I d v _ (Bool.and_eq_true_iff.mp h).1 h1 q1
      obtain ⟨bs, rb⟩ := reads_ofs I ds r _ (Bool.and_eq_true_iff.mp h).2 h2 q2
      exact ⟨_, .cons ra rb⟩
end
end

/-! ### operations by data -/
section
variable {X : Cx} {E : XK} {g : Value → Value → Sem Value}
/-- an operation whose answer leans on nothing -/
theorem op2_sc {f : D → D → Option D} (h : ∀ (pins : List (Addr × Obj)) (s : Shared) (σ : L2.St) (F H : Hp) (x y : V) (u w : Value) (a b d : D) (Q : VK), Inv X pins σ H s → RelV x u → RelV y w → Same F H → Rep X.K F a x → Rep X.K F b y → f a b = some d →
    (∀ v, (∀ F, Rep X.K F d v) → Q v H) → wpAny (model X.prog X.w) X.A (g u w) (EP X pins σ Q) X.xe s) : Op2 X E g (l2 fun a b => (ofO (f a b)).bd okd) := by
  intro pins s σ H x y v u Q I rx ry ⟨B, σ', ε, tmp, r1, r2, hS, w⟩
  unfold l2 at w
  cases q1 : r1.toD with
  | none => rw [q1] at w; exact w.elim
  | some a =>
    cases q2 : r2.toD with
    | none => rw [q1, q2] at w; exact w.elim
    | some b =>
      rw [q1, q2] at w
      cases q3 : f a b with
      | none =>
        have w' : wP X.K E B σ' ε tmp H Q ((ofO (f a b)).bd okd) := w
        rw [q3] at w'; exact w'.elim
      | some d =>
        have w' : wP X.K E B σ' ε tmp H Q ((ofO (f a b)).bd okd) := w
        rw [q3] at w'
        obtain ⟨F, fp, hF, ra, rb⟩ := hS.data2 rfl q1 q2
        exact h pins s σ F H x y v u a b d Q I rx ry hF.sub ra rb q3 fun z hz => w' z H (hF.pushS (hz F)) (Same.refl H)
/-- the same over an OpR -/
theorem op2_scR {f : D → D → Option D} {r0 : R2} (ho : OpR X g r0) (h : ∀ (F H : Hp) (x y : V) (a b d : D) (Q : VK), Same F H → Rep X.K F a x → Rep X.K F b y → f a b = some d →
    (∀ v, (∀ F, Rep X.K F d v) → Q v H) → r0 x y H Q) : Op2 X E g (l2 fun a b => (ofO (f a b)).bd okd) :=
  op2_sc fun pins s σ F H x y u w a b d Q I rx ry sF ra rb e q => ho pins s σ H x y u w Q I rx ry (h F H x y a b d Q sF ra rb e q)
end
/-- two ints -/
def i2 (f : Int → Int → D) : D → D → Option D
  | .int i, .int j => some (f i j)
  | _, _ => none
theorem i2_some {f : Int → Int → D} {a b d : D} (h : i2 f a b = some d) : ∃ i j, a = .int i ∧ b = .int j ∧ d = f i j := by
  unfold i2 at h
  split at h
  · cases h; exact ⟨_, _, rfl, rfl, rfl⟩
  · cases h
section
variable {X : Cx} {E : XK} {g : Value → Value → Sem Value}
theorem op2_i {gv : Int → Int → V} {gd : Int → Int → D} (ho : OpR X g (rI0 gv)) (hr : ∀ i j F, Rep X.K F (gd i j) (gv i j)) : Op2 X E g (l2 fun a b => (ofO (i2 gd a b)).bd okd) :=
  op2_scR ho fun F H x y a b d Q sF ra rb e q => by
    obtain ⟨i, j, rfl, rfl, rfl⟩ := i2_some e
    unfold Rep at ra rb
    subst ra; subst rb
    exact ⟨i, j, rfl, rfl, q _ (hr i j)⟩
def oSub := l2 fun a b => (ofO (i2 (fun i j => .int (i - j)) a b)).bd okd
def oLt := l2 fun a b => (ofO (i2 (fun i j => .bl (decide (i < j))) a b)).bd okd
def oLe := l2 fun a b => (ofO (i2 (fun i j => .bl (decide (i ≤ j))) a b)).bd okd
def oGt := l2 fun a b => (ofO (i2 (fun i j => .bl (decide (j < i))) a b)).bd okd
def oGe := l2 fun a b => (ofO (i2 (fun i j => .bl (decide (j ≤ i))) a b)).bd okd
theorem op2_sub : Op2 X E (binaryOp .Sub) oSub := op2_i op_sub fun _ _ _ => rep_int
theorem op2_isub : Op2 X E (inplaceOp .Sub) oSub := op2_i iop_sub fun _ _ _ => rep_int
theorem op2_lt : Op2 X E (compareOp .Lt) oLt := op2_i op_lt fun _ _ _ => rep_bl
theorem op2_le : Op2 X E (compareOp .LtE) oLe := op2_i op_le fun _ _ _ => rep_bl
theorem op2_gt : Op2 X E (compareOp .Gt) oGt := op2_i op_gt fun _ _ _ => rep_bl
theorem op2_ge : Op2 X E (compareOp .GtE) oGe := op2_i op_ge fun _ _ _ => rep_bl
/-- == of plain data -/
def eqO (a b : D) : Option D := if (a.pl && b.pl && decide (min a.dep b.dep ≤ 60)) = true then some (.bl (a.eqv b)) else none
def neO (a b : D) : Option D := if (a.pl && b.pl && decide (min a.dep b.dep ≤ 60)) = true then some (.bl (!a.eqv b)) else none
theorem eqO_some {a b d : D} (h : eqO a b = some d) : a.pl = true ∧ b.pl = true ∧ min a.dep b.dep ≤ 60 ∧ d = .bl (a.eqv b) := by
  unfold eqO at h
  split at h
  · rename_i z
    simp only [Bool.and_eq_true, decide_eq_true_eq] at z
    cases h; exact ⟨z.1.1, z.1.2, z.2, rfl⟩
  · cases h
theorem neO_some {a b d : D} (h : neO a b = some d) : a.pl = true ∧ b.pl = true ∧ min a.dep b.dep ≤ 60 ∧ d = .bl (!a.eqv b) := by
  unfold neO at h
  split at h
  · rename_i z
    simp only [Bool.and_eq_true, decide_eq_true_eq] at z
    cases h; exact ⟨z.1.1, z.1.2, z.2, rfl⟩
  · cases h
def oEq := l2 fun a b => (ofO (eqO a b)).bd okd
def oNe := l2 fun a b => (ofO (neO a b)).bd okd
theorem op2_eq (hu : X.A.units + 64 < cLine) : Op2 X E (compareOp .Eq) oEq := op2_sc fun pins s σ F H x y u w a b d Q I rx ry sF ra rb e q => by
  obtain ⟨pa, pb, hd, rfl⟩ := eqO_some e
  obtain ⟨as, r1⟩ := reads_of I a x u pa (Rep.mono sF _ _ ra) rx
  obtain ⟨bs, r2⟩ := reads_of I b y w pb (Rep.mono sF _ _ rb) ry
  refine SeqAt.eq_plain r1 r2 (plain_py a pa) (plain_py b pb) ?_ ?_
  · have := dep_py a
    have := dep_py b
    omega
  · rw [eqv_py a b pa pb]
    exact ⟨.bl _, H, I, rfl, q _ fun F => rep_bl⟩
theorem op2_ne (hu : X.A.units + 64 < cLine) : Op2 X E (compareOp .NotEq) oNe := op2_sc fun pins s σ F H x y u w a b d Q I rx ry sF ra rb e q => by
  obtain ⟨pa, pb, hd, rfl⟩ := neO_some e
  obtain ⟨as, r1⟩ := reads_of I a x u pa (Rep.mono sF _ _ ra) rx
  obtain ⟨bs, r2⟩ := reads_of I b y w pb (Rep.mono sF _ _ rb) ry
  refine SeqAt.ne_plain r1 r2 (plain_py a pa) (plain_py b pb) ?_ ?_
  · have := dep_py a
    have := dep_py b
    omega
  · rw [eqv_py a b pa pb]
    exact ⟨.bl _, H, I, rfl, q _ fun F => rep_bl⟩
end

/-! ### general forms -/
section
variable {X : Cx} {E : XK} {g : Value → Value → Sem Value}
theorem op2_gen {f : D → D → Ot SV} (h : ∀ (pins : List (Addr × Obj)) (s : Shared) (σ σ' : L2.St) (B : Bs) (ε : Ep) (tmp : Tp) (F H : Hp) (fp : List Addr) (x y : V) (u w : Value) (a b : D) (Q : VK), Inv X pins σ H s → RelV x u → RelV y w → StF X.K B F H σ' ε tmp fp → Rep X.K F a x → Rep X.K F b y →
    wP X.K E B σ' ε tmp H Q (f a b) → wpAny (model X.prog X.w) X.A (g u w) (EP X pins σ Q) X.xe s) : Op2 X E g (l2 f) := by
  intro pins s σ H x y v u Q I rx ry ⟨B, σ', ε, tmp, r1, r2, hS, w⟩
  unfold l2 at w
  cases q1 : r1.toD with
  | none => rw [q1] at w; exact w.elim
  | some a =>
    cases q2 : r2.toD with
    | none => rw [q1, q2] at w; exact w.elim
    | some b =>
      rw [q1, q2] at w
      obtain ⟨F, fp, hF, ra, rb⟩ := hS.data2 rfl q1 q2
      exact h pins s σ σ' B ε tmp F H fp x y v u a b Q I rx ry hF ra rb w
/-- a call of a built-in with pending values -/
def RAof (X : Cx) (E : XK) (f : List D → Ot SV) : List V → Hp → VK → Prop := fun vs H Q => ∃ B σ ε tmp F fp ds, StF X.K B F H σ ε tmp fp ∧ Reps X.K F ds vs ∧ wP X.K E B σ ε tmp H Q (f ds)
def OpC (X : Cx) (E : XK) (fv : Value) (f : List D → Ot SV) : Prop := CallR X fv (RAof X E f)
theorem opc_gen {fv : Value} {f : List D → Ot SV} (h : ∀ (pins : List (Addr × Obj)) (s : Shared) (σ σ' : L2.St) (B : Bs) (ε : Ep) (tmp : Tp) (F H : Hp) (fp : List Addr) (vs : List V) (us : List Value) (ds : List D) (Q : VK), Inv X pins σ H s → Vals vs us → StF X.K B F H σ' ε tmp fp → Reps X.K F ds vs →
    wP X.K E B σ' ε tmp H Q (f ds) → wpAny (model X.prog X.w) X.A (call fv us) (EP X pins σ Q) X.xe s) : OpC X E fv f := by
  intro pins s σ H vs us Q I r ⟨B, σ', ε, tmp, F, fp, ds, hF, rr, w2⟩
  exact h pins s σ σ' B ε tmp F H fp vs us ds Q I r hF rr w2
/-- the same over a CallR -/
theorem opc_R {fv : Value} {f : List D → Ot SV} {r0 : List V → Hp → VK → Prop} (ho : CallR X fv r0) (h : ∀ (σ' : L2.St) (B : Bs) (ε : Ep) (tmp : Tp) (F H : Hp) (fp : List Addr) (vs : List V) (ds : List D) (Q : VK), StF X.K B F H σ' ε tmp fp → Reps X.K F ds vs →
    wP X.K E B σ' ε tmp H Q (f ds) → r0 vs H Q) : OpC X E fv f :=
  opc_gen fun pins s σ σ' B ε tmp F H fp vs us ds Q I r hF rr w => ho pins s σ H vs us Q I r (h σ' B ε tmp F H fp vs ds Q hF rr w)
theorem op2_R {f : D → D → Ot SV} {r0 : R2} (ho : OpR X g r0) (h : ∀ (σ' : L2.St) (B : Bs) (ε : Ep) (tmp : Tp) (F H : Hp) (fp : List Addr) (x y : V) (a b : D) (Q : VK), StF X.K B F H σ' ε tmp fp → Rep X.K F a x → Rep X.K F b y →
    wP X.K E B σ' ε tmp H Q (f a b) → r0 x y H Q) : Op2 X E g (l2 f) :=
  op2_gen fun pins s σ σ' B ε tmp F H fp x y u w a b Q I rx ry hF ra rb wq => ho pins s σ H x y u w Q I rx ry (h σ' B ε tmp F H fp x y a b Q hF ra rb wq)
end
section
variable {K : Fg} {B : Bs} {F H : Hp} {σ : L2.St} {ε : Ep} {tmp : Tp} {fp : List Addr} {E : XK} {Q : VK}
/-- the ways out of an operation -/
theorem w_val (hF : StF K B F H σ ε tmp fp) {d : D} {v : V} (r : Rep K F d v) (w : wP K E B σ ε tmp H Q (okd d)) : Q v H := w v H (hF.pushS r) (Same.refl H)
theorem w_newL (hF : StF K B F H σ ε tmp fp) {ds : List D} {vs : List V} (r : Reps K F ds vs) (w : wP K E B σ ε tmp H Q (.ok (.ol ds))) : ∀ p, H p = none → Q (.ref p) (upd H p (.lst vs)) := fun p hp =>
  w _ _ (hF.owned hp (by unfold Own; exact ⟨p, vs, rfl, rfl, upd_same, r⟩)).sta (same_upd hp)
theorem w_newD (hF : StF K B F H σ ε tmp fp) {ds : List (Key × D)} {vs : List (Key × V)} (r : RepK K F ds vs) (w : wP K E B σ ε tmp H Q (.ok (.od ds))) : ∀ p, H p = none → Q (.ref p) (upd H p (.dK vs)) := fun p hp =>
  w _ _ (hF.owned hp (by unfold Own; exact ⟨p, vs, rfl, rfl, upd_same, r⟩)).sta (same_upd hp)
theorem w_newT (hF : StF K B F H σ ε tmp fp) {ds : List D} {vs : List V} (r : Reps K F ds vs) (w : wP K E B σ ε tmp H Q (okd (.tup ds))) : ∀ p, H p = none → Q (.ref p) (upd H p (.tup vs)) := fun p hp => by
  have hFp : F p = none := by
    cases q : F p with
    | none => rfl
    | some u => rw [hF.sub _ _ q] at hp; cases hp
  refine w _ _ ((hF.frozen hp).pushS ?_) (same_upd hp)
  unfold Rep
  exact ⟨p, vs, rfl, SqT.of upd_same, Reps.mono (same_upd hFp) _ _ r⟩
end
/-! ### + * // % ** -/
def lenOk (n : Nat) : Bool := Nat.ble n 16777216
theorem lenOk_le {n : Nat} (h : lenOk n = true) : n ≤ sizeLine := by
  rw [sizeLine_eq]; exact Nat.le_of_ble_eq_true h
def addO : D → D → Ot SV
  | .int i, .int j => okd (.int (i + j))
  | .str x, .str y => if lenOk (x.length + y.length) = true then okd (.str (x ++ y)) else .stuck
  | .lst xs, .lst ys => if lenOk (xs.length + ys.length) = true then .ok (.ol (xs ++ ys)) else .stuck
  | .tup xs, .tup ys => if lenOk (xs.length + ys.length) = true then okd (.tup (xs ++ ys)) else .stuck
  | _, _ => .stuck
def oAdd := l2 addO
def rAddR (K : Fg) : R2 := fun x y H Q => (rI0 (fun i j => .int (i + j)) x y H Q ∨ (∃ i j, x = .str i ∧ y = .str j ∧ i.length + j.length ≤ sizeLine ∧ Q (.str (i ++ j)) H)) ∨ (rCat x y H Q ∨ rCatA K x y H Q)
theorem op_addR {X : Cx} : OpR X (binaryOp .Add) (rAddR X.K) := OpR.or (OpR.or op_add op_add_str) (OpR.or op_cat op_catA)
theorem str_app_len (x y : Str) : (x ++ y).length = x.length + y.length := by
  show (Str.append x y).cps.size = _
  unfold Str.append
  simp [Str.length]
section
variable {X : Cx} {E : XK}
theorem op2_add : Op2 X E (binaryOp .Add) oAdd := op2_R op_addR fun σ' B ε tmp F H fp x y a b Q hF ra rb w => by
  unfold addO at w
  split at w
  · unfold Rep at ra rb; subst ra; subst rb
    exact .inl (.inl ⟨_, _, rfl, rfl, w_val hF rep_int w⟩)
  · rename_i x' y'
    by_cases z : lenOk (x'.length + y'.length) = true
    · rw [if_pos z] at w
      unfold Rep at ra rb; obtain ⟨rfl, _⟩ := ra; obtain ⟨rfl, _⟩ := rb
      exact .inl (.inr ⟨_, _, rfl, rfl, lenOk_le z, w_val hF (rep_str (by rw [str_app_len]; exact lenOk_le z)) w⟩)
    · rw [if_neg z] at w; exact w.elim
  · rename_i xs ys
    by_cases z : lenOk (xs.length + ys.length) = true
    · rw [if_pos z] at w
      unfold Rep at ra rb; obtain ⟨p, vs, rfl, h1, r1⟩ := ra; obtain ⟨q, ws, rfl, h2, r2⟩ := rb
      refine .inr (.inl ⟨p, q, vs, ws, rfl, rfl, hF.sub _ _ h1, hF.sub _ _ h2, by rw [r1.length, r2.length]; exact lenOk_le z, w_newL hF (r1.append r2) w⟩)
    · rw [if_neg z] at w; exact w.elim
  · rename_i xs ys
    by_cases z : lenOk (xs.length + ys.length) = true
    · rw [if_pos z] at w
      have ra' := ra
      have rb' := rb
      unfold Rep at ra' rb'; obtain ⟨p, vs, rfl, h1, r1⟩ := ra'; obtain ⟨q, ws, rfl, h2, r2⟩ := rb'
      have l1 := r1.length
      have l2 := r2.length
      refine .inr (.inr ⟨p, q, vs, ws, rfl, rfl, SqT.same hF.sub h1, SqT.same hF.sub h2, by rw [l1, l2]; exact lenOk_le z, fun e => ?_, fun _ e => ?_, fun _ _ => w_newT hF (r1.append r2) w⟩)
      · subst e
        have : xs = [] := List.eq_nil_of_length_eq_zero l1.symm
        subst this
        exact w_val hF rb w
      · subst e
        have : ys = [] := List.eq_nil_of_length_eq_zero l2.symm
        subst this
        rw [List.append_nil] at w
        exact w_val hF ra w
    · rw [if_neg z] at w; exact w.elim
  · exact w.elim
theorem op2_iadd : Op2 X E (inplaceOp .Add) (l2 fun a b => (ofO (i2 (fun i j => .int (i + j)) a b)).bd okd) := op2_i iop_add fun _ _ _ => rep_int
def mulO : D → D → Ot SV
  | .int i, .int j => if (Nat.blt i.natAbs (2 ^ 64) || Nat.blt j.natAbs (2 ^ 64)) = true then okd (.int (i * j)) else .stuck
  | _, _ => .stuck
def oMul := l2 mulO
theorem op2_mul : Op2 X E (binaryOp .Mult) oMul := op2_R op_mul fun σ' B ε tmp F H fp x y a b Q hF ra rb w => by
  unfold mulO at w
  split at w
  · rename_i i j
    split at w
    · rename_i z
      unfold Rep at ra rb; subst ra; subst rb
      refine ⟨i, j, rfl, rfl, ?_, w_val hF rep_int w⟩
      unfold CMul
      rcases Bool.or_eq_true_iff.mp z with z | z
      · have := Nat.le_of_ble_eq_true z
        left; omega
      · have := Nat.le_of_ble_eq_true z
        right; omega
    · exact w.elim
  · exact w.elim
def fdivO : D → D → Ot SV
  | .int i, .int j => if (decide (0 < j) && Nat.blt j.natAbs.log2 9000) = true then okd (.int (i / j)) else .stuck
  | _, _ => .stuck
def oFdiv := l2 fdivO
theorem op2_fdiv : Op2 X E (binaryOp .FloorDiv) oFdiv := op2_R op_fdivW fun σ' B ε tmp F H fp x y a b Q hF ra rb w => by
  unfold fdivO at w
  split at w
  · rename_i i j
    split at w
    · rename_i z
      unfold Rep at ra rb; subst ra; subst rb
      have z' := Bool.and_eq_true_iff.mp z
      exact ⟨i, j, rfl, rfl, ⟨of_decide_eq_true z'.1, Nat.le_of_ble_eq_true z'.2⟩, w_val hF rep_int w⟩
    · exact w.elim
  · exact w.elim
def modO : D → D → Ot SV
  | .int i, .int j => if decide (0 < j) = true then okd (.int (i % j)) else .stuck
  | _, _ => .stuck
def oMod := l2 modO
theorem op2_mod : Op2 X E (binaryOp .Mod) oMod := op2_R op_mod fun σ' B ε tmp F H fp x y a b Q hF ra rb w => by
  unfold modO at w
  split at w
  · rename_i i j
    split at w
    · rename_i z
      unfold Rep at ra rb; subst ra; subst rb
      exact ⟨i, j, rfl, rfl, of_decide_eq_true z, w_val hF rep_int w⟩
    · exact w.elim
  · exact w.elim
def powO : D → D → Ot SV
  | .int i, .int j => if (decide (0 ≤ j) && (decide (j ≤ 1000) && Nat.blt i.natAbs (2 ^ 64))) = true then okd (.int (i ^ j.toNat)) else .stuck
  | _, _ => .stuck
def oPow := l2 powO
theorem op2_pow : Op2 X E (binaryOp .Pow) oPow := op2_R op_pow fun σ' B ε tmp F H fp x y a b Q hF ra rb w => by
  unfold powO at w
  split at w
  · rename_i i j
    split at w
    · rename_i z
      unfold Rep at ra rb; subst ra; subst rb
      have z' := Bool.and_eq_true_iff.mp z
      have z2 := Bool.and_eq_true_iff.mp z'.2
      have h1 := of_decide_eq_true z'.1
      have h2 := of_decide_eq_true z2.1
      exact ⟨i, j, rfl, rfl, ⟨h1, by omega, Nat.le_of_ble_eq_true z2.2⟩, w_val hF rep_int w⟩
    · exact w.elim
  · exact w.elim
/-! ### in, not in -/
/-- among plain items -/
def inDs (x : D) : List D → Bool
  | [] => false
  | y :: ys => D.eqv y x || inDs x ys
theorem inDs_any (x : D) : ∀ ys : List D, inDs x ys = ys.any fun y => D.eqv y x
  | [] => rfl
  | y :: ys => by rw [List.any_cons, ← inDs_any x ys]; rfl
theorem pls_mem : ∀ {xs : List D}, pls xs = true → ∀ x ∈ xs, x.pl = true
  | x :: xs, h, y, hy => by
    unfold pls at h
    have h' := Bool.and_eq_true_iff.mp h
    rcases List.mem_cons.mp hy with rfl | hy
    · exact h'.1
    · exact pls_mem h'.2 y hy
theorem in_py {xs : List D} {x : D} (hx : x.pl = true) (hxs : pls xs = true) : ((pys xs).any fun y => PyData.eqv y x.py) = inDs x xs := by
  rw [pys_map, List.any_map, inDs_any]
  rw [Bool.eq_iff_iff, List.any_eq_true, List.any_eq_true]
  constructor
  · rintro ⟨y, hy, e⟩
    exact ⟨y, hy, by rw [← eqv_py y x (pls_mem hxs y hy) hx]; exact e⟩
  · rintro ⟨y, hy, e⟩
    exact ⟨y, hy, by show PyData.eqv y.py x.py = true; rw [eqv_py y x (pls_mem hxs y hy) hx]; exact e⟩
def keyOf? : D → Option Key
  | .int i => some (.inl i)
  | .str x => some (.inr x)
  | _ => none
def hasK (k : Key) : List (Key × D) → Bool
  | [] => false
  | (j, _) :: r => decide (j = k) || hasK k r
def inO (neg : Bool) : D → D → Option D := fun x c => match c with
  | .lst xs => if (x.pl && (pls xs && decide (min (deps xs) x.dep ≤ 60))) = true then some (.bl (inDs x xs ^^ neg)) else none
  | .frl xs => if (x.pl && (pls xs && decide (min (deps xs) x.dep ≤ 60))) = true then some (.bl (inDs x xs ^^ neg)) else none
  | .tup xs => if (x.pl && (pls xs && decide (min (deps xs) x.dep ≤ 60))) = true then some (.bl (inDs x xs ^^ neg)) else none
  | .str z => match x with
    | .str y => some (.bl (!(Builtin.Str.occurrences z y 0 z.length 1).isEmpty ^^ neg))
    | _ => none
  | .dct _ kvs => match keyOf? x with
    | some k => some (.bl (hasK k kvs ^^ neg))
    | none => none
  | _ => none
def oIn := l2 fun a b => (ofO (inO false a b)).bd okd
def oNin := l2 fun a b => (ofO (inO true a b)).bd okd
theorem RepK.val {K : Fg} {F : Hp} {k : Key} : ∀ {ds : List (Key × D)} {vs : List (Key × V)}, RepK K F ds vs → (valV vs k).isSome = hasK k ds
  | [], vs, h => by unfold RepK at h; subst h; rfl
  | (j, d) :: ds, vs, h => by
    unfold RepK at h
    obtain ⟨v, r, rfl, _, h1, h2⟩ := h
    unfold hasK
    by_cases z : j = k
    · rw [valV_pos (p := (j, v)) z, decide_eq_true z]; rfl
    · rw [valV_neg (p := (j, v)) z, decide_eq_false z, RepK.val h2]; rfl
theorem rep_key {K : Fg} {F : Hp} {x : D} {v : V} {k : Key} (r : Rep K F x v) (h : keyOf? x = some k) : v = kV k ∧ KeyOk k := by
  unfold keyOf? at h
  split at h
  · cases h; unfold Rep at r; exact ⟨r, trivial⟩
  · cases h; unfold Rep at r; exact ⟨r.1, r.2⟩
  · cases h
theorem items_any {a b : Bool} (h : a = b) : a = b := h
theorem xor_f (b : Bool) : (b ^^ false) = b := by cases b <;> rfl
theorem xor_t (b : Bool) : (b ^^ true) = !b := by cases b <;> rfl
theorem op2_in (hu : X.A.units + 80 < cLine) : Op2 X E (compareOp .In) oIn := op2_sc fun pins s σ F H x y u w a b d Q I rx ry sF ra rb e q => by
  unfold inO at e
  split at e
  · rename_i xs
    split at e
    · rename_i z
      cases e
      have z1 := Bool.and_eq_true_iff.mp z
      have z2 := Bool.and_eq_true_iff.mp z1.2
      obtain ⟨as, r1⟩ := reads_of I a x u z1.1 (Rep.mono sF _ _ ra) rx
      obtain ⟨bs, r2⟩ := reads_of I (.lst xs) y w (by unfold D.pl; exact z2.1) (Rep.mono sF _ _ rb) ry
      unfold D.py at r2
      refine SeqAt.in_list_data r2 r1 (plain_pys xs z2.1) (plain_py a z1.1) ?_ ?_
      · have := of_decide_eq_true z2.2
        have := dep_py a
        have := dep_pys xs
        omega
      · rw [in_py z1.1 z2.1]
        exact ⟨.bl _, H, I, rfl, q _ fun F => by rw [xor_f]; exact rep_bl⟩
    · cases e
  · rename_i xs
    split at e
    · rename_i z
      cases e
      have z1 := Bool.and_eq_true_iff.mp z
      have z2 := Bool.and_eq_true_iff.mp z1.2
      obtain ⟨as, r1⟩ := reads_of I a x u z1.1 (Rep.mono sF _ _ ra) rx
      obtain ⟨bs, r2⟩ := reads_of I (.frl xs) y w (by unfold D.pl; exact z2.1) (Rep.mono sF _ _ rb) ry
      unfold D.py at r2
      refine SeqAt.in_list_data r2 r1 (plain_pys xs z2.1) (plain_py a z1.1) ?_ ?_
      · have := of_decide_eq_true z2.2
        have := dep_py a
        have := dep_pys xs
        omega
      · rw [in_py z1.1 z2.1]
        exact ⟨.bl _, H, I, rfl, q _ fun F => by rw [xor_f]; exact rep_bl⟩
    · cases e
  · rename_i xs
    split at e
    · rename_i z
      cases e
      have z1 := Bool.and_eq_true_iff.mp z
      have z2 := Bool.and_eq_true_iff.mp z1.2
      obtain ⟨as, r1⟩ := reads_of I a x u z1.1 (Rep.mono sF _ _ ra) rx
      obtain ⟨bs, r2⟩ := reads_of I (.tup xs) y w (by unfold D.pl; exact z2.1) (Rep.mono sF _ _ rb) ry
      unfold D.py at r2
      refine SeqAt.in_tuple_data r2 r1 (plain_pys xs z2.1) (plain_py a z1.1) ?_ ?_
      · have := of_decide_eq_true z2.2
        have := dep_py a
        have := dep_pys xs
        omega
      · rw [in_py z1.1 z2.1]
        exact ⟨.bl _, H, I, rfl, q _ fun F => by rw [xor_f]; exact rep_bl⟩
    · cases e
  · rename_i z
    split at e
    · rename_i y'
      cases e
      unfold Rep at ra rb; obtain ⟨rfl, _⟩ := ra; obtain ⟨rfl, _⟩ := rb
      refine op_in_str pins s σ H _ _ u w Q I rx ry ⟨_, _, rfl, rfl, q _ fun F => ?_⟩
      rw [xor_f]; exact rep_bl
    · cases e
  · rename_i kvs
    split at e
    · rename_i k hk
      cases e
      obtain ⟨rfl, _⟩ := rep_key ra hk
      unfold Rep at rb
      obtain ⟨p, ks, rfl, ⟨h1, _⟩, h2⟩ := rb
      cases ry
      refine d_in (H := H) (o := valV ks k) (by omega) I (.inl ⟨ks, k, Rd.same sF h1, rfl, rfl⟩) rx fun s' I' => ?_
      rw [h2.val]
      exact ⟨.bl _, H, I', rfl, q _ fun F => by rw [xor_f]; exact rep_bl⟩
    · cases e
  · cases e
theorem op2_nin (hu : X.A.units + 80 < cLine) : Op2 X E (compareOp .NotIn) oNin := op2_sc fun pins s σ F H x y u w a b d Q I rx ry sF ra rb e q => by
  unfold inO at e
  split at e
  · rename_i xs
    split at e
    · rename_i z
      cases e
      have z1 := Bool.and_eq_true_iff.mp z
      have z2 := Bool.and_eq_true_iff.mp z1.2
      obtain ⟨as, r1⟩ := reads_of I a x u z1.1 (Rep.mono sF _ _ ra) rx
      obtain ⟨bs, r2⟩ := reads_of I (.lst xs) y w (by unfold D.pl; exact z2.1) (Rep.mono sF _ _ rb) ry
      unfold D.py at r2
      refine SeqAt.notIn_list_data r2 r1 (plain_pys xs z2.1) (plain_py a z1.1) ?_ ?_
      · have := of_decide_eq_true z2.2
        have := dep_py a
        have := dep_pys xs
        omega
      · rw [in_py z1.1 z2.1]
        exact ⟨.bl _, H, I, rfl, q _ fun F => by rw [xor_t]; exact rep_bl⟩
    · cases e
  · rename_i xs
    split at e
    · rename_i z
      cases e
      have z1 := Bool.and_eq_true_iff.mp z
      have z2 := Bool.and_eq_true_iff.mp z1.2
      obtain ⟨as, r1⟩ := reads_of I a x u z1.1 (Rep.mono sF _ _ ra) rx
      obtain ⟨bs, r2⟩ := reads_of I (.frl xs) y w (by unfold D.pl; exact z2.1) (Rep.mono sF _ _ rb) ry
      unfold D.py at r2
      refine SeqAt.notIn_list_data r2 r1 (plain_pys xs z2.1) (plain_py a z1.1) ?_ ?_
      · have := of_decide_eq_true z2.2
        have := dep_py a
        have := dep_pys xs
        omega
      · rw [in_py z1.1 z2.1]
        exact ⟨.bl _, H, I, rfl, q _ fun F => by rw [xor_t]; exact rep_bl⟩
    · cases e
  · rename_i xs
    split at e
    · rename_i z
      cases e
      have z1 := Bool.and_eq_true_iff.mp z
      have z2 := Bool.and_eq_true_iff.mp z1.2
      obtain ⟨as, r1⟩ := reads_of I a x u z1.1 (Rep.mono sF _ _ ra) rx
      obtain ⟨bs, r2⟩ := reads_of I (.tup xs) y w (by unfold D.pl; exact z2.1) (Rep.mono sF _ _ rb) ry
      unfold D.py at r2
      refine SeqAt.notIn_tuple_data r2 r1 (plain_pys xs z2.1) (plain_py a z1.1) ?_ ?_
      · have := of_decide_eq_true z2.2
        have := dep_py a
        have := dep_pys xs
        omega
      · rw [in_py z1.1 z2.1]
        exact ⟨.bl _, H, I, rfl, q _ fun F => by rw [xor_t]; exact rep_bl⟩
    · cases e
  · rename_i z
    split at e
    · rename_i y'
      cases e
      unfold Rep at ra rb; obtain ⟨rfl, _⟩ := ra; obtain ⟨rfl, _⟩ := rb
      refine op_notin_str pins s σ H _ _ u w Q I rx ry ⟨_, _, rfl, rfl, q _ fun F => ?_⟩
      rw [xor_t]; exact rep_bl
    · cases e
  · rename_i kvs
    split at e
    · rename_i k hk
      cases e
      obtain ⟨rfl, _⟩ := rep_key ra hk
      unfold Rep at rb
      obtain ⟨p, ks, rfl, ⟨h1, _⟩, h2⟩ := rb
      cases ry
      refine d_notIn (H := H) (o := valV ks k) (by omega) I (.inl ⟨ks, k, Rd.same sF h1, rfl, rfl⟩) rx fun s' I' => ?_
      rw [h2.val]
      exact ⟨.bl _, H, I', rfl, q _ fun F => by rw [xor_t]; exact rep_bl⟩
    · cases e
  · cases e
/-! ### is None, is True -/
def D.isN : D → Bool
  | .non => true
  | _ => false
def isNonO (neg : Bool) : D → D → Option D := fun x y => match y with
  | .non => some (.bl (x.isN ^^ neg))
  | _ => none
def oIsN := l2 fun a b => (ofO (isNonO false a b)).bd okd
def oNotN := l2 fun a b => (ofO (isNonO true a b)).bd okd
theorem rep_isN {K : Fg} {F : Hp} {x : D} {v : V} (r : Rep K F x v) : decide (v = .non) = x.isN := by
  cases x <;> unfold Rep at r
  · subst r; rfl
  · subst r; rfl
  · subst r; rfl
  · obtain ⟨rfl, _⟩ := r; rfl
  · obtain ⟨a, vs, rfl, _⟩ := r; rfl
  · obtain ⟨a, vs, rfl, _⟩ := r; rfl
  · obtain ⟨a, vs, rfl, _⟩ := r; rfl
  · obtain ⟨a, vs, rfl, _⟩ := r; rfl
  · obtain ⟨a, dx, vs, rfl, _⟩ := r; rfl
theorem op2_isN : Op2 X E (compareOp .Is) oIsN := op2_scR op_isN fun F H x y a b d Q sF ra rb e q => by
  unfold isNonO at e
  split at e
  · cases e
    unfold Rep at rb
    refine ⟨rb, q _ fun F => ?_⟩
    rw [rep_isN ra, xor_f]; exact rep_bl
  · cases e
theorem op2_notN : Op2 X E (compareOp .IsNot) oNotN := op2_scR op_notN fun F H x y a b d Q sF ra rb e q => by
  unfold isNonO at e
  split at e
  · cases e
    unfold Rep at rb
    refine ⟨rb, q _ fun F => ?_⟩
    rw [rep_isN ra, xor_t]; exact rep_bl
  · cases e
end
end Dv

-- Dv7
namespace Dv
open PySem PySem.Spec PyProof.Rows L2

section
variable {X : Cx} {E : XK} {pu : Bool} {e o : Expr} {es : List Expr} {mm : MA} {me : ME} {p pos apos cpos : Pos} {x : Str} {f : List D → Ot SV} {id : String} {T : String}
theorem sp_callB (hc : OpC X E (.builtin id) f) (hg : Gl X x) (hm : X.mg x = none) (hv : bootBuiltins x = some (.builtin id)) (ha : SA X E pu (e :: es) mm) (hn : x ≠ "__name__" := by decide) (hdb : (x == ("__debug__" : Str)) = false := by decide)
    (he : starEach (e :: es) X.env = (false, eval e X.env) :: starEach es X.env := by rfl) (hpl : (backTo pos (starEach es X.env)).any (·.1) = false := by rfl) : SP X E pu (.Call (.Name x p) (e :: es) [] pos) (cA f mm) :=
  pe_imp (pe_callB hc hg hm hv ha hn hdb he hpl) fun pins s σ H Q I ⟨B, ε, tmp, h, w⟩ => gcA h w fun ds vs ε' H' F fp hF r w2 => ⟨B, σ, ε', tmp, F, fp, ds, hF, r, w2⟩
theorem sp_callTy (hc : OpC X E (.type T) f) (hg : Gl X x) (hm : X.mg x = none) (hv : bootBuiltins x = some (.type T)) (ha : SA X E pu (e :: es) mm) (hn : x ≠ "__name__" := by decide) (hdb : (x == ("__debug__" : Str)) = false := by decide)
    (he : starEach (e :: es) X.env = (false, eval e X.env) :: starEach es X.env := by rfl) (hpl : (backTo pos (starEach es X.env)).any (·.1) = false := by rfl) : SP X E pu (.Call (.Name x p) (e :: es) [] pos) (cA f mm) :=
  pe_imp (pe_callTy hc hg hm hv ha hn hdb he hpl) fun pins s σ H Q I ⟨B, ε, tmp, h, w⟩ => gcA h w fun ds vs ε' H' F fp hF r w2 => ⟨B, σ, ε', tmp, F, fp, ds, hF, r, w2⟩
end

/-! ### lists of ints, of bools -/
def ints? : List D → Option (List Int)
  | [] => some []
  | .int i :: r => (ints? r).map (i :: ·)
  | _ => none
theorem ints_some : ∀ {ds : List D} {ns : List Int}, ints? ds = some ns → ds = ns.map .int
  | [], ns, h => by cases h; rfl
  | d :: r, ns, h => by
    unfold ints? at h
    split at h
    · cases ‹_ :: _ = []›
    · rename_i i r' e
      cases e
      cases q : ints? r with
      | none => rw [q] at h; cases h
      | some ms =>
        rw [q] at h; cases h
        rw [ints_some q]; rfl
    · cases h
theorem ints_map (ns : List Int) : ints? (ns.map .int) = some ns := by
  induction ns with
  | nil => rfl
  | cons n r ih => show (ints? (r.map .int)).map (n :: ·) = _; rw [ih]; rfl
def bools? : List D → Option (List Bool)
  | [] => some []
  | .bl i :: r => (bools? r).map (i :: ·)
  | _ => none
theorem bools_some : ∀ {ds : List D} {ns : List Bool}, bools? ds = some ns → ds = ns.map .bl
  | [], ns, h => by cases h; rfl
  | d :: r, ns, h => by
    unfold bools? at h
    split at h
    · cases ‹_ :: _ = []›
    · rename_i i r' e
      cases e
      cases q : bools? r with
      | none => rw [q] at h; cases h
      | some ms =>
        rw [q] at h; cases h
        rw [bools_some q]; rfl
    · cases h
theorem bools_map (ns : List Bool) : bools? (ns.map .bl) = some ns := by
  induction ns with
  | nil => rfl
  | cons n r ih => show (bools? (r.map .bl)).map (n :: ·) = _; rw [ih]; rfl
section
variable {K : Fg} {F : Hp}
theorem reps_ints : ∀ {ns : List Int} {vs : List V}, Reps K F (ns.map .int) vs → vs = ns.map .int
  | [], vs, h => by unfold Reps at h; subst h; rfl
  | n :: r, vs, h => by
    unfold Reps at h
    obtain ⟨v, vs', rfl, h1, h2⟩ := h
    unfold Rep at h1
    rw [h1, reps_ints h2]; rfl
theorem reps_of_ints : ∀ (ns : List Int), Reps K F (ns.map .int) (ns.map .int)
  | [] => .nil
  | n :: r => .cons rep_int (reps_of_ints r)
theorem reps_bools : ∀ {ns : List Bool} {vs : List V}, Reps K F (ns.map .bl) vs → vs = ns.map .bl
  | [], vs, h => by unfold Reps at h; subst h; rfl
  | n :: r, vs, h => by
    unfold Reps at h
    obtain ⟨v, vs', rfl, h1, h2⟩ := h
    unfold Rep at h1
    rw [h1, reps_bools h2]; rfl
theorem Reps.inv1 {d : D} {vs : List V} (h : Reps K F [d] vs) : ∃ v, vs = [v] ∧ Rep K F d v := by
  unfold Reps at h
  obtain ⟨v, r, rfl, h1, h2⟩ := h
  unfold Reps at h2; subst h2
  exact ⟨v, rfl, h1⟩
theorem Reps.inv2 {d d' : D} {vs : List V} (h : Reps K F [d, d'] vs) : ∃ v v', vs = [v, v'] ∧ Rep K F d v ∧ Rep K F d' v' := by
  unfold Reps at h
  obtain ⟨v, r, rfl, h1, h2⟩ := h
  obtain ⟨v', rfl, h3⟩ := h2.inv1
  exact ⟨v, v', rfl, h1, h3⟩
/-- a list of either kind -/
def D.items? : D → Option (List D)
  | .lst xs => some xs
  | .frl xs => some xs
  | _ => none
theorem rep_list {H : Hp} {d : D} {v : V} {xs : List D} (s : Same F H) (r : Rep K F d v) (h : d.items? = some xs) : ∃ a vs, v = .ref a ∧ SqL K H a vs ∧ Reps K F xs vs := by
  unfold D.items? at h
  split at h
  · cases h
    unfold Rep at r
    obtain ⟨a, vs, rfl, h1, h2⟩ := r
    exact ⟨a, vs, rfl, SqL.of (s _ _ h1), h2⟩
  · cases h
    unfold Rep at r
    obtain ⟨a, vs, rfl, h1, h2⟩ := r
    exact ⟨a, vs, rfl, s.seq h1, h2⟩
  · cases h
theorem rep_tupl {H : Hp} {v : V} {xs : List D} (s : Same F H) (r : Rep K F (.tup xs) v) : ∃ a vs, v = .ref a ∧ SqT K H a vs ∧ Reps K F xs vs := by
  unfold Rep at r
  obtain ⟨a, vs, rfl, h1, h2⟩ := r
  exact ⟨a, vs, rfl, SqT.same s h1, h2⟩
theorem rep_dict {H : Hp} {v : V} {lk : Bool} {xs : List (Key × D)} (s : Same F H) (r : Rep K F (.dct lk xs) v) : ∃ a vs, v = .ref a ∧ Rd H a (.dK vs) ∧ RepK K F xs vs := by
  unfold Rep at r
  obtain ⟨a, vs, rfl, ⟨h1, _⟩, h2⟩ := r
  exact ⟨a, vs, rfl, Rd.same s h1, h2⟩
end
/-! ### built-in functions -/
def lenO : List D → Ot SV
  | [.str x] => okd (.int x.length)
  | [.tup xs] => okd (.int xs.length)
  | [.dct _ xs] => okd (.int xs.length)
  | [.lst xs] => okd (.int xs.length)
  | [.frl xs] => okd (.int xs.length)
  | _ => .stuck
section
variable {X : Cx} {E : XK}
theorem opc_len : OpC X E (.builtin "len") lenO := opc_gen fun pins s σ σ' B ε tmp F H fp vs us ds Q I r hF rr w => by
  unfold lenO at w
  split at w
  · obtain ⟨v, rfl, h⟩ := rr.inv1
    unfold Rep at h
    obtain ⟨rfl, hl⟩ := h
    exact call_len pins s σ H _ us Q I r ⟨_, _, rfl, ⟨hl, rfl⟩, w_val hF rep_int w⟩
  · obtain ⟨v, rfl, h⟩ := rr.inv1
    obtain ⟨a, ys, rfl, h1, h2⟩ := rep_tupl hF.sub h
    exact call_len pins s σ H _ us Q I r ⟨_, _, rfl, .inr ⟨_, h1, rfl⟩, by rw [h2.length]; exact w_val hF rep_int w⟩
  · obtain ⟨v, rfl, h⟩ := rr.inv1
    obtain ⟨a, ys, rfl, h1, h2⟩ := rep_dict hF.sub h
    obtain ⟨u, rfl, ru⟩ := vals1 r
    cases ru
    refine d_len I h1 fun t s' I' => ⟨.int ys.length, H, I', ⟨t, rfl⟩, ?_⟩
    rw [h2.length]; exact w_val hF rep_int w
  · obtain ⟨v, rfl, h⟩ := rr.inv1
    obtain ⟨a, ys, rfl, h1, h2⟩ := rep_list hF.sub h rfl
    exact call_len pins s σ H _ us Q I r ⟨_, _, rfl, .inl ⟨_, h1, rfl⟩, by rw [h2.length]; exact w_val hF rep_int w⟩
  · obtain ⟨v, rfl, h⟩ := rr.inv1
    obtain ⟨a, ys, rfl, h1, h2⟩ := rep_list hF.sub h rfl
    exact call_len pins s σ H _ us Q I r ⟨_, _, rfl, .inl ⟨_, h1, rfl⟩, by rw [h2.length]; exact w_val hF rep_int w⟩
  · exact w.elim
def absO : List D → Ot SV
  | [.int i] => okd (.int (if i < 0 then -i else i))
  | _ => .stuck
theorem opc_abs : OpC X E (.builtin "abs") absO := opc_R call_abs fun σ' B ε tmp F H fp vs ds Q hF rr w => by
  unfold absO at w
  split at w
  · obtain ⟨v, rfl, h⟩ := rr.inv1
    unfold Rep at h; subst h
    exact ⟨_, rfl, w_val hF rep_int w⟩
  · exact w.elim
def intO : List D → Ot SV
  | [.int i] => okd (.int i)
  | [.bl b] => okd (.int (if b then 1 else 0))
  | [.str x] => match PySem.intText? x with
    | some n => if Nat.ble x.length 640 = true then okd (.int n) else .stuck
    | none => .stuck
  | _ => .stuck
theorem opc_int : OpC X E (.type "int") intO := opc_gen fun pins s σ σ' B ε tmp F H fp vs us ds Q I r hF rr w => by
  unfold intO at w
  split at w
  · obtain ⟨v, rfl, h⟩ := rr.inv1
    unfold Rep at h; subst h
    exact call_int1 pins s σ H _ us Q I r (.inl ⟨_, rfl, w_val hF rep_int w⟩)
  · obtain ⟨v, rfl, h⟩ := rr.inv1
    unfold Rep at h; subst h
    exact call_int1 pins s σ H _ us Q I r (.inr ⟨_, rfl, w_val hF rep_int w⟩)
  · rename_i x
    split at w
    · rename_i n hn
      split at w
      · rename_i hl
        obtain ⟨v, rfl, h⟩ := rr.inv1
        unfold Rep at h
        obtain ⟨rfl, _⟩ := h
        exact call_int_str pins s σ H _ us Q I r ⟨x, n, rfl, hn, Nat.le_of_ble_eq_true hl, w_val hF rep_int w⟩
      · exact w.elim
    · exact w.elim
  · exact w.elim
def strO : List D → Ot SV
  | [.int i] => if (Nat.blt i.natAbs.log2 1920 && lenOk (toString i : Str).length) = true then okd (.str (toString i)) else .stuck
  | [.str x] => okd (.str x)
  | _ => .stuck
theorem opc_str : OpC X E (.type "str") strO := opc_gen fun pins s σ σ' B ε tmp F H fp vs us ds Q I r hF rr w => by
  unfold strO at w
  split at w
  · split at w
    · rename_i hl
      have hl' := Bool.and_eq_true_iff.mp hl
      obtain ⟨v, rfl, h⟩ := rr.inv1
      unfold Rep at h; subst h
      exact call_str_int pins s σ H _ us Q I r ⟨_, rfl, Nat.le_of_ble_eq_true hl'.1, w_val hF (rep_str (lenOk_le hl'.2)) w⟩
    · exact w.elim
  · obtain ⟨v, rfl, h⟩ := rr.inv1
    unfold Rep at h
    obtain ⟨rfl, hl⟩ := h
    exact SkE.call_str_str pins s σ H _ us Q I r ⟨_, rfl, w_val hF (rep_str hl) w⟩
  · exact w.elim
def divmodO : List D → Ot SV
  | [.int i, .int j] => if (decide (0 < j) && Nat.blt j.natAbs.log2 9000) = true then okd (.tup [.int (i / j), .int (i % j)]) else .stuck
  | _ => .stuck
theorem opc_divmod : OpC X E (.builtin "divmod") divmodO := opc_R call_divmodW fun σ' B ε tmp F H fp vs ds Q hF rr w => by
  unfold divmodO at w
  split at w
  · split at w
    · rename_i z
      have z' := Bool.and_eq_true_iff.mp z
      obtain ⟨v, v', rfl, h, h'⟩ := rr.inv2
      unfold Rep at h h'; subst h; subst h'
      exact ⟨_, _, rfl, ⟨of_decide_eq_true z'.1, PyProof.noPylong_of_log2 (Nat.le_of_ble_eq_true z'.2)⟩, w_newT hF (.cons rep_int (.cons rep_int .nil)) w⟩
    · exact w.elim
  · exact w.elim
def allO : List D → Ot SV
  | [d] => (ofO (d.items?.bind bools?)).bd fun bs => okd (.bl (bs.all id))
  | _ => .stuck
def anyO : List D → Ot SV
  | [d] => (ofO (d.items?.bind bools?)).bd fun bs => okd (.bl (bs.any id))
  | _ => .stuck
theorem rep_bools {K : Fg} {F H : Hp} {d : D} {v : V} {bs : List Bool} (s : Same F H) (r : Rep K F d v) (h : d.items?.bind bools? = some bs) : ∃ a, v = .ref a ∧ SqL K H a (bs.map .bl) := by
  cases q : d.items? with
  | none => rw [q] at h; cases h
  | some xs =>
    rw [q] at h
    have h : bools? xs = some bs := h
    obtain ⟨a, vs, rfl, h1, h2⟩ := rep_list s r q
    rw [bools_some h] at h2
    rw [reps_bools h2] at h1
    exact ⟨a, rfl, h1⟩
theorem rep_ints {K : Fg} {F H : Hp} {d : D} {v : V} {bs : List Int} (s : Same F H) (r : Rep K F d v) (h : d.items?.bind ints? = some bs) : ∃ a, v = .ref a ∧ SqL K H a (bs.map .int) := by
  cases q : d.items? with
  | none => rw [q] at h; cases h
  | some xs =>
    rw [q] at h
    have h : ints? xs = some bs := h
    obtain ⟨a, vs, rfl, h1, h2⟩ := rep_list s r q
    rw [ints_some h] at h2
    rw [reps_ints h2] at h1
    exact ⟨a, rfl, h1⟩
theorem wP_ofO {K : Fg} {E : XK} {B : Bs} {σ : L2.St} {ε : Ep} {tmp : Tp} {H : Hp} {Q : VK} {α : Type} {o : Option α} {k : α → Ot SV} (w : wP K E B σ ε tmp H Q ((ofO o).bd k)) : ∃ a, o = some a ∧ wP K E B σ ε tmp H Q (k a) := by
  cases o with
  | none => exact w.elim
  | some a => exact ⟨a, rfl, w⟩
theorem opc_all (hc : X.calm = true) : OpC X E (.builtin "all") allO := opc_R (cr_all hc) fun σ' B ε tmp F H fp vs ds Q hF rr w => by
  unfold allO at w
  split at w
  · obtain ⟨bs, e, w2⟩ := wP_ofO w
    obtain ⟨v, rfl, h⟩ := rr.inv1
    obtain ⟨a, rfl, h1⟩ := rep_bools hF.sub h e
    exact ⟨a, bs, rfl, h1, w_val hF rep_bl w2⟩
  · exact w.elim
theorem opc_any (hc : X.calm = true) : OpC X E (.builtin "any") anyO := opc_R (cr_any hc) fun σ' B ε tmp F H fp vs ds Q hF rr w => by
  unfold anyO at w
  split at w
  · obtain ⟨bs, e, w2⟩ := wP_ofO w
    obtain ⟨v, rfl, h⟩ := rr.inv1
    obtain ⟨a, rfl, h1⟩ := rep_bools hF.sub h e
    exact ⟨a, bs, rfl, h1, w_val hF rep_bl w2⟩
  · exact w.elim
def sumO : List D → Ot SV
  | [d] => (ofO (d.items?.bind ints?)).bd fun bs => okd (.int bs.sum)
  | _ => .stuck
theorem opc_sum (hc : X.calm = true) : OpC X E (.builtin "sum") sumO := opc_R (cr_sum hc) fun σ' B ε tmp F H fp vs ds Q hF rr w => by
  unfold sumO at w
  split at w
  · obtain ⟨bs, e, w2⟩ := wP_ofO w
    obtain ⟨v, rfl, h⟩ := rr.inv1
    obtain ⟨a, rfl, h1⟩ := rep_ints hF.sub h e
    exact ⟨a, bs, rfl, h1, w_val hF rep_int w2⟩
  · exact w.elim
def maxL : Int → List Int → Int
  | m, [] => m
  | m, x :: r => maxL (if m < x then x else m) r
def minL : Int → List Int → Int
  | m, [] => m
  | m, x :: r => minL (if x < m then x else m) r
theorem maxL_spec : ∀ (r : List Int) (m : Int), (maxL m r = m ∨ maxL m r ∈ r) ∧ m ≤ maxL m r ∧ ∀ y ∈ r, y ≤ maxL m r
  | [], m => ⟨.inl rfl, Int.le_refl _, fun y hy => by cases hy⟩
  | x :: r, m => by
    unfold maxL
    by_cases h : m < x
    · rw [if_pos h]
      obtain ⟨h1, h2, h3⟩ := maxL_spec r x
      refine ⟨.inr ?_, by omega, fun y hy => ?_⟩
      · rcases h1 with e | e
        · rw [e]; exact List.mem_cons_self
        · exact List.mem_cons_of_mem _ e
      · rcases List.mem_cons.mp hy with rfl | hy
        · exact h2
        · exact h3 y hy
    · rw [if_neg h]
      obtain ⟨h1, h2, h3⟩ := maxL_spec r m
      refine ⟨?_, h2, fun y hy => ?_⟩
      · rcases h1 with e | e
        · exact .inl e
        · exact .inr (List.mem_cons_of_mem _ e)
      · rcases List.mem_cons.mp hy with rfl | hy
        · omega
        · exact h3 y hy
theorem minL_spec : ∀ (r : List Int) (m : Int), (minL m r = m ∨ minL m r ∈ r) ∧ minL m r ≤ m ∧ ∀ y ∈ r, minL m r ≤ y
  | [], m => ⟨.inl rfl, Int.le_refl _, fun y hy => by cases hy⟩
  | x :: r, m => by
    unfold minL
    by_cases h : x < m
    · rw [if_pos h]
      obtain ⟨h1, h2, h3⟩ := minL_spec r x
      refine ⟨.inr ?_, by omega, fun y hy => ?_⟩
      · rcases h1 with e | e
        · rw [e]; exact List.mem_cons_self
        · exact List.mem_cons_of_mem _ e
      · rcases List.mem_cons.mp hy with rfl | hy
        · exact h2
        · exact h3 y hy
    · rw [if_neg h]
      obtain ⟨h1, h2, h3⟩ := minL_spec r m
      refine ⟨?_, h2, fun y hy => ?_⟩
      · rcases h1 with e | e
        · exact .inl e
        · exact .inr (List.mem_cons_of_mem _ e)
      · rcases List.mem_cons.mp hy with rfl | hy
        · omega
        · exact h3 y hy
def maxO : List D → Ot SV
  | [.int i, .int j] => okd (.int (if j > i then j else i))
  | [d] => (ofO (d.items?.bind ints?)).bd fun bs => match bs with
    | [] => .stuck
    | m :: r => okd (.int (maxL m r))
  | _ => .stuck
def minO : List D → Ot SV
  | [.int i, .int j] => okd (.int (if j < i then j else i))
  | [d] => (ofO (d.items?.bind ints?)).bd fun bs => match bs with
    | [] => .stuck
    | m :: r => okd (.int (minL m r))
  | _ => .stuck
theorem opc_max (hc : X.calm = true) : OpC X E (.builtin "max") maxO := opc_gen fun pins s σ σ' B ε tmp F H fp vs us ds Q I r hF rr w => by
  unfold maxO at w
  split at w
  · obtain ⟨v, v', rfl, h, h'⟩ := rr.inv2
    unfold Rep at h h'; subst h; subst h'
    exact call_max2 hc pins s σ H _ us Q I r ⟨_, _, rfl, w_val hF rep_int w⟩
  · obtain ⟨bs, e, w2⟩ := wP_ofO w
    obtain ⟨v, rfl, h⟩ := rr.inv1
    obtain ⟨a, rfl, h1⟩ := rep_ints hF.sub h e
    cases bs with
    | nil => exact w2.elim
    | cons m r' =>
      refine cr_max hc pins s σ H _ us Q I r ⟨a, _, rfl, h1, Nat.succ_pos _, fun k hk hm => ?_⟩
      have : k = maxL m r' := by
        obtain ⟨z1, z2, z3⟩ := maxL_spec r' m
        have a1 : maxL m r' ≤ k := by
          rcases z1 with e | e
          · rw [e]; exact hm m List.mem_cons_self
          · exact hm _ (List.mem_cons_of_mem _ e)
        have a2 : k ≤ maxL m r' := by
          rcases List.mem_cons.mp hk with rfl | hk
          · exact z2
          · exact z3 k hk
        omega
      rw [this]; exact w_val hF rep_int w2
  · exact w.elim
theorem opc_min (hc : X.calm = true) : OpC X E (.builtin "min") minO := opc_gen fun pins s σ σ' B ε tmp F H fp vs us ds Q I r hF rr w => by
  unfold minO at w
  split at w
  · obtain ⟨v, v', rfl, h, h'⟩ := rr.inv2
    unfold Rep at h h'; subst h; subst h'
    exact call_min2 hc pins s σ H _ us Q I r ⟨_, _, rfl, w_val hF rep_int w⟩
  · obtain ⟨bs, e, w2⟩ := wP_ofO w
    obtain ⟨v, rfl, h⟩ := rr.inv1
    obtain ⟨a, rfl, h1⟩ := rep_ints hF.sub h e
    cases bs with
    | nil => exact w2.elim
    | cons m r' =>
      refine cr_min hc pins s σ H _ us Q I r ⟨a, _, rfl, h1, Nat.succ_pos _, fun k hk hm => ?_⟩
      have : k = minL m r' := by
        obtain ⟨z1, z2, z3⟩ := minL_spec r' m
        have a1 : k ≤ minL m r' := by
          rcases z1 with e | e
          · rw [e]; exact hm m List.mem_cons_self
          · exact hm _ (List.mem_cons_of_mem _ e)
        have a2 : minL m r' ≤ k := by
          rcases List.mem_cons.mp hk with rfl | hk
          · exact z2
          · exact z3 k hk
        omega
      rw [this]; exact w_val hF rep_int w2
  · exact w.elim
/-- ascending ints -/
def srtI (ns : List Int) : List Int := ns.mergeSort (fun a b => decide (a ≤ b))
theorem srtI_perm (ns : List Int) : (srtI ns).Perm ns := List.mergeSort_perm ns _
theorem srtI_pair (ns : List Int) : (srtI ns).Pairwise (· ≤ ·) := by
  have := List.pairwise_mergeSort (le := fun a b : Int => decide (a ≤ b)) (fun a b c h1 h2 => by simp at *; omega) (fun a b => by simp; omega) ns
  exact this.imp fun h => of_decide_eq_true h
theorem srt_uniq {ns ms : List Int} (p : ns.Perm ms) (h : ns.Pairwise (· ≤ ·)) (h' : ms.Pairwise (· ≤ ·)) : ns = ms :=
  p.eq_of_pairwise (fun a b _ _ h1 h2 => Int.le_antisymm h1 h2) h h'
theorem srtI_uniq {ns ms : List Int} (p : ns.Perm ms) (h : ns.Pairwise (· ≤ ·)) : ns = srtI ms := srt_uniq (p.trans (srtI_perm ms).symm) h (srtI_pair ms)
def keyInts? : List (Key × D) → Option (List Int)
  | [] => some []
  | (.inl i, _) :: r => (keyInts? r).map (i :: ·)
  | _ => none
theorem repK_ints {K : Fg} {F : Hp} : ∀ {ds : List (Key × D)} {vs : List (Key × V)} {ns : List Int}, RepK K F ds vs → keyInts? ds = some ns → vs.map (·.1) = ns.map Sum.inl
  | [], vs, ns, h, e => by unfold RepK at h; subst h; cases e; rfl
  | (.inl i, d) :: r, vs, ns, h, e => by
    unfold RepK at h
    obtain ⟨v, vs', rfl, _, _, h2⟩ := h
    unfold keyInts? at e
    cases q : keyInts? r with
    | none => rw [q] at e; cases e
    | some ms =>
      rw [q] at e; cases e
      rw [List.map_cons, repK_ints h2 q]; rfl
  | (.inr x, d) :: r, vs, ns, h, e => by cases e
def sortedO : List D → Ot SV
  | [.dct _ kvs] => (ofO (keyInts? kvs)).bd fun ns => if Nat.blt ns.length 64 = true then .ok (.ol ((srtI ns).map .int)) else .stuck
  | [d] => (ofO (d.items?.bind ints?)).bd fun ns => .ok (.ol ((srtI ns).map .int))
  | _ => .stuck
theorem opc_sorted (hc : X.calm = true) : OpC X E (.builtin "sorted") sortedO := opc_gen fun pins s σ σ' B ε tmp F H fp vs us ds Q I r hF rr w => by
  unfold sortedO at w
  split at w
  · obtain ⟨ns, e, w2⟩ := wP_ofO w
    obtain ⟨v, rfl, h⟩ := rr.inv1
    obtain ⟨a, ys, rfl, h1, h2⟩ := rep_dict hF.sub h
    split at w2
    · rename_i hl
      refine call_sortedDI hc pins s σ H _ us Q I r ⟨a, ys, ns, rfl, h1, repK_ints h2 e, Nat.le_of_ble_eq_true hl, fun zs p hp hs hq => ?_⟩
      rw [srtI_uniq hp hs]
      exact w_newL hF (reps_of_ints _) w2 p hq
    · exact w2.elim
  · obtain ⟨ns, e, w2⟩ := wP_ofO w
    obtain ⟨v, rfl, h⟩ := rr.inv1
    obtain ⟨a, rfl, h1⟩ := rep_ints hF.sub h e
    refine cr_sortedI pins s σ H _ us Q I r ⟨a, ns, rfl, h1, fun zs p hp hs hq => ?_⟩
    rw [srtI_uniq hp hs]
    exact w_newL hF (reps_of_ints _) w2 p hq
  · exact w.elim
def tupleO : List D → Ot SV
  | [.tup xs] => okd (.tup xs)
  | [d] => (ofO d.items?).bd fun xs => okd (.tup xs)
  | _ => .stuck
theorem opc_tuple : OpC X E (.type "tuple") tupleO := opc_R call_tuple_of fun σ' B ε tmp F H fp vs ds Q hF rr w => by
  unfold tupleO at w
  split at w
  · obtain ⟨v, rfl, h⟩ := rr.inv1
    obtain ⟨a, ys, rfl, h1, h2⟩ := rep_tupl hF.sub h
    exact ⟨a, ys, rfl, .inr ⟨h1, w_val hF h w⟩⟩
  · obtain ⟨xs, e, w2⟩ := wP_ofO w
    obtain ⟨v, rfl, h⟩ := rr.inv1
    obtain ⟨a, ys, rfl, h1, h2⟩ := rep_list hF.sub h e
    exact ⟨a, ys, rfl, .inl ⟨h1, w_newT hF h2 w2⟩⟩
  · exact w.elim
def listO : List D → Ot SV
  | [.tup xs] => .ok (.ol xs)
  | [d] => (ofO d.items?).bd fun xs => .ok (.ol xs)
  | _ => .stuck
theorem opc_list : OpC X E (.type "list") listO := opc_R call_list_of fun σ' B ε tmp F H fp vs ds Q hF rr w => by
  unfold listO at w
  split at w
  · obtain ⟨v, rfl, h⟩ := rr.inv1
    obtain ⟨a, ys, rfl, h1, h2⟩ := rep_tupl hF.sub h
    exact ⟨a, ys, rfl, .inr h1, w_newL hF h2 w⟩
  · obtain ⟨xs, e, w2⟩ := wP_ofO w
    obtain ⟨v, rfl, h⟩ := rr.inv1
    obtain ⟨a, ys, rfl, h1, h2⟩ := rep_list hF.sub h e
    exact ⟨a, ys, rfl, .inl h1, w_newL hF h2 w2⟩
  · exact w.elim
/-- a list of pairs as a dict -/
def pairs? : List D → Option (List (Key × D))
  | [] => some []
  | .tup [k, d] :: r => match keyOf? k with
    | some k => (pairs? r).map ((k, d) :: ·)
    | none => none
  | _ => none
def putD : List (Key × D) → Key → D → List (Key × D)
  | [], k, d => [(k, d)]
  | (j, e) :: r, k, d => if j = k then (j, d) :: r else (j, e) :: putD r k d
def hasD (kvs : List (Key × D)) (k : Key) : Bool := kvs.any fun kv => decide (kv.1 = k)
def setD (kvs : List (Key × D)) (k : Key) (d : D) : List (Key × D) := if hasD kvs k = true then kvs.map (fun kv => if kv.1 = k then (kv.1, d) else kv) else kvs ++ [(k, d)]
def mergeD (kvs more : List (Key × D)) : List (Key × D) := more.foldl (fun acc kv => setD acc kv.1 kv.2) kvs
section
variable {K : Fg} {F : Hp}
theorem RepK.nil : RepK K F [] [] := by unfold RepK; rfl
theorem RepK.cons {k : Key} {d : D} {v : V} {ds : List (Key × D)} {vs : List (Key × V)} (hk : KeyOk k) (h : Rep K F d v) (r : RepK K F ds vs) : RepK K F ((k, d) :: ds) ((k, v) :: vs) := by
  unfold RepK; exact ⟨v, vs, rfl, hk, h, r⟩
theorem RepK.append : ∀ {d : List (Key × D)} {v : List (Key × V)} {d' : List (Key × D)} {v' : List (Key × V)}, RepK K F d v → RepK K F d' v' → RepK K F (d ++ d') (v ++ v')
  | [], v, d', v', h, e => by unfold RepK at h; subst h; exact e
  | (k, d) :: ds, v, d', v', h, e => by
    unfold RepK at h
    obtain ⟨v, r, rfl, h0, h1, h2⟩ := h
    exact .cons h0 h1 (RepK.append h2 e)
theorem RepK.has {k : Key} : ∀ {ds : List (Key × D)} {vs : List (Key × V)}, RepK K F ds vs → (vs.any fun kv => decide (kv.1 = k)) = hasD ds k
  | [], vs, h => by unfold RepK at h; subst h; rfl
  | (j, d) :: ds, vs, h => by
    unfold RepK at h
    obtain ⟨v, r, rfl, h0, h1, h2⟩ := h
    unfold hasD
    rw [List.any_cons, List.any_cons, RepK.has h2]; rfl
theorem RepK.repl {k : Key} {d : D} {v : V} (hr : Rep K F d v) : ∀ {ds : List (Key × D)} {vs : List (Key × V)}, RepK K F ds vs → RepK K F (ds.map fun kv => if kv.1 = k then (kv.1, d) else kv) (vs.map fun kv => if kv.1 = k then (kv.1, v) else kv)
  | [], vs, h => by unfold RepK at h; subst h; exact .nil
  | (j, e) :: ds, vs, h => by
    unfold RepK at h
    obtain ⟨w, r, rfl, h0, h1, h2⟩ := h
    rw [List.map_cons, List.map_cons]
    by_cases z : j = k
    · simp only [z, if_true]
      exact .cons (z ▸ h0) hr (RepK.repl hr h2)
    · simp only [z, if_false]
      exact .cons h0 h1 (RepK.repl hr h2)
theorem RepK.put {k : Key} {d : D} {v : V} {ds : List (Key × D)} {vs : List (Key × V)} (hk : KeyOk k) (hr : Rep K F d v) (h : RepK K F ds vs) : RepK K F (setD ds k d) (putK vs k v) := by
  unfold setD putK
  rw [h.has]
  by_cases z : hasD ds k = true
  · rw [if_pos z, if_pos z]; exact h.repl hr
  · rw [if_neg z, if_neg z]; exact h.append (.cons hk hr .nil)
theorem RepK.merge : ∀ {more : List (Key × D)} {mv : List (Key × V)} {ds : List (Key × D)} {vs : List (Key × V)}, RepK K F more mv → RepK K F ds vs → RepK K F (mergeD ds more) (mergeK vs mv)
  | [], mv, ds, vs, h, h' => by unfold RepK at h; subst h; exact h'
  | (k, d) :: r, mv, ds, vs, h, h' => by
    unfold RepK at h
    obtain ⟨v, mv', rfl, h0, h1, h2⟩ := h
    show RepK K F (mergeD (setD ds k d) r) (mergeK (putK vs k v) mv')
    exact RepK.merge h2 (h'.put h0 h1)
theorem RepK.getV {k : Key} : ∀ {ds : List (Key × D)} {vs : List (Key × V)} {v : V}, RepK K F ds vs → valV vs k = some v → ∃ d, (ds.find? fun kv => decide (kv.1 = k)) = some (k, d) ∧ Rep K F d v
  | [], vs, v, h, e => by unfold RepK at h; subst h; cases e
  | (j, d) :: ds, vs, v, h, e => by
    unfold RepK at h
    obtain ⟨w, r, rfl, h0, h1, h2⟩ := h
    by_cases z : j = k
    · rw [valV_pos (p := (j, w)) z] at e
      cases e
      subst z
      exact ⟨d, by simp [List.find?], h1⟩
    · rw [valV_neg (p := (j, w)) z] at e
      obtain ⟨d', e1, e2⟩ := RepK.getV h2 e
      exact ⟨d', by rw [List.find?_cons_of_neg (by simpa using z)]; exact e1, e2⟩
end
theorem pairs_rep {K : Fg} {F H : Hp} (s : Same F H) : ∀ {xs : List D} {vs : List V} {kvs : List (Key × D)}, Reps K F xs vs → pairs? xs = some kvs → ∃ ps ks, vs = ps.map V.ref ∧ RepK K F kvs ks ∧ Paired (fun p kv => SqT K H p [kV kv.1, kv.2]) ps ks
  | [], vs, kvs, h, e => by
    unfold Reps at h; subst h; cases e
    exact ⟨[], [], rfl, .nil, .nil⟩
  | x :: xs, vs, kvs, h, e => by
    unfold Reps at h
    obtain ⟨v, r, rfl, h1, h2⟩ := h
    unfold pairs? at e
    split at e
    · cases ‹_ :: _ = []›
    · rename_i k d xs' ee
      cases ee
      split at e
      · rename_i k' hk
        cases q : pairs? xs with
        | none => rw [q] at e; cases e
        | some kvs' =>
          rw [q] at e; cases e
          obtain ⟨ps, ks, rfl, h3, h4⟩ := pairs_rep s h2 q
          obtain ⟨a, ys, rfl, h5, h6⟩ := rep_tupl s h1
          obtain ⟨v1, v2, rfl, r1, r2⟩ := h6.inv2
          obtain ⟨rfl, ko⟩ := rep_key r1 hk
          exact ⟨a :: ps, (k', v2) :: ks, rfl, .cons ko r2 h3, .cons h5 h4⟩
      · cases e
    · cases e
def dictO : List D → Ot SV
  | [.dct _ kvs] => .ok (.od kvs)
  | [d] => (ofO (d.items?.bind pairs?)).bd fun kvs => .ok (.od (mergeD [] kvs))
  | _ => .stuck
theorem opc_dict (hc : X.calm = true) : OpC X E (.type "dict") dictO := opc_gen fun pins s σ σ' B ε tmp F H fp vs us ds Q I r hF rr w => by
  unfold dictO at w
  split at w
  · obtain ⟨v, rfl, h⟩ := rr.inv1
    obtain ⟨a, ys, rfl, h1, h2⟩ := rep_dict hF.sub h
    exact call_dictD pins s σ H _ us Q I r ⟨a, ys, rfl, h1, w_newD hF h2 w⟩
  · rename_i d _
    obtain ⟨kvs, e, w2⟩ := wP_ofO w
    obtain ⟨v, rfl, h⟩ := rr.inv1
    cases q : d.items? with
    | none => rw [q] at e; cases e
    | some xs =>
      rw [q] at e
      have e : pairs? xs = some kvs := e
      obtain ⟨a, ys, rfl, h1, h2⟩ := rep_list hF.sub h q
      obtain ⟨ps, ks, rfl, h3, h4⟩ := pairs_rep hF.sub h2 e
      exact call_dictP hc pins s σ H _ us Q I r ⟨a, ps, ks, rfl, h1, h4, w_newD hF (h3.merge .nil) w2⟩
  · exact w.elim
end
end Dv

-- Dv8
namespace Dv
open PySem PySem.Spec PyProof.Rows L2

/-! ### subscripts -/
def lookD : List (Key × D) → Key → Option D
  | [], _ => none
  | (j, d) :: r, k => if j = k then some d else lookD r k
section
variable {K : Fg} {F : Hp}
def LookR (K : Fg) (F : Hp) (o : Option D) (u : Option V) : Prop := match o with
  | some d => ∃ v, u = some v ∧ Rep K F d v
  | none => u = none
theorem RepK.look {k : Key} : ∀ {ds : List (Key × D)} {vs : List (Key × V)}, RepK K F ds vs → LookR K F (lookD ds k) (valV vs k)
  | [], vs, h => by unfold RepK at h; subst h; rfl
  | (j, d) :: ds, vs, h => by
    unfold RepK at h
    obtain ⟨w, r, rfl, h0, h1, h2⟩ := h
    unfold lookD
    by_cases z : j = k
    · rw [if_pos z]; exact ⟨w, valV_pos (p := (j, w)) z, h1⟩
    · rw [if_neg z, valV_neg (p := (j, w)) z]; exact RepK.look h2
theorem Reps.atI {ds : List D} {vs : List V} {i : Int} {d : D} (h : Reps K F ds vs) (e : L2.atI ds i = some d) : ∃ v, L2.atI vs i = some v ∧ Rep K F d v := by
  unfold L2.atI at e ⊢
  rw [h.length]
  cases q : ixN ds.length i with
  | none => rw [q] at e; cases e
  | some j =>
    rw [q] at e
    exact h.get' e
end
def ixO : D → D → Ot SV
  | .lst xs, .int i => (ofO (atI xs i)).bd okd
  | .frl xs, .int i => (ofO (atI xs i)).bd okd
  | .tup xs, .int i => (ofO (atI xs i)).bd okd
  | .str z, .int i => (ofO (atI z.cps.toList i)).bd fun c => okd (.str ⟨#[c]⟩)
  | .dct _ kvs, k => (ofO ((keyOf? k).bind (lookD kvs))).bd okd
  | _, _ => .stuck
def Ix2 (X : Cx) (E : XK) (f : SV → SV → Ot SV) : Prop := IxR X (R2of X E f)
section
variable {X : Cx} {E : XK} {pu : Bool} {a b : Expr} {ma mb : ME} {pos : Pos}
theorem ix_all (hu : X.A.units + 80 < cLine) : Ix2 X E (l2 ixO) := by
  intro value slice pins s σ H x y v u Q I rx ry ⟨B, σ', ε, tmp, r1, r2, hS, w⟩ hs
  unfold l2 at w
  obtain ⟨d1, q1, w⟩ := wP_ofO w
  obtain ⟨d2, q2, w⟩ := wP_ofO w
  obtain ⟨F, fp, hF, ra, rb⟩ := hS.data2 rfl q1 q2
  unfold ixO at w
  split at w
  · obtain ⟨d, e, w⟩ := wP_ofO w
    obtain ⟨p, vs, rfl, h1, h2⟩ := rep_list hF.sub ra rfl
    unfold Rep at rb; subst rb
    obtain ⟨z, ez, rz⟩ := h2.atI e
    exact ix_list value slice pins s σ H _ _ v u Q I rx ry ⟨p, vs, _, z, rfl, rfl, h1, ez, w_val hF rz w⟩ hs
  · obtain ⟨d, e, w⟩ := wP_ofO w
    obtain ⟨p, vs, rfl, h1, h2⟩ := rep_list hF.sub ra rfl
    unfold Rep at rb; subst rb
    obtain ⟨z, ez, rz⟩ := h2.atI e
    exact ix_list value slice pins s σ H _ _ v u Q I rx ry ⟨p, vs, _, z, rfl, rfl, h1, ez, w_val hF rz w⟩ hs
  · obtain ⟨d, e, w⟩ := wP_ofO w
    obtain ⟨p, vs, rfl, h1, h2⟩ := rep_tupl hF.sub ra
    unfold Rep at rb; subst rb
    obtain ⟨z, ez, rz⟩ := h2.atI e
    exact ix_tup value slice pins s σ H _ _ v u Q I rx ry ⟨p, vs, _, z, rfl, rfl, h1, ez, w_val hF rz w⟩ hs
  · obtain ⟨c, e, w⟩ := wP_ofO w
    unfold Rep at ra rb; obtain ⟨rfl, hl⟩ := ra; subst rb
    exact ix_str value slice pins s σ H _ _ v u Q I rx ry ⟨_, _, c, rfl, rfl, hl, e, w_val hF (rep_str (by show (1 : Nat) ≤ sizeLine; rw [sizeLine_eq]; omega)) w⟩ hs
  · rename_i lk kvs _
    obtain ⟨d, e, w⟩ := wP_ofO w
    cases hk : keyOf? d2 with
    | none => rw [hk] at e; cases e
    | some k =>
      rw [hk] at e
      have e : lookD kvs k = some d := e
      obtain ⟨rfl, _⟩ := rep_key rb hk
      obtain ⟨p, ks, rfl, h1, h2⟩ := rep_dict hF.sub ra
      have lk := h2.look (k := k)
      rw [e] at lk
      obtain ⟨z, ez, rz⟩ := lk
      cases rx
      have g : DGet H p (kV k) (some z) := .inl ⟨ks, k, h1, rfl, ez.symm⟩
      exact tail_any (dict_typeIs I g) PySem.F.slot_dict_getitem.lookup (d_getItem (by omega) I g ry fun w' s' I' rw' => ⟨z, H, I', rw', w_val hF rz w⟩) hs
  · exact w.elim
def cIx (a b : ME) : ME := c2 (l2 ixO) a b
theorem sp_ix (hu : X.A.units + 80 < cLine) (ha : SP X E pu a ma) (hb : SP X E pu b mb) (hs : PlainIx b) : SP X E pu (.Subscript a b pos) (cIx ma mb) :=
  pe_imp (pe_ix (ix_all hu) ha hb hs) fun pins s σ H Q I ⟨B, ε, tmp, h, w⟩ => gex (wiP tmp Q) h w fun r1 v1 ε1 H1 h1 w1 => gex (wiP tmp Q) h1 w1 fun r2 v2 ε2 H2 h2 w2 => ⟨B, σ, ε2, tmp, r1, r2, h2, gP_of w2⟩
end
/-! ### slices -/
def cutD (xs : List D) (lo hi : Option Int) : List D := (xs.drop (HT.sIx xs.length 0 lo)).take (HT.sIx xs.length xs.length hi - HT.sIx xs.length 0 lo)
theorem Reps.cut {K : Fg} {F : Hp} {ds : List D} {vs : List V} (h : Reps K F ds vs) (lo hi : Option Int) : Reps K F (cutD ds lo hi) (cutV vs lo hi) := by
  unfold cutD cutV
  rw [h.length]
  exact (h.drop _).take _
def slO (lo hi : Option Int) : D → Ot SV
  | .lst xs => .ok (.ol (cutD xs lo hi))
  | .frl xs => .ok (.ol (cutD xs lo hi))
  | .tup xs => okd (.tup (cutD xs lo hi))
  | .str z => okd (.str (cutS z lo hi))
  | _ => .stuck
/-- a part of a slice -/
def asI : SV → Ot (Option Int)
  | .dat (.int i) => .ok (some i)
  | _ => .stuck
abbrev MP := M (Option Int)
def oN : MP := pr none
def oS (m : ME) : MP := bd m fun r => lft (asI r)
def cSl (m : ME) (l h : MP) : ME := bd m fun r => bd (lft (ofO r.toD)) fun d => bd l fun lo => bd h fun hi => lft (slO lo hi d)
def gO (K : Fg) (E : XK) (pu : Bool) (B : Bs) (σ : L2.St) (tmp : Tp) (Q : Option Int → Hp → Prop) (ε : Ep) (H : Hp) : Rs (Option Int) → Prop
  | .ok b ε' => ∀ H', Sta K B H' σ ε' tmp → Pq pu ε H ε' H' → Q b H'
  | .err x ε' => ∀ c dd H', XSt K B H' σ ε' c dd x → E c dd H'
  | .stuck => False
def wiO {K : Fg} {E : XK} {pu : Bool} {B : Bs} {σ : L2.St} (tmp : Tp) (Q : Option Int → Hp → Prop) : Wi K E pu B σ (Option Int) where
  W := gO K E pu B σ tmp Q
  we := fun _ _ _ _ w => w
  ws := fun _ _ w => w
  wq := fun ε H ε' H' o p w => by
    cases o with
    | ok r ε2 => exact fun H2 h q => w H2 h (p.trans q)
    | err x ε2 => exact w
    | stuck => exact w
def tO (K : Fg) (E : XK) (pu : Bool) (m : MP) : TO := fun σ H Q => ∃ B ε tmp, Sta K B H σ ε tmp ∧ gO K E pu B σ tmp Q ε H (m ε)
def SO (X : Cx) (E : XK) (pu : Bool) (e : Option Expr) (m : MP) : Prop := PO X e (tO X.K E pu m)
theorem po_imp {X : Cx} {e : Option Expr} {t t' : TO} (h : PO X e t) (w : ∀ pins s σ H Q, Inv X pins σ H s → t' σ H Q → t σ H Q) : PO X e t' := ⟨fun pins s σ H Q I q => h.run pins s σ H Q I (w _ _ _ _ _ I q)⟩
/-- first a part of a slice -/
theorem gpo {K : Fg} {E : XK} {pu : Bool} {B : Bs} {σ : L2.St} {ε : Ep} {tmp : Tp} {H : Hp} {α : Type} (w : Wi K E pu B σ α) {m : MP} {k : Option Int → M α} (h : Sta K B H σ ε tmp) (q : w.W ε H (bd m k ε)) {Q' : Option Int → Hp → Prop}
    (hk : ∀ b ε' H', Sta K B H' σ ε' tmp → w.W ε' H' (k b ε') → Q' b H') : tO K E pu m σ H Q' := by
  refine ⟨B, ε, tmp, h, ?_⟩
  unfold bd at q
  cases e : m ε with
  | ok r ε' => rw [e] at q; exact fun H' h' p => hk r ε' H' h' (w.wq _ _ _ _ _ p q)
  | err x ε' => rw [e] at q; exact w.we _ _ _ _ q
  | stuck => rw [e] at q; exact (w.ws _ _ q).elim
section
variable {X : Cx} {E : XK} {pu : Bool} {e : Expr} {lo hi : Option Expr} {me : ME} {ml mh : MP} {pos p2 : Pos}
theorem so_none : SO X E pu none oN := po_imp po_none fun pins s σ H Q I ⟨B, ε, tmp, h, w⟩ => w H h Pq.refl
theorem so_some (h : SP X E pu e me) : SO X E pu (some e) (oS me) := po_imp (po_some h) fun pins s σ H Q I ⟨B, ε, tmp, h, w⟩ => by
  unfold oS at w
  refine gex (wiO tmp Q) h w fun r v ε' H' h' w' => ?_
  rcases (wiO tmp Q).lft (k := pr) (by
    have : bd (lft (asI r)) pr ε' = lft (asI r) ε' := by unfold bd; cases asI r <;> rfl
    rw [this]; exact w') with ⟨o, e, w2⟩ | ⟨x, e, _⟩
  · unfold asI at e
    split at e
    · cases e
      obtain ⟨F, fp, h2⟩ := h'
      obtain ⟨rr, h3⟩ := h2.datum rfl
      unfold Rep at rr
      exact ⟨_, rr, w2 H' h3.sta Pq.refl⟩
    · cases e
  · unfold asI at e
    split at e <;> cases e
theorem str_cut_len (z : Str) (lo hi : Option Int) : (cutS z lo hi).length ≤ z.length := by
  show (cutS z lo hi).cps.size ≤ z.cps.size
  unfold cutS
  simp only [List.size_toArray]
  rw [List.length_take, List.length_drop, Array.length_toList]
  omega
theorem sl_all : SlR X (fun x lo hi H Q => (rSlL X.K x lo hi H Q ∨ rSlA X.K x lo hi H Q) ∨ rSlS x lo hi H Q) := SlR.or (SlR.or sl_list sl_tupA) sl_str
theorem sp_slice (he : SP X E pu e me) (hl : SO X E pu lo ml) (hh : SO X E pu hi mh) : SP X E pu (.Subscript e (.Slice lo hi none p2) pos) (cSl me ml mh) :=
  pe_imp (pe_slice sl_all he hl hh) fun pins s σ H Q I ⟨B, ε, tmp, h, w⟩ => gex (wiP tmp Q) h w fun r v ε1 H1 h1 w1 => by
    obtain ⟨d, t, w1⟩ := (wiP tmp Q).ofO w1
    have h1 := h1.fz t
    refine gpo (wiP tmp Q) h1 w1 fun l ε2 H2 h2 w2 => gpo (wiP tmp Q) h2 w2 fun u ε3 H3 h3 w3 => ?_
    have w4 := gP_of w3
    obtain ⟨F, fp, h4⟩ := h3
    obtain ⟨rr, hF⟩ := h4.datum rfl
    unfold slO at w4
    split at w4
    · obtain ⟨a, vs, rfl, q1, q2⟩ := rep_list hF.sub rr rfl
      exact .inl (.inl ⟨a, vs, rfl, q1, w_newL hF (q2.cut l u) w4⟩)
    · obtain ⟨a, vs, rfl, q1, q2⟩ := rep_list hF.sub rr rfl
      exact .inl (.inl ⟨a, vs, rfl, q1, w_newL hF (q2.cut l u) w4⟩)
    · rename_i xs
      obtain ⟨a, vs, rfl, q1, q2⟩ := rep_tupl hF.sub rr
      refine .inl (.inr ⟨a, vs, rfl, q1, fun hw => ?_, fun _ => w_newT hF (q2.cut l u) w4⟩)
      have e : cutD xs l u = xs := by
        unfold cutD
        rw [← q2.length, hw.1, hw.2, List.drop_zero, Nat.sub_zero, q2.length, List.take_length]
      rw [e] at w4
      exact w_val hF rr w4
    · unfold Rep at rr
      obtain ⟨rfl, hz⟩ := rr
      exact .inr ⟨_, rfl, hz, w_val hF (rep_str (Nat.le_trans (str_cut_len _ _ _) hz)) w4⟩
    · exact w4.elim
/-! ### - -/
def negO : D → Ot SV
  | .int i => okd (.int (-i))
  | _ => .stuck
theorem sp_neg (ha : SP X E pu e me) : SP X E pu (.UnaryOp .USub e pos) (c1 (l1 negO) me) :=
  pe_imp (pe_un un_neg ha) fun pins s σ H Q I ⟨B, ε, tmp, h, w⟩ => gex (wiP tmp Q) h w fun r v ε1 H1 h1 w1 => by
    have w2 := gP_of w1
    unfold l1 at w2
    obtain ⟨d, t, w3⟩ := wP_ofO w2
    obtain ⟨F, fp, hF, rr⟩ := h1.datum rfl t
    unfold negO at w3
    split at w3
    · unfold Rep at rr; subst rr
      exact ⟨_, rfl, w_val hF rep_int w3⟩
    · exact w3.elim
end
/-! ### isinstance -/
def D.ty : D → Option String
  | .non => some "NoneType"
  | .bl _ => some "bool"
  | .int _ => some "int"
  | .str _ => some "str"
  | .lst _ => some "list"
  | .frl _ => some "list"
  | .tup _ => some "tuple"
  | .dct _ _ => some "dict"
  | .obj _ _ => none
theorem ty_list {K : Fg} {H : Hp} {a : Addr} {xs : List V} (h : SqL K H a xs) : TyX K H (.ref a) (.type "list") := by
  rcases h with h | ⟨o, its, n, h, h2, _⟩
  · rcases h with h | ⟨o, h⟩
    · exact .base (.lst h)
    · exact .base (.frz h)
  · exact .kList h h2
theorem ty_tup {K : Fg} {H : Hp} {a : Addr} {xs : List V} (h : SqT K H a xs) : TyX K H (.ref a) (.type "tuple") := by
  rcases h with h | ⟨o, its, n, h, h2, _⟩
  · rcases h with h | ⟨o, h⟩
    · exact .base (.tup h)
    · exact .fTuple h
  · exact .kTuple h h2
theorem ty_rep {K : Fg} {F H : Hp} {d : D} {v : V} {t : String} (s : Same F H) (r : Rep K F d v) (h : d.ty = some t) : TyX K H v (.type t) := by
  cases d with
  | non => cases h; unfold Rep at r; subst r; exact .base .non
  | bl b => cases h; unfold Rep at r; subst r; exact .base (.bl b)
  | int i => cases h; unfold Rep at r; subst r; exact .base (.int i)
  | str x => cases h; unfold Rep at r; obtain ⟨rfl, _⟩ := r; exact .base (.str x)
  | lst xs => cases h; obtain ⟨a, vs, rfl, h1, _⟩ := rep_list s r rfl; exact ty_list h1
  | frl xs => cases h; obtain ⟨a, vs, rfl, h1, _⟩ := rep_list s r rfl; exact ty_list h1
  | tup xs => cases h; obtain ⟨a, vs, rfl, h1, _⟩ := rep_tupl s r; exact ty_tup h1
  | dct lk xs =>
    cases h; obtain ⟨a, vs, rfl, h1, _⟩ := rep_dict s r
    rcases h1 with h1 | ⟨o, h1⟩
    · exact .base (.dK h1)
    · exact .fDict h1
  | obj C fs => cases h
def isiO (T : String) : D → Ot SV := fun d => (ofO (d.ty.bind fun t => kitB t T)).bd fun b => okd (.bl b)
section
variable {X : Cx} {E : XK} {pu : Bool} {e : Expr} {me : ME} {pos p px : Pos} {x : Str} {T : String}
theorem sp_isi (hg : Gl X "isinstance") (hm : X.mg "isinstance" = none) (hx : Gl X x) (hmx : X.mg x = none) (hv : bootBuiltins x = some (.type T)) (ha : SP X E pu e me) (hn : x ≠ "__name__" := by decide) (hdb : (x == ("__debug__" : Str)) = false := by decide)
    (hb : bootBuiltins "isinstance" = some (.builtin "isinstance") := by rfl)
    (he : starEach (e :: [.Name x px]) X.env = (false, eval e X.env) :: starEach [.Name x px] X.env := by rfl) (hpl : (backTo pos (starEach [.Name x px] X.env)).any (·.1) = false := by rfl) :
    SP X E pu (.Call (.Name "isinstance" p) [e, .Name x px] [] pos) (c1 (l1 (isiO T)) me) :=
  pe_imp (pe_callB call_isi hg hm hb (pa_cons ha (pa_cons (pe_bltn (v := .ty T) hx hmx hv rfl hn hdb) pa_nil (by rfl)) he) (by decide) (by decide) he hpl) fun pins s σ H Q I ⟨B, ε, tmp, h, w⟩ => gex (wiP tmp Q) h w fun r v ε1 H1 h1 w1 => by
    have w2 := gP_of w1
    unfold l1 at w2
    obtain ⟨d, t, w3⟩ := wP_ofO w2
    obtain ⟨F, fp, hF, rr⟩ := h1.datum rfl t
    unfold isiO at w3
    obtain ⟨b, q, w4⟩ := wP_ofO w3
    cases ty : d.ty with
    | none => rw [ty] at q; cases q
    | some t =>
      rw [ty] at q
      exact ⟨v, .ty T, .type t, .type T, b, rfl, .ty T, ty_rep hF.sub rr ty, kit_ty q, w_val hF rep_bl w4⟩
end
/-! ### methods of built-in values -/
def RMof (X : Cx) (E : XK) (f : D → List D → Ot SV) : V → List V → Hp → VK → Prop := fun x xs H Q => ∃ B σ ε tmp F fp d ds, StF X.K B F H σ ε tmp fp ∧ Rep X.K F d x ∧ Reps X.K F ds xs ∧ wP X.K E B σ ε tmp H Q (f d ds)
def OpM (X : Cx) (E : XK) (id : String) (f : D → List D → Ot SV) : Prop := MtR X id (RMof X E f)
def D.tyOk (T : String) : D → Bool
  | .str _ => T == "str"
  | .lst _ => T == "list"
  | .frl _ => T == "list"
  | _ => false
theorem tyOk_V {K : Fg} {F H : Hp} {d : D} {v : V} {T : String} (s : Same F H) (r : Rep K F d v) (h : d.tyOk T = true) : tyV K T v H := by
  cases d with
  | str x => unfold Rep at r; obtain ⟨rfl, _⟩ := r; exact eq_of_beq h
  | lst xs => obtain ⟨a, vs, rfl, h1, _⟩ := rep_list s r rfl; exact .inl ⟨eq_of_beq h, _, h1⟩
  | frl xs => obtain ⟨a, vs, rfl, h1, _⟩ := rep_list s r rfl; exact .inl ⟨eq_of_beq h, _, h1⟩
  | _ => cases h
def gdM (b : Bool) : M Unit := fun ε => if b = true then .ok () ε else .stuck
def cM (T : String) (f : D → List D → Ot SV) (mo : ME) (mm : MA) : ME := bd mo fun r => bd (lft (ofO r.toD)) fun d => bd (gdM (d.tyOk T)) fun _ => bd mm fun rs => bd (lft (ofO (toDs rs))) fun ds => lft (f d ds)
section
variable {X : Cx} {E : XK} {pu : Bool} {e o : Expr} {es : List Expr} {me mo : ME} {mm : MA} {apos cpos : Pos} {name : Str} {T id : String} {f : D → List D → Ot SV}
theorem Wi.gd {K : Fg} {B : Bs} {σ : L2.St} {ε : Ep} {H : Hp} {b : Bool} {β : Type} (w : Wi K E pu B σ β) {k : Unit → M β} (q : w.W ε H (bd (gdM b) k ε)) : b = true ∧ w.W ε H (k () ε) := by
  unfold bd gdM at q
  by_cases z : b = true
  · rw [if_pos z] at q; exact ⟨z, q⟩
  · rw [if_neg z] at q; exact (w.ws _ _ q).elim
theorem sp_bm (pa : PlainAttrs T) (slot : Slot T name id) (hty : typeOf (.builtin id) = pure (.type "method_descriptor")) (hm : OpM X E id f) (ho : SP X E pu o mo) (ha : SA X E pu (e :: es) mm)
    (hbase : attributeBase o name X.env (eval o X.env) = eval o X.env := by rfl)
    (hfew : ((backTo cpos (starEach (e :: es) X.env)).all (fun x => !x.1) && (backToKw cpos (keywordEach [] X.env)).all (fun x => x.1.isSome)
      && decide ((e :: es).length + ([] : List Keyword).length + (if ([] : List Keyword).isEmpty then 0 else 1) < 30)) = true := by rfl)
    (hline : (apos.endLine == cpos.line) = true := by rfl) (hs : starEach (e :: es) X.env = (false, eval e X.env) :: starEach es X.env := by rfl) (hplain : (backTo cpos (starEach es X.env)).any (·.1) = false := by rfl) :
    SP X E pu (.Call (.Attribute o name apos) (e :: es) [] cpos) (cM T f mo mm) :=
  pe_imp (pe_bm pa slot hty hm ho ha hbase hfew hline hs hplain) fun pins s σ H Q I ⟨B, ε, tmp, h, w⟩ => gex (wiP tmp Q) h w fun r v ε1 H1 h1 w1 => by
    obtain ⟨d, t, w1⟩ := (wiP tmp Q).ofO w1
    obtain ⟨ty, w1⟩ := (wiP tmp Q).gd w1
    have h1 := h1.fz t
    refine ⟨?_, ?_⟩
    · obtain ⟨F, fp, h2⟩ := h1
      obtain ⟨rr, hF⟩ := h2.datum rfl
      exact tyOk_V hF.sub rr ty
    · exact gar (wiP tmp Q) h1 w1 fun rs vs ε2 H2 hl h2 w2 => by
        obtain ⟨ds, q, w2⟩ := (wiP tmp Q).ofO w2
        obtain ⟨F, fp, h3, rs⟩ := h2.datas hl q
        obtain ⟨rr, hF⟩ := h3.datum rfl
        exact ⟨B, σ, ε2, tmp, F, fp, d, ds, hF, rr, rs, gP_of w2⟩
theorem sp_bm0 (pa : PlainAttrs T) (slot : Slot T name id) (hty : typeOf (.builtin id) = pure (.type "method_descriptor")) (hm : OpM X E id f) (ho : SP X E pu o mo)
    (hbase : attributeBase o name X.env (eval o X.env) = eval o X.env := by rfl) (hline : (apos.endLine == cpos.line) = true := by rfl) :
    SP X E pu (.Call (.Attribute o name apos) [] [] cpos) (cM T f mo aN) :=
  pe_imp (pe_bm0 pa slot hty hm ho hbase hline) fun pins s σ H Q I ⟨B, ε, tmp, h, w⟩ => gex (wiP tmp Q) h w fun r v ε1 H1 h1 w1 => by
    obtain ⟨d, t, w1⟩ := (wiP tmp Q).ofO w1
    obtain ⟨ty, w1⟩ := (wiP tmp Q).gd w1
    have h1 := h1.fz t
    obtain ⟨F, fp, h2⟩ := h1
    obtain ⟨rr, hF⟩ := h2.datum rfl
    exact ⟨tyOk_V hF.sub rr ty, B, σ, ε1, tmp, F, fp, d, [], hF, rr, .nil, gP_of w1⟩
theorem opm_gen (h : ∀ (pins : List (Addr × Obj)) (s : Shared) (σ σ' : L2.St) (B : Bs) (ε : Ep) (tmp : Tp) (F H : Hp) (fp : List Addr) (x : V) (xs : List V) (v : Value) (us : List Value) (d : D) (ds : List D) (Q : VK), Inv X pins σ H s → RelV x v → Vals xs us → StF X.K B F H σ' ε tmp fp → Rep X.K F d x → Reps X.K F ds xs →
    wP X.K E B σ' ε tmp H Q (f d ds) → wpAny (model X.prog X.w) X.A (call (.builtin id) (v :: us)) (EP X pins σ Q) X.xe s) : OpM X E id f := by
  intro pins s σ H x xs v us Q I r rs ⟨B, σ', ε, tmp, F, fp, d, ds, hF, rr, rrs, w2⟩
  exact h pins s σ σ' B ε tmp F H fp x xs v us d ds Q I r rs hF rr rrs w2
theorem opm_R {r0 : V → List V → Hp → VK → Prop} (ho : MtR X id r0) (h : ∀ (σ' : L2.St) (B : Bs) (ε : Ep) (tmp : Tp) (F H : Hp) (fp : List Addr) (x : V) (xs : List V) (d : D) (ds : List D) (Q : VK), StF X.K B F H σ' ε tmp fp → Rep X.K F d x → Reps X.K F ds xs →
    wP X.K E B σ' ε tmp H Q (f d ds) → r0 x xs H Q) : OpM X E id f :=
  opm_gen fun pins s σ σ' B ε tmp F H fp x xs v us d ds Q I r rs hF rr rrs w => ho pins s σ H x xs v us Q I r rs (h σ' B ε tmp F H fp x xs d ds Q hF rr rrs w)
def countO : D → List D → Ot SV := fun d ds => match ds with
  | [.int k] => (ofO (d.items?.bind ints?)).bd fun ns => okd (.int (ns.count k : Nat))
  | _ => .stuck
theorem opm_count : OpM X E "list.count" countO := opm_R mt_lcount fun σ' B ε tmp F H fp x xs d ds Q hF rr rrs w => by
  unfold countO at w
  split at w
  · obtain ⟨ns, e, w2⟩ := wP_ofO w
    obtain ⟨a, rfl, h1⟩ := rep_ints hF.sub rr e
    obtain ⟨v, rfl, h⟩ := rrs.inv1
    unfold Rep at h; subst h
    exact ⟨a, ns, _, rfl, rfl, h1, w_val hF rep_int w2⟩
  · exact w.elim
def sindexO : D → List D → Ot SV := fun d ds => match d, ds with
  | .str a, [.str b] => match Builtin.Str.occurrences a b 0 a.length 1 with
    | i :: _ => okd (.int (i : Nat))
    | [] => .stuck
  | _, _ => .stuck
theorem opm_sindex : OpM X E "str.index" sindexO := opm_R mt_sindex fun σ' B ε tmp F H fp x xs d ds Q hF rr rrs w => by
  unfold sindexO at w
  split at w
  · split at w
    · rename_i i rest hi
      obtain ⟨v, rfl, h⟩ := rrs.inv1
      unfold Rep at h rr
      obtain ⟨rfl, _⟩ := h
      obtain ⟨rfl, _⟩ := rr
      exact ⟨_, _, i, rest, rfl, rfl, hi, w_val hF rep_int w⟩
    · exact w.elim
  · exact w.elim
/-! ### d.get -/
def asDct : SV → Ot (List (Key × D)) := fun r => (ofO r.toD).bd fun d => match d with
  | .dct _ kvs => .ok kvs
  | _ => .stuck
theorem asDct_ok {r : SV} {kvs : List (Key × D)} (h : asDct r = .ok kvs) : ∃ lk, r.toD = some (.dct lk kvs) := by
  unfold asDct at h
  cases q : r.toD with
  | none => rw [q] at h; cases h
  | some d =>
    rw [q] at h
    cases d with
    | dct lk k => cases h; exact ⟨lk, rfl⟩
    | _ => cases h
theorem asDct_err {r : SV} {x : Xc} (h : asDct r = .err x) : False := by
  unfold asDct at h
  cases q : r.toD with
  | none => rw [q] at h; cases h
  | some d =>
    rw [q] at h
    cases d with
    | dct lk k => cases h
    | _ => cases h
def keyR (r : SV) : Ot Key := (ofO r.toD).bd fun d => ofO (keyOf? d)
def cGet1 (mo me : ME) : ME := bd mo fun r => bd (lft (asDct r)) fun kvs => bd me fun y => bd (lft (ofO (y.toD.bind keyOf?))) fun k => pr (.dat ((lookD kvs k).getD .non))
def cGet2 (mo me mx : ME) : ME := bd mo fun r => bd (lft (asDct r)) fun kvs => bd me fun y => bd (lft (ofO (y.toD.bind keyOf?))) fun k => bd mx fun z => bd (lft (ofO z.toD)) fun dz => pr (.dat ((lookD kvs k).getD dz))
theorem Sta.key {K : Fg} {B : Bs} {σ : L2.St} {ε : Ep} {tmp : Tp} {H : Hp} {v : V} {r : SV} {k : Key} (h : Sta K B H σ ε ((v, r) :: tmp)) (q : r.toD.bind keyOf? = some k) : v = kV k ∧ KeyOk k ∧ Sta K B H σ ε tmp := by
  cases t : r.toD with
  | none => rw [t] at q; cases q
  | some d =>
    rw [t] at q
    obtain ⟨F, fp, hF, rr⟩ := h.datum rfl t
    obtain ⟨e, ko⟩ := rep_key rr q
    exact ⟨e, ko, hF.sta⟩
theorem sp_get1 (hu : X.A.units + 80 < cLine) (ho : SP X E pu o mo) (he : SP X E pu e me) (m : M1 X o "get" apos e cpos) : SP X E pu (.Call (.Attribute o "get" apos) [e] [] cpos) (cGet1 mo me) :=
  pe_imp (pe_dget1 (by omega) ho he m) fun pins s σ H Q I ⟨B, ε, tmp, h, w⟩ => gex (wiP tmp Q) h w fun r v ε1 H1 h1 w1 => by
    rcases (wiP tmp Q).lft w1 with ⟨kvs, q, w1⟩ | ⟨x, q, _⟩
    · obtain ⟨lk, tq⟩ := asDct_ok q
      have h1 := h1.fz tq
      have h1' := h1
      obtain ⟨F, fp, h2⟩ := h1'
      obtain ⟨rr, hF⟩ := h2.datum rfl
      obtain ⟨a, ks, rfl, k1, k2⟩ := rep_dict hF.sub rr
      refine ⟨a, rfl, .inl ⟨_, k1⟩, ?_⟩
      refine gex (wiP tmp Q) h1 w1 fun r2 v2 ε2 H2 h3 w2 => ?_
      obtain ⟨k, q2, w3⟩ := (wiP tmp Q).ofO w2
      obtain ⟨rfl, ko, h4⟩ := h3.key q2
      obtain ⟨F', fp', h5⟩ := h4
      obtain ⟨rr', hF'⟩ := h5.datum rfl
      obtain ⟨a', ks', e', k1', k2'⟩ := rep_dict hF'.sub rr'
      cases e'
      refine ⟨valV ks' k, .inl ⟨ks', k, k1', rfl, rfl⟩, ?_⟩
      have lk := k2'.look (k := k)
      cases z : lookD kvs k with
      | none =>
        rw [z] at lk w3
        have lk : valV ks' k = none := lk
        rw [lk]; exact w3 .non H2 (hF'.pushS rep_non) Pq.refl
      | some d =>
        rw [z] at lk w3
        obtain ⟨v, ev, rv⟩ := lk
        rw [ev]; exact w3 v H2 (hF'.pushS rv) Pq.refl
    · exact (asDct_err q).elim
theorem sp_get2 {fx : Expr} {mx : ME} (hu : X.A.units + 80 < cLine) (ho : SP X E pu o mo) (he : SP X E pu e me) (hf : SP X E pu fx mx) (m : M2 X o "get" apos e fx cpos) : SP X E pu (.Call (.Attribute o "get" apos) [e, fx] [] cpos) (cGet2 mo me mx) :=
  pe_imp (pe_dget2 (by omega) ho he hf m) fun pins s σ H Q I ⟨B, ε, tmp, h, w⟩ => gex (wiP tmp Q) h w fun r v ε1 H1 h1 w1 => by
    rcases (wiP tmp Q).lft w1 with ⟨kvs, q, w1⟩ | ⟨x, q, _⟩
    · obtain ⟨lk, tq⟩ := asDct_ok q
      have h1 := h1.fz tq
      have h1' := h1
      obtain ⟨F, fp, h2⟩ := h1'
      obtain ⟨rr, hF⟩ := h2.datum rfl
      obtain ⟨a, ks, rfl, k1, k2⟩ := rep_dict hF.sub rr
      refine ⟨a, rfl, .inl ⟨_, k1⟩, ?_⟩
      refine gex (wiP tmp Q) h1 w1 fun r2 v2 ε2 H2 h3 w2 => ?_
      obtain ⟨k, q2, w3⟩ := (wiP tmp Q).ofO w2
      obtain ⟨rfl, ko, h4⟩ := h3.key q2
      refine gex (wiP tmp Q) h4 w3 fun r3 v3 ε3 H3 h5 w4 => ?_
      obtain ⟨dz, tz, w5⟩ := (wiP tmp Q).ofO w4
      obtain ⟨F', fp', h6, rz⟩ := h5.datum rfl tz
      obtain ⟨rr', hF'⟩ := h6.datum rfl
      obtain ⟨a', ks', e', k1', k2'⟩ := rep_dict hF'.sub rr'
      cases e'
      refine ⟨valV ks' k, .inl ⟨ks', k, k1', rfl, rfl⟩, ?_⟩
      have lk := k2'.look (k := k)
      cases z : lookD kvs k with
      | none =>
        rw [z] at lk w5
        have lk : valV ks' k = none := lk
        rw [lk]; exact w5 v3 H3 (hF'.pushS rz) Pq.refl
      | some d =>
        rw [z] at lk w5
        obtain ⟨v, ev, rv⟩ := lk
        rw [ev]; exact w5 v H3 (hF'.pushS rv) Pq.refl
    · exact (asDct_err q).elim
end
/-! ### str * int -/
def repS (x : Str) (n : Int) : Str := if n < 1 then Str.empty else if (n == 1 || x.length == 0) = true then x else ⟨(List.replicate n.toNat x.cps).foldl (· ++ ·) #[]⟩
def mul2O : D → D → Ot SV
  | .str x, .int n => if (decide (-1000000 ≤ n) && (decide (n ≤ 1000000) && Nat.ble (x.length * n.toNat) 1000000)) = true then okd (.str (repS x n)) else .stuck
  | a, b => mulO a b
end Dv

-- Dv9
namespace Dv
open PySem PySem.Spec PyProof.Rows L2

/-! ### str * int -/
theorem op2_mul2 {X : Cx} {E : XK} : Op2 X E (binaryOp .Mult) (l2 mul2O) := op2_gen fun pins s σ σ' B ε tmp F H fp x y u w a b Q I rx ry hF ra rb wq => by
  unfold mul2O at wq
  split at wq
  · rename_i z n
    split at wq
    · rename_i hc
      have hc1 := Bool.and_eq_true_iff.mp hc
      have hc2 := Bool.and_eq_true_iff.mp hc1.2
      have h1 := of_decide_eq_true hc1.1
      have h2 := of_decide_eq_true hc2.1
      have h3 := Nat.le_of_ble_eq_true hc2.2
      unfold Rep at ra rb
      obtain ⟨rfl, hz⟩ := ra
      subst rb
      obtain ⟨t, rfl⟩ := rx
      obtain ⟨t', rfl⟩ := ry
      have nl : ∀ k : Nat, k ≤ 1000000 → Builtin.Str.tooLong k = false := fun k hk => by
        show decide (k > sizeLine) = false
        rw [sizeLine_eq]
        exact decide_eq_false (by omega)
      refine P.mul_str ?_ (fun g1 g2 => ?_) (fun _ _ => nl _ h3) ?_
      · rw [decide_eq_false (by omega), decide_eq_false (by omega)]; rfl
      · have hn : 1 ≤ n := by omega
        have e1 : (z.length : Int) ≤ 16777216 := by
          have := hz
          rw [sizeLine_eq] at this
          omega
        have : (16777216 : Int) ≤ (2 ^ 63 - 1) / n := by
          rw [Int.le_ediv_iff_mul_le (by omega)]
          omega
        omega
      · unfold repS at wq
        by_cases k1 : n < 1
        · rw [if_pos k1] at wq ⊢
          exact ⟨by decide, .str _, H, I.tok _, ⟨_, rfl⟩, w_val hF (rep_str (by decide)) wq⟩
        · rw [if_neg k1] at wq ⊢
          by_cases k2 : (n == 1 || z.length == 0) = true
          · rw [if_pos k2] at wq ⊢
            exact ⟨.str _, H, I, ⟨_, rfl⟩, w_val hF (rep_str hz) wq⟩
          · rw [if_neg k2] at wq ⊢
            have hl : (⟨(List.replicate n.toNat z.cps).foldl (· ++ ·) #[]⟩ : Str).length ≤ sizeLine := by
              have key : ∀ (m : Nat) (acc : Array Nat), ((List.replicate m z.cps).foldl (· ++ ·) acc).size = acc.size + m * z.cps.size := by
                intro m
                induction m with
                | zero => intro acc; simp
                | succ k ih =>
                  intro acc
                  rw [List.replicate_succ, List.foldl_cons, ih, Array.size_append, Nat.succ_mul]
                  omega
              show ((List.replicate n.toNat z.cps).foldl (· ++ ·) #[]).size ≤ sizeLine
              rw [key, sizeLine_eq]
              have : z.length = z.cps.size := rfl
              rw [this, Nat.mul_comm] at h3
              simp
              omega
            exact ⟨hl, .str _, H, I.tok _, ⟨_, rfl⟩, w_val hF (rep_str hl) wq⟩
    · exact wq.elim
  · rename_i a' b' hne
    exact op2_mul pins s σ H x y u w Q I rx ry ⟨B, σ', ε, tmp, .dat a, .dat b, ((hF.push ra).push rb).sta, wq⟩
end Dv

-- Dv10
namespace Dv
open PySem PySem.Spec PyProof.Rows L2

/-! ### another ground -/
section
variable {K : Fg} {B : Bs} {F F' H H' : Hp} {σ σ' : L2.St} {ε ε' : Ep} {tmp tmp' : Tp} {fp fp' : List Addr}
/-- what is frozen now, as the ground -/
theorem StF.rebase (h : StF K B F H σ ε tmp fp) : StF K { B with F0 := F } F H σ ε tmp fp :=
  { h with sub0 := Same.refl F, new := fun p o q => .inl q }
theorem StF.unbase (h : StF K B F H σ ε tmp fp) (h' : StF K { B with F0 := F } F' H' σ' ε' tmp' fp') : StF K B F' H' σ' ε' tmp' fp' :=
  { h' with
    sub0 := h.sub0.trans h'.sub0
    new := fun p o q => by
      rcases h'.new p o q with z | z
      · exact h.new p o z
      · exact .inr z }
theorem OwnL.sublist : ∀ {l' l : List PR}, l'.Sublist l → ∀ {fp : List Addr}, OwnL K F H l fp → ∃ fp', fp'.Sublist fp ∧ OwnL K F H l' fp'
  | _, _, .slnil, fp, h => ⟨fp, List.Sublist.refl _, h⟩
  | _, _, .cons a s, fp, h => by
    obtain ⟨f1, f2, rfl, h1, h2⟩ := h
    obtain ⟨f', s', h'⟩ := OwnL.sublist s h2
    exact ⟨f', s'.trans (List.sublist_append_right f1 f2), h'⟩
  | _, _, .cons₂ a s, fp, h => by
    obtain ⟨f1, f2, rfl, h1, h2⟩ := h
    obtain ⟨f', s', h'⟩ := OwnL.sublist s h2
    exact ⟨f1 ++ f', List.Sublist.append_left s' f1, f1, f', rfl, h1, h'⟩
/-- some of the pending values -/
theorem StF.subT (h : StF K B F H σ ε tmp fp) (s : tmp'.Sublist tmp) : ∃ fp', StF K B F H σ ε tmp' fp' := by
  obtain ⟨f', s', h'⟩ := OwnL.sublist (List.Sublist.append_right (List.Sublist.map (fun t : V × SV => ((Option.some t.1, t.2) : PR)) s) (σ.zip ε)) h.own
  exact ⟨f', { h with own := h', nd := h.nd.sublist s', out := fun p hp => h.out p (s'.subset hp), old := fun p hp => h.old p (s'.subset hp) }⟩
theorem Sta.subT (h : Sta K B H σ ε tmp) (s : tmp'.Sublist tmp) : Sta K B H σ ε tmp' := by
  obtain ⟨F, fp, h⟩ := h
  obtain ⟨fp', h'⟩ := h.subT s
  exact ⟨F, fp', h'⟩
/-- what was frozen in the ground, in the heap -/
theorem Sta.base (h : Sta K B H σ ε tmp) : Same B.F0 H := by
  obtain ⟨F, fp, h⟩ := h
  exact h.sub0.trans h.sub
theorem Sta.pushB (h : Sta K B H σ ε tmp) {F1 : Hp} (s : Same F1 B.F0) {v : V} {d : D} (r : Rep K F1 d v) : Sta K B H σ ε ((v, .dat d) :: tmp) := by
  obtain ⟨F, fp, h⟩ := h
  exact ⟨F, fp, h.push (Rep.mono (s.trans h.sub0) _ _ r)⟩
end

/-! ### iterators -/
/-- what an iterator yields, as data that were frozen in F1 -/
def ItD (K : Fg) (J : It) (items : List D) (F1 : Hp) : Prop := ∀ (i : Nat) (B : Bs) (σ : L2.St) (ε : Ep) (tmp : Tp) (H : Hp), Same F1 B.F0 → Sta K B H σ ε tmp →
  (∀ d, items[i]? = some d → J.go i H ∧ ∀ x H', J.yld i H x H' → Sta K B H' σ ε ((x, .dat d) :: tmp) ∧ Same H H') ∧ (i = items.length → J.stop i H)
def gI (K : Fg) (E : XK) (pu : Bool) (B : Bs) (σ : L2.St) (tmp : Tp) (R : It → Hp → Prop) (ε : Ep) (H : Hp) : Rs (List D) → Prop
  | .ok items ε' => ∀ J H' F1 fp, StF K B F1 H' σ ε' tmp fp → ItD K J items F1 → Pq pu ε H ε' H' → R J H'
  | .err x ε' => ∀ c dd H', XSt K B H' σ ε' c dd x → E c dd H'
  | .stuck => False
abbrev MI := M (List D)
def wiI {K : Fg} {E : XK} {pu : Bool} {B : Bs} {σ : L2.St} (tmp : Tp) (R : It → Hp → Prop) : Wi K E pu B σ (List D) where
  W := gI K E pu B σ tmp R
  we := fun _ _ _ _ w => w
  ws := fun _ _ w => w
  wq := fun ε H ε' H' o p w => by
    cases o with
    | ok r ε2 => exact fun J H2 F1 fp h i q => w J H2 F1 fp h i (p.trans q)
    | err x ε2 => exact w
    | stuck => exact w
def tI (K : Fg) (E : XK) (pu : Bool) (mi : MI) : TI := fun σ H R => ∃ B ε tmp, Sta K B H σ ε tmp ∧ gI K E pu B σ tmp R ε H (mi ε)
def SI (X : Cx) (E : XK) (pu : Bool) (tg iter : Expr) (mi : MI) : Prop := PI X tg iter (tI X.K E pu mi)
theorem pi_imp {X : Cx} {tg e : Expr} {t t' : TI} (h : PI X tg e t) (w : ∀ pins s σ H R, Inv X pins σ H s → t' σ H R → t σ H R) : PI X tg e t' := ⟨fun pins s σ H R I q => h.run pins s σ H R I (w _ _ _ _ _ I q)⟩

section
variable {X : Cx} {tg e : Expr} {te : TE} {pins : List (Addr × Obj)} {σ : L2.St} {H : Hp} {s : Shared} {R : It → Hp → Prop} {E0 : Value → Shared → Prop}
/-- a list, a tuple, a str, a locked dict -/
def iAnyV (K : Fg) (te : TE) : TI := fun σ H R => te σ H fun x H1 => (∃ a xs, x = .ref a ∧ SqL K H1 a xs ∧ R (Itl K a) H1) ∨ (∃ a xs, x = .ref a ∧ SqT K H1 a xs ∧ R (Itt K a) H1) ∨ (∃ z, x = .str z ∧ R (Its z) H1) ∨
  ∃ d o kvs, x = .ref d ∧ H1 d = some (.frz o (.dK kvs)) ∧ R (Itk d o kvs) H1
theorem pi_any (he : PE X e te) : PI X tg e (iAnyV X.K te) := by
  refine ⟨fun pins s σ H R I h => ?_⟩
  refine thn (he.run pins s σ H _ I h) fun v s1 ⟨x, H1, I1, r1, q1⟩ => ?_
  rcases q1 with ⟨a, xs, rfl, hq, q⟩ | ⟨a, xs, rfl, hq, q⟩ | ⟨z, rfl, q⟩ | ⟨d, o, kvs, rfl, hd, q⟩
  · cases r1
    obtain ⟨its, rv, p, hz⟩ := I1.list hq
    exact wpAny_pyIter_list p.isList (pi_one (tk := s1.toks) I1 _ (turn_list a _) ⟨_, Heap.get?_push_size _ rfl, rfl, rfl⟩ q)
  · cases r1
    obtain ⟨its, rv, p, hz⟩ := I1.tuple hq
    exact wpAny_pyIter_tuple (show s1.heap.IsTuple a its.toArray from p) (pi_one (tk := s1.toks) I1 _ (turn_tuple a _) ⟨_, Heap.get?_push_size _ rfl, rfl, rfl⟩ q)
  · obtain ⟨t, rfl⟩ := r1
    cases ha : z.cps.all (· < 128)
    · exact wpAny_pyIter_wide ha (pi_one (tk := s1.toks) I1 _ (turn_str _ z t "str_iterator" (.inr rfl)) ⟨_, Heap.get?_push_size _ rfl, rfl, rfl⟩ q)
    · exact wpAny_pyIter_ascii ha (pi_one (tk := s1.toks) I1 _ (turn_str _ z t "str_ascii_iterator" (.inl rfl)) ⟨_, Heap.get?_push_size _ rfl, rfl, rfl⟩ q)
  · obtain rfl : v = Value.ref d := r1
    obtain ⟨hs, hgd, hx, es, ep, vs, hdt, hsz, kv, hm⟩ := I1.frzK hd
    refine iter_keys hs hgd hx hdt (pi_one (tk := s1.toks) I1 _ (turn_keys _ hdt) ⟨_, Heap.get?_push_size _ rfl, rfl, ?_⟩ q)
    rw [hsz] <;> rfl
/-- enumerate(str): each sign in a new pair -/
def ItE (x : Str) : It :=
  ⟨fun i _ => i < x.cps.size, fun i H v H' => ∃ T c, v = .ref T ∧ H T = none ∧ H' = upd H T (.tup [.int (i : Nat), .str ⟨#[c]⟩]) ∧ x.cps[i]? = some c, fun i _ => i = x.cps.size⟩
theorem turn_enumS {P : Program} {w : World} {K : PySem.W.Frag} {elts : List Expr} {kk : Nat} {tpos : Pos} (x : Str) (t : Tok) (e it : Addr) :
    Turn P w K (.Tuple elts kk tpos) (ItE x) [e, it] e (fun i h => (∃ old, IsEnum h e it ((i : Nat) : Int) old) ∧ h.IsStrIter it (strIterType x) x t i ∧ e ≠ it) where
  mem := by simp
  obj := fun i h st b hb => by
    obtain ⟨⟨old, he⟩, ⟨o, ho, hc, hd⟩, _⟩ := st
    have e' : b = e ∨ b = it := by simpa using hb
    rcases e' with z | z
    · rw [z]; exact ⟨_, he, fun v q => nomatch q⟩
    · rw [z]; exact ⟨o, ho, fun v q => by rw [hd] at q; cases q⟩
  keep := fun i h h' st k => let ⟨⟨old, he⟩, ⟨o, ho, r⟩, hne⟩ := st; ⟨⟨old, k e (by simp) _ he⟩, ⟨o, k it (by simp) o ho, r⟩, hne⟩
  item := by
    intro X hP hw hK hc i pins s σ H E I hf st hg
    subst hP hw hK
    obtain ⟨⟨old, he⟩, hit, hne⟩ := st
    have hlt : i < x.cps.size := hg
    have hel : e < s.heap.objs.size := Heap.lt_size he
    have hil : it < s.heap.objs.size := by obtain ⟨_, q, _⟩ := hit; exact Heap.lt_size q
    have key : ∀ (D : Draws X.prog X.w X.A.in1 it [it] x.cps.size (fun i v => ∃ c u, x.cps[i]? = some c ∧ v = Value.str ⟨#[c]⟩ u) (fun i h => h.IsStrIter it (strIterType x) x t i)),
        wpAny (model X.prog X.w) X.A (pyNext (.ref e)) (fun r s1 => ∃ u, r = some u ∧
      wpAny (model X.prog X.w) X.A (letOwnedTupleGo (.Tuple elts kk tpos) (.ref e) u) (fun _ s2 => ∃ y H', Inv X pins σ H' s2 ∧ RelV y u ∧ (ItE x).yld i H y H' ∧ ((∃ old, IsEnum s2.heap e it ((i + 1 : Nat) : Int) old) ∧ s2.heap.IsStrIter it (strIterType x) x t (i + 1) ∧ e ≠ it) ∧ ∀ b ∈ [e, it], H' b = none) E s1) E s := by
      intro D
      refine wpAny_pyNext_enum_itemD D he hit hlt hne (by simpa using hne) fun y h' tk hy ho hit' hT hsz hk => ?_
      obtain ⟨c, u, hcx, rfl⟩ := hy
      refine ⟨_, rfl, wpAny_letOwnedTupleGo_enum (s := { s with heap := h', toks := tk + 1 }) ho fun h'' he' sb => ?_⟩
      have hT2 : h''.get? s.heap.objs.size = some { cls := .type "tuple", data := .seq #[.int i tk, .str ⟨#[c]⟩ u] } := (sb.2 _ (Nat.ne_of_gt hel)).trans hT
      have new : ObjOk X.prog X.w (upd H s.heap.objs.size (.tup [.int (i : Nat), .str ⟨#[c]⟩])) h'' s.heap.objs.size (.tup [.int (i : Nat), .str ⟨#[c]⟩]) :=
        ⟨by show 2 ≤ sizeLine; decide, [.int i tk, .str ⟨#[c]⟩ u], .cons ⟨_, rfl⟩ (.cons ⟨_, rfl⟩ .nil), ⟨_, hT2, rfl, _, rfl⟩⟩
      have I1 : Inv X pins σ (upd H s.heap.objs.size (.tup [.int (i : Nat), .str ⟨#[c]⟩])) { s with heap := h'', toks := tk + 1 } :=
        I.turnedNew (ch := [e, it]) (fun b ob hb q => (sb.2 b (fun z => hb (by simp [z]))).trans (hk b ob (fun z => hb (by simp [z])) (fun z => hb (by simp [z])) q)) hf (Nat.le_refl _) new
      refine ⟨.ref s.heap.objs.size, _, I1, rfl, ⟨_, c, rfl, I.hok.fresh (Nat.le_refl _), rfl, hcx⟩, ⟨⟨Value.str ⟨#[c]⟩ u, ?_⟩, ?_, hne⟩, fun b hb => ?_⟩
      · have e1 : ((i + 1 : Nat) : Int) = (i : Int) + 1 := by omega
        rw [e1]; exact he'
      · obtain ⟨o, ho', r⟩ := hit'
        exact ⟨o, (sb.2 it (Ne.symm hne)).trans ho', r⟩
      · have hb' : b < s.heap.objs.size := by
          have e' : b = e ∨ b = it := by simpa using hb
          rcases e' with z | z
          · rw [z]; exact hel
          · rw [z]; exact hil
        rw [upd_ne (Nat.ne_of_lt hb')]
        exact (hf b hb).1
    cases ha : x.cps.all (· < 128)
    · have et : strIterType x = "str_iterator" := by simp [strIterType, ha]
      exact key (by rw [et]; exact Draws.strWide (A := X.A.in1) (I.ok.hd hc) it x t)
    · have et : strIterType x = "str_ascii_iterator" := by simp [strIterType, ha]
      exact key (by rw [et]; exact Draws.strAscii (A := X.A.in1) (I.ok.hd hc) it x t)
  done := by
    intro X hP hw hK hc i pins s σ H E I hf st hg
    subst hP hw hK
    obtain ⟨⟨old, he⟩, hit, hne⟩ := st
    have hge : i = x.cps.size := hg
    subst hge
    obtain ⟨f0, f1, f2, f3, f4, f5⟩ := hf it (by simp)
    have key : ∀ (D : Draws X.prog X.w X.A.in1 it [it] x.cps.size (fun i v => ∃ c u, x.cps[i]? = some c ∧ v = Value.str ⟨#[c]⟩ u) (fun i h => h.IsStrIter it (strIterType x) x t i)),
        wpAny (model X.prog X.w) X.A (pyNext (.ref e)) (fun r s1 => r = none ∧ Inv X pins σ H s1) E s := by
      intro D
      exact wpAny_pyNext_enum_endD D he hit fun h' eb => ⟨rfl, I.turned (t' := s.toks) (fun b o hb q => eb b o hb q) f0 f1 f3 f4 f5⟩
    cases ha : x.cps.all (· < 128)
    · have et : strIterType x = "str_iterator" := by simp [strIterType, ha]
      exact key (by rw [et]; exact Draws.strWide (A := X.A.in1) (I.ok.hd hc) it x t)
    · have et : strIterType x = "str_ascii_iterator" := by simp [strIterType, ha]
      exact key (by rw [et]; exact Draws.strAscii (A := X.A.in1) (I.ok.hd hc) it x t)
  self := fun A i s Q E st h => let ⟨⟨_, he⟩, _⟩ := st; wpAny_pyIter_enum he h
/-- enumerate(x), a list or a str -/
def iEnumA (K : Fg) (ta : TA) : TI := fun σ H R => ta σ H fun vs H1 => (∃ a xs, vs = [.ref a] ∧ SqL K H1 a xs ∧ R (Ite K a) H1) ∨ ∃ z, vs = [.str z] ∧ R (ItE z) H1
theorem pi_enumA {e : Expr} {ta : TA} {p pos tpos : Pos} {elts : List Expr} {kk : Nat} (hg : Gl X "enumerate") (hm : X.mg "enumerate" = none) (ha : PA X [e] ta) (hs : starEach [e] X.env = [(false, eval e X.env)] := by rfl) :
    PI X (.Tuple elts kk tpos) (.Call (.Name "enumerate" p) [e] [] pos) (iEnumA X.K ta) := by
  refine ⟨fun pins s σ H R I h => ?_⟩
  refine Call_ (ld_blt I hg hm boot_enumerate (PyProof.Rows.callWith_type1 (thn (ha.run pos pins s σ H _ I h) fun us s1 ⟨vs, H1, I1, r1, q1⟩ => ?_) hs rfl))
  rcases q1 with ⟨a, xs, ex, hq, q⟩ | ⟨z, ex, q⟩
  · subst ex
    cases r1 with
    | cons r rr =>
      cases rr
      cases r
      obtain ⟨its, rv, p', hz⟩ := I1.list hq
      refine call_enumerate_list p'.isList fun h' he hit hsz hk => wpAny_pyIter_enum he ?_
      have I2 : Inv X pins σ H1 { s1 with heap := h' } := I1.kept (t' := s1.toks) hk
      refine ⟨s1.heap.objs.size + 1, [s1.heap.objs.size + 1, s1.heap.objs.size], _, _, H1, rfl, I2, turn_enum a (s1.heap.objs.size + 1) s1.heap.objs.size, ⟨⟨.none, he⟩, hit, Nat.succ_ne_self _⟩, fun b hb => ?_, q⟩
      have e' : b = s1.heap.objs.size + 1 ∨ b = s1.heap.objs.size := by simpa using hb
      have hle : s1.heap.objs.size ≤ b := by
        rcases e' with z | z
        · rw [z]; exact Nat.le_add_right _ _
        · rw [z]; exact Nat.le_refl _
      exact I1.fpOk hle (I1.hok.fresh hle)
  · subst ex
    cases r1 with
    | cons r rr =>
      cases rr
      obtain ⟨t, rfl⟩ := r
      refine call_enumerate_str fun h' he hit hsz hk => wpAny_pyIter_enum he ?_
      have I2 : Inv X pins σ H1 { s1 with heap := h' } := I1.kept (t' := s1.toks) hk
      refine ⟨s1.heap.objs.size + 1, [s1.heap.objs.size + 1, s1.heap.objs.size], _, _, H1, rfl, I2, turn_enumS z t (s1.heap.objs.size + 1) s1.heap.objs.size, ⟨⟨.none, he⟩, hit, Nat.succ_ne_self _⟩, fun b hb => ?_, q⟩
      have e' : b = s1.heap.objs.size + 1 ∨ b = s1.heap.objs.size := by simpa using hb
      have hle : s1.heap.objs.size ≤ b := by
        rcases e' with z | z
        · rw [z]; exact Nat.le_add_right _ _
        · rw [z]; exact Nat.le_refl _
      exact I1.fpOk hle (I1.hok.fresh hle)
end

/-! ### by data -/
def kD : Key → D
  | .inl i => .int i
  | .inr x => .str x
theorem rep_kD {K : Fg} {F : Hp} {k : Key} (h : KeyOk k) : Rep K F (kD k) (kV k) := by
  cases k with
  | inl i => exact rep_int
  | inr x => exact rep_str h
def chD (z : Str) : List D := z.cps.toList.map fun c => .str ⟨#[c]⟩
def itemsO : D → Option (List D)
  | .lst xs => some xs
  | .frl xs => some xs
  | .tup xs => some xs
  | .str z => some (chD z)
  | .dct true kvs => some (kvs.map fun kv => kD kv.1)
  | _ => none
def iAny (m : ME) : MI := bd m fun r => bd (lft (ofO r.toD)) fun d => lft (ofO (itemsO d))
def enD (xs : List D) : List D := xs.zipIdx.map fun p => .tup [.int (p.2 : Nat), p.1]
def enumO : D → Option (List D)
  | .lst xs => some (enD xs)
  | .frl xs => some (enD xs)
  | .str z => some (enD (chD z))
  | _ => none
def iEnu (m : ME) : MI := bd m fun r => bd (lft (ofO r.toD)) fun d => lft (ofO (enumO d))
def ziD (xs ys : List D) : List D := (xs.zip ys).map fun p => .tup [p.1, p.2]
def zipO : D → D → Option (List D)
  | .tup xs, .tup ys => some (ziD xs ys)
  | a, b => match a.items?, b.items? with
    | some xs, some ys => some (ziD xs ys)
    | _, _ => none
def iZi (a b : ME) : MI := bd a fun r => bd b fun q => bd (lft (ofO r.toD)) fun d => bd (lft (ofO q.toD)) fun d' => lft (ofO (zipO d d'))
def rgD (lo : Int) (n : Nat) : List D := (List.range n).map fun i => .int (lo + (i : Nat))
def rg1O : D → Ot (List D)
  | .int j => if (decide (-1000000000 ≤ j) && decide (j ≤ 1000000000)) = true then .ok (rgD 0 j.toNat) else .stuck
  | _ => .stuck
def rg2O : D → D → Ot (List D)
  | .int i, .int j => if (decide (-1000000000 ≤ i) && (decide (i ≤ 1000000000) && (decide (-1000000000 ≤ j) && decide (j ≤ 1000000000)))) = true then .ok (rgD i (j - i).toNat) else .stuck
  | _, _ => .stuck
def iRg1 (a : ME) : MI := bd a fun r => bd (lft (ofO r.toD)) fun d => lft (rg1O d)
def iRg2 (a b : ME) : MI := bd a fun r => bd b fun q => bd (lft (ofO r.toD)) fun d => bd (lft (ofO q.toD)) fun d' => lft (rg2O d d')
def valsO : D → Option (List D)
  | .dct true kvs => some (kvs.map (·.2))
  | _ => none
def itmsO : D → Option (List D)
  | .dct true kvs => some (kvs.map fun kv => .tup [kD kv.1, kv.2])
  | _ => none
def keysO : D → Option (List D)
  | .dct true kvs => some (kvs.map fun kv => kD kv.1)
  | _ => none
def iVal (m : ME) : MI := bd m fun r => bd (lft (ofO r.toD)) fun d => lft (ofO (valsO d))
def iItm (m : ME) : MI := bd m fun r => bd (lft (ofO r.toD)) fun d => lft (ofO (itmsO d))
def iKey (m : ME) : MI := bd m fun r => bd (lft (ofO r.toD)) fun d => lft (ofO (keysO d))
section
variable {K : Fg} {F F1 : Hp} {J : It}
/-- a pair just laid -/
theorem Sta.pair {B : Bs} {σ : L2.St} {ε : Ep} {tmp : Tp} {H : Hp} (h : Sta K B H σ ε tmp) (s : Same F1 B.F0) {T : Addr} {x y : V} {d d' : D} (hT : H T = none) (r : Rep K F1 d x) (r' : Rep K F1 d' y) :
    Sta K B (upd H T (.tup [x, y])) σ ε ((.ref T, .dat (.tup [d, d'])) :: tmp) ∧ Same H (upd H T (.tup [x, y])) := by
  obtain ⟨F, fp, h⟩ := h
  have hF : F T = none := by
    cases q : F T with
    | none => rfl
    | some u => rw [h.sub _ _ q] at hT; cases hT
  refine ⟨(h.frozen hT).pushS ?_, same_upd hT⟩
  unfold Rep
  have e : Same F1 F := s.trans h.sub0
  exact ⟨T, _, rfl, SqT.of upd_same, .cons (Rep.mono (e.trans (same_upd hF)) _ _ r) (.cons (Rep.mono (e.trans (same_upd hF)) _ _ r') .nil)⟩
theorem itd_list {a : Addr} {vs : List V} {ds : List D} (h : SqL K F1 a vs) (r : Reps K F1 ds vs) : ItD K (Itl K a) ds F1 := fun i B σ ε tmp H s hS => by
  have hq : SqL K H a vs := (s.trans hS.base).seq h
  refine ⟨fun d e => ?_, fun e => ⟨vs, hq, by rw [r.length, e]; exact Nat.le_refl _⟩⟩
  obtain ⟨v, ev, rv⟩ := r.get' e
  refine ⟨⟨vs, v, hq, ev⟩, fun x H' y => ?_⟩
  obtain ⟨rfl, y⟩ := y
  have := y vs hq
  rw [ev] at this; cases this
  exact ⟨hS.pushB s rv, Same.refl _⟩
theorem itd_tup {a : Addr} {vs : List V} {ds : List D} (h : SqT K F1 a vs) (r : Reps K F1 ds vs) : ItD K (Itt K a) ds F1 := fun i B σ ε tmp H s hS => by
  have hq : SqT K H a vs := SqT.same (s.trans hS.base) h
  refine ⟨fun d e => ?_, fun e => ⟨vs, hq, by rw [r.length, e]; exact Nat.le_refl _⟩⟩
  obtain ⟨v, ev, rv⟩ := r.get' e
  refine ⟨⟨vs, v, hq, ev⟩, fun x H' y => ?_⟩
  obtain ⟨rfl, y⟩ := y
  have := y vs hq
  rw [ev] at this; cases this
  exact ⟨hS.pushB s rv, Same.refl _⟩
theorem ch_get {z : Str} {i : Nat} {d : D} (e : (chD z)[i]? = some d) : ∃ c, z.cps[i]? = some c ∧ d = .str ⟨#[c]⟩ := by
  unfold chD at e
  rw [List.getElem?_map] at e
  cases q : z.cps.toList[i]? with
  | none => rw [q] at e; cases e
  | some c =>
    rw [q] at e; cases e
    exact ⟨c, by simpa using q, rfl⟩
theorem ch_len (z : Str) : (chD z).length = z.cps.size := by unfold chD; simp
theorem rep_ch {c : Nat} : Rep K F (.str ⟨#[c]⟩) (.str ⟨#[c]⟩) := rep_str (by show (1 : Nat) ≤ sizeLine; rw [sizeLine_eq]; omega)
theorem itd_str {z : Str} : ItD K (Its z) (chD z) F1 := fun i B σ ε tmp H s hS => by
  refine ⟨fun d e => ?_, fun e => by show z.cps.size ≤ i; rw [e, ch_len]; exact Nat.le_refl _⟩
  obtain ⟨c, ec, rfl⟩ := ch_get e
  refine ⟨(Array.getElem?_eq_some_iff.mp ec).1, fun x H' y => ?_⟩
  obtain ⟨rfl, c', ec', rfl⟩ := y
  rw [ec] at ec'; cases ec'
  exact ⟨hS.push fun F => rep_ch, Same.refl _⟩
theorem RepK.get : ∀ {ds : List (Key × D)} {vs : List (Key × V)} {i : Nat} {k : Key} {d : D}, RepK K F ds vs → ds[i]? = some (k, d) → ∃ v, vs[i]? = some (k, v) ∧ KeyOk k ∧ Rep K F d v
  | [], vs, i, k, d, h, e => by simp at e
  | (j, x) :: r, vs, 0, k, d, h, e => by
    unfold RepK at h
    obtain ⟨v, vs', rfl, h0, h1, h2⟩ := h
    simp at e
    obtain ⟨rfl, rfl⟩ := e
    exact ⟨v, rfl, h0, h1⟩
  | (j, x) :: r, vs, i + 1, k, d, h, e => by
    unfold RepK at h
    obtain ⟨v, vs', rfl, h0, h1, h2⟩ := h
    simp at e
    obtain ⟨w, e1, e2⟩ := RepK.get h2 e
    exact ⟨w, by simpa using e1, e2⟩
theorem itd_keys {a : Addr} {o : Obj} {ks : List (Key × V)} {kvs : List (Key × D)} (h : F1 a = some (.frz o (.dK ks))) (r : RepK K F1 kvs ks) : ItD K (Itk a o ks) (kvs.map fun kv => kD kv.1) F1 := fun i B σ ε tmp H s hS => by
  have hq : H a = some (.frz o (.dK ks)) := (s.trans hS.base) _ _ h
  have hl := r.length
  refine ⟨fun d e => ?_, fun e => ⟨hq, by rw [e, List.length_map, hl]; exact Nat.le_refl _⟩⟩
  rw [List.getElem?_map] at e
  cases q : kvs[i]? with
  | none => rw [q] at e; cases e
  | some kd =>
    obtain ⟨k, d0⟩ := kd
    rw [q] at e; cases e
    obtain ⟨v, ev, ko, rv⟩ := r.get q
    refine ⟨⟨hq, (List.getElem?_eq_some_iff.mp ev).1⟩, fun x H' y => ?_⟩
    obtain ⟨rfl, k', v', e', rfl⟩ := y
    rw [ev] at e'; cases e'
    exact ⟨hS.push fun F => rep_kD ko, Same.refl _⟩
theorem itd_vals {a : Addr} {o : Obj} {ks : List (Key × V)} {kvs : List (Key × D)} (h : F1 a = some (.frz o (.dK ks))) (r : RepK K F1 kvs ks) : ItD K (Itd a o ks) (kvs.map (·.2)) F1 := fun i B σ ε tmp H s hS => by
  have hq : H a = some (.frz o (.dK ks)) := (s.trans hS.base) _ _ h
  have hl := r.length
  refine ⟨fun d e => ?_, fun e => ⟨hq, by rw [e, List.length_map, hl]; exact Nat.le_refl _⟩⟩
  rw [List.getElem?_map] at e
  cases q : kvs[i]? with
  | none => rw [q] at e; cases e
  | some kd =>
    obtain ⟨k, d0⟩ := kd
    rw [q] at e; cases e
    obtain ⟨v, ev, ko, rv⟩ := r.get q
    refine ⟨⟨hq, (List.getElem?_eq_some_iff.mp ev).1⟩, fun x H' y => ?_⟩
    obtain ⟨rfl, k', e'⟩ := y
    rw [ev] at e'; cases e'
    exact ⟨hS.pushB s rv, Same.refl _⟩
theorem itd_items {a : Addr} {o : Obj} {ks : List (Key × V)} {kvs : List (Key × D)} (h : F1 a = some (.frz o (.dK ks))) (r : RepK K F1 kvs ks) : ItD K (Iti a o ks) (kvs.map fun kv => .tup [kD kv.1, kv.2]) F1 := fun i B σ ε tmp H s hS => by
  have hq : H a = some (.frz o (.dK ks)) := (s.trans hS.base) _ _ h
  have hl := r.length
  refine ⟨fun d e => ?_, fun e => ⟨hq, by rw [e, List.length_map, hl]; exact Nat.le_refl _⟩⟩
  rw [List.getElem?_map] at e
  cases q : kvs[i]? with
  | none => rw [q] at e; cases e
  | some kd =>
    obtain ⟨k, d0⟩ := kd
    rw [q] at e; cases e
    obtain ⟨v, ev, ko, rv⟩ := r.get q
    refine ⟨⟨hq, (List.getElem?_eq_some_iff.mp ev).1⟩, fun x H' y => ?_⟩
    obtain ⟨T, k', v', e', rfl, hT, rfl⟩ := y
    rw [ev] at e'; cases e'
    exact hS.pair s hT (rep_kD ko) rv
theorem en_get {xs : List D} {i : Nat} {d : D} (e : (enD xs)[i]? = some d) : ∃ x, xs[i]? = some x ∧ d = .tup [.int (i : Nat), x] := by
  unfold enD at e
  rw [List.getElem?_map, List.getElem?_zipIdx] at e
  cases q : xs[i]? with
  | none => rw [q] at e; cases e
  | some x => rw [q] at e; cases e; exact ⟨x, rfl, by simp⟩
theorem en_len (xs : List D) : (enD xs).length = xs.length := by unfold enD; simp
theorem itd_enumL {a : Addr} {vs : List V} {ds : List D} (h : SqL K F1 a vs) (r : Reps K F1 ds vs) : ItD K (Ite K a) (enD ds) F1 := fun i B σ ε tmp H s hS => by
  have hq : SqL K H a vs := (s.trans hS.base).seq h
  refine ⟨fun d e => ?_, fun e => ⟨vs, hq, by rw [r.length, e, en_len]; exact Nat.le_refl _⟩⟩
  obtain ⟨x, ex, rfl⟩ := en_get e
  obtain ⟨v, ev, rv⟩ := r.get' ex
  refine ⟨⟨vs, v, hq, ev⟩, fun x H' y => ?_⟩
  obtain ⟨T, x', rfl, hT, rfl, y⟩ := y
  have := y vs hq
  rw [ev] at this; cases this
  exact hS.pair s hT rep_int rv
theorem itd_enumS {z : Str} : ItD K (ItE z) (enD (chD z)) F1 := fun i B σ ε tmp H s hS => by
  refine ⟨fun d e => ?_, fun e => by show i = z.cps.size; rw [e, en_len, ch_len]⟩
  obtain ⟨x, ex, rfl⟩ := en_get e
  obtain ⟨c, ec, rfl⟩ := ch_get ex
  refine ⟨(Array.getElem?_eq_some_iff.mp ec).1, fun x H' y => ?_⟩
  obtain ⟨T, c', rfl, hT, rfl, ec'⟩ := y
  rw [ec] at ec'; cases ec'
  exact hS.pair s hT rep_int rep_ch
theorem zi_get {xs ys : List D} {i : Nat} {d : D} (e : (ziD xs ys)[i]? = some d) : ∃ x y, xs[i]? = some x ∧ ys[i]? = some y ∧ d = .tup [x, y] := by
  unfold ziD at e
  rw [List.getElem?_map] at e
  cases q : (xs.zip ys)[i]? with
  | none => rw [q] at e; cases e
  | some p =>
    rw [q] at e; cases e
    obtain ⟨h1, h2⟩ := List.getElem?_zip_eq_some.mp q
    exact ⟨_, _, h1, h2, rfl⟩
theorem zi_len (xs ys : List D) : (ziD xs ys).length = min xs.length ys.length := by unfold ziD; simp
theorem itd_zipL {a b : Addr} {vs ws : List V} {ds es : List D} (h : SqL K F1 a vs) (r : Reps K F1 ds vs) (h' : SqL K F1 b ws) (r' : Reps K F1 es ws) : ItD K (Itz K a b) (ziD ds es) F1 := fun i B σ ε tmp H s hS => by
  have hq : SqL K H a vs := (s.trans hS.base).seq h
  have hq' : SqL K H b ws := (s.trans hS.base).seq h'
  refine ⟨fun d e => ?_, fun e => ⟨vs, ws, hq, hq', ?_⟩⟩
  · obtain ⟨x, y, ex, ey, rfl⟩ := zi_get e
    obtain ⟨v, ev, rv⟩ := r.get' ex
    obtain ⟨w, ew, rw'⟩ := r'.get' ey
    refine ⟨⟨vs, ws, v, w, hq, hq', ev, ew⟩, fun x H' y => ?_⟩
    obtain ⟨T, x', y', rfl, hT, rfl, q1, q2⟩ := y
    have := q1 vs hq
    rw [ev] at this; cases this
    have := q2 ws hq'
    rw [ew] at this; cases this
    exact hS.pair s hT rv rw'
  · rw [zi_len] at e
    have := r.length
    have := r'.length
    omega
theorem itd_zipT {a b : Addr} {vs ws : List V} {ds es : List D} (h : SqT K F1 a vs) (r : Reps K F1 ds vs) (h' : SqT K F1 b ws) (r' : Reps K F1 es ws) : ItD K (RZ.ItzT K a b) (ziD ds es) F1 := fun i B σ ε tmp H s hS => by
  have hq : SqT K H a vs := SqT.same (s.trans hS.base) h
  have hq' : SqT K H b ws := SqT.same (s.trans hS.base) h'
  refine ⟨fun d e => ?_, fun e => ⟨vs, ws, hq, hq', ?_⟩⟩
  · obtain ⟨x, y, ex, ey, rfl⟩ := zi_get e
    obtain ⟨v, ev, rv⟩ := r.get' ex
    obtain ⟨w, ew, rw'⟩ := r'.get' ey
    refine ⟨⟨vs, ws, v, w, hq, hq', ev, ew⟩, fun x H' y => ?_⟩
    obtain ⟨T, x', y', rfl, hT, rfl, q1, q2⟩ := y
    have := q1 vs hq
    rw [ev] at this; cases this
    have := q2 ws hq'
    rw [ew] at this; cases this
    exact hS.pair s hT rv rw'
  · rw [zi_len] at e
    have := r.length
    have := r'.length
    omega
theorem itd_range {lo : Int} {n : Nat} : ItD K (Itr lo n) (rgD lo n) F1 := fun i B σ ε tmp H s hS => by
  have hl : (rgD lo n).length = n := by unfold rgD; simp
  refine ⟨fun d e => ?_, fun e => by show n ≤ i; omega⟩
  have hi : i < n := by have := (List.getElem?_eq_some_iff.mp e).1; omega
  refine ⟨hi, fun x H' y => ?_⟩
  obtain ⟨rfl, rfl⟩ := y
  have : d = .int (lo + (i : Nat)) := by
    unfold rgD at e
    rw [List.getElem?_map, List.getElem?_range hi] at e
    cases e; rfl
  subst this
  exact ⟨hS.push fun F => rep_int, Same.refl _⟩
end
/-! ### the rules of iterators -/
section
variable {X : Cx} {E : XK} {pu : Bool} {tg e a b : Expr} {me ma mb : ME} {p pos tpos apos cpos : Pos} {elts : List Expr} {kk : Nat}
theorem si_any (he : SP X E pu e me) : SI X E pu tg e (iAny me) :=
  pi_imp (pi_any he) fun pins s σ H R I ⟨B, ε, tmp, h, w⟩ => gex (wiI tmp R) h w fun r v ε1 H1 h1 w1 => by
    obtain ⟨d, t, w1⟩ := (wiI tmp R).ofO w1
    obtain ⟨F, fp, hF, rr⟩ := h1.datum rfl t
    unfold itemsO at w1
    split at w1
    · obtain ⟨a, vs, rfl, q1, q2⟩ := rep_list (Same.refl F) rr rfl
      exact .inl ⟨a, vs, rfl, hF.sub.seq q1, w1 _ _ F fp hF (itd_list q1 q2) Pq.refl⟩
    · obtain ⟨a, vs, rfl, q1, q2⟩ := rep_list (Same.refl F) rr rfl
      exact .inl ⟨a, vs, rfl, hF.sub.seq q1, w1 _ _ F fp hF (itd_list q1 q2) Pq.refl⟩
    · obtain ⟨a, vs, rfl, q1, q2⟩ := rep_tupl (Same.refl F) rr
      exact .inr (.inl ⟨a, vs, rfl, SqT.same hF.sub q1, w1 _ _ F fp hF (itd_tup q1 q2) Pq.refl⟩)
    · unfold Rep at rr
      obtain ⟨rfl, _⟩ := rr
      exact .inr (.inr (.inl ⟨_, rfl, w1 _ _ F fp hF itd_str Pq.refl⟩))
    · unfold Rep at rr
      obtain ⟨a, ks, rfl, ⟨_, q1⟩, q2⟩ := rr
      obtain ⟨o, q1⟩ := q1 rfl
      exact .inr (.inr (.inr ⟨a, o, ks, rfl, hF.sub _ _ q1, w1 _ _ F fp hF (itd_keys q1 q2) Pq.refl⟩))
    · exact w1.elim
theorem si_enum (hg : Gl X "enumerate") (hm : X.mg "enumerate" = none) (he : SP X E pu e me) (hs : starEach [e] X.env = [(false, eval e X.env)] := by rfl) (hs2 : starEach [e] X.env = (false, eval e X.env) :: starEach [] X.env := by rfl) :
    SI X E pu (.Tuple elts kk tpos) (.Call (.Name "enumerate" p) [e] [] pos) (iEnu me) :=
  pi_imp (pi_enumA hg hm (pa_cons he pa_nil hs2) hs) fun pins s σ H R I ⟨B, ε, tmp, h, w⟩ => gex (wiI tmp R) h w fun r v ε1 H1 h1 w1 => by
    obtain ⟨d, t, w1⟩ := (wiI tmp R).ofO w1
    obtain ⟨F, fp, hF, rr⟩ := h1.datum rfl t
    unfold enumO at w1
    split at w1
    · obtain ⟨a, vs, rfl, q1, q2⟩ := rep_list (Same.refl F) rr rfl
      exact .inl ⟨a, vs, rfl, hF.sub.seq q1, w1 _ _ F fp hF (itd_enumL q1 q2) Pq.refl⟩
    · obtain ⟨a, vs, rfl, q1, q2⟩ := rep_list (Same.refl F) rr rfl
      exact .inl ⟨a, vs, rfl, hF.sub.seq q1, w1 _ _ F fp hF (itd_enumL q1 q2) Pq.refl⟩
    · unfold Rep at rr
      obtain ⟨rfl, _⟩ := rr
      exact .inr ⟨_, rfl, w1 _ _ F fp hF itd_enumS Pq.refl⟩
    · exact w1.elim
theorem si_zip (hg : Gl X "zip") (hm : X.mg "zip" = none) (ha : SP X E pu a ma) (hb : SP X E pu b mb)
    (hs : starEach [a, b] X.env = (false, eval a X.env) :: starEach [b] X.env := by rfl) (hs2 : starEach [b] X.env = (false, eval b X.env) :: starEach [] X.env := by rfl) (hpl : (backTo pos (starEach [b] X.env)).any (·.1) = false := by rfl) :
    SI X E pu (.Tuple elts kk tpos) (.Call (.Name "zip" p) [a, b] [] pos) (iZi ma mb) :=
  pi_imp (RZ.pi_zipA hg hm (pa_cons ha (pa_cons hb pa_nil hs2) hs) hs hpl) fun pins s σ H R I ⟨B, ε, tmp, h, w⟩ => gex (wiI tmp R) h w fun r v ε1 H1 h1 w1 => gex (wiI tmp R) h1 w1 fun r' v' ε2 H2 h2 w2 => by
    obtain ⟨d, t, w2⟩ := (wiI tmp R).ofO w2
    obtain ⟨d', t', w2⟩ := (wiI tmp R).ofO w2
    obtain ⟨F, fp, hF, rr, rr'⟩ := h2.data2 rfl t t'
    unfold zipO at w2
    split at w2
    · obtain ⟨a, vs, rfl, q1, q2⟩ := rep_tupl (Same.refl F) rr
      obtain ⟨a', vs', rfl, q1', q2'⟩ := rep_tupl (Same.refl F) rr'
      exact ⟨a, a', vs, vs', rfl, .inr ⟨SqT.same hF.sub q1, SqT.same hF.sub q1', w2 _ _ F fp hF (itd_zipT q1 q2 q1' q2') Pq.refl⟩⟩
    · split at w2
      · rename_i xs ys e1 e2
        obtain ⟨a, vs, rfl, q1, q2⟩ := rep_list (Same.refl F) rr e1
        obtain ⟨a', vs', rfl, q1', q2'⟩ := rep_list (Same.refl F) rr' e2
        exact ⟨a, a', vs, vs', rfl, .inl ⟨hF.sub.seq q1, hF.sub.seq q1', w2 _ _ F fp hF (itd_zipL q1 q2 q1' q2') Pq.refl⟩⟩
      · exact w2.elim
theorem Wi.lft' {K : Fg} {B : Bs} {σ : L2.St} {ε : Ep} {H : Hp} {α : Type} (w : Wi K E pu B σ α) {o : Ot α} (q : w.W ε H (Dv.lft o ε)) (hne : ∀ x, o ≠ .err x) : ∃ a, o = .ok a ∧ w.W ε H (.ok a ε) := by
  cases o with
  | ok a => exact ⟨a, rfl, q⟩
  | err x => exact absurd rfl (hne x)
  | stuck => exact (w.ws _ _ q).elim
theorem si_rg1 (hg : Gl X "range") (hm : X.mg "range" = none) (ha : SP X E pu a ma) (hs : starEach [a] X.env = [(false, eval a X.env)] := by rfl) (hs2 : starEach [a] X.env = (false, eval a X.env) :: starEach [] X.env := by rfl) :
    SI X E pu tg (.Call (.Name "range" p) [a] [] pos) (iRg1 ma) :=
  pi_imp (pi_range1 hg hm (pa_cons ha pa_nil hs2) hs) fun pins s σ H R I ⟨B, ε, tmp, h, w⟩ => gex (wiI tmp R) h w fun r v ε1 H1 h1 w1 => by
    obtain ⟨d, t, w1⟩ := (wiI tmp R).ofO w1
    obtain ⟨F, fp, hF, rr⟩ := h1.datum rfl t
    obtain ⟨xs, e, w2⟩ := (wiI tmp R).lft' w1 (fun x e => by unfold rg1O at e; repeat' split at e <;> try cases e)
    unfold rg1O at e
    split at e
    · split at e
      · rename_i hc
        cases e
        unfold Rep at rr; subst rr
        have hc' := Bool.and_eq_true_iff.mp hc
        have h1 := of_decide_eq_true hc'.1
        have h2 := of_decide_eq_true hc'.2
        exact ⟨_, rfl, by omega, by omega, w2 _ _ F fp hF itd_range Pq.refl⟩
      · cases e
    · cases e
theorem si_rg2 (hg : Gl X "range") (hm : X.mg "range" = none) (ha : SP X E pu a ma) (hb : SP X E pu b mb) (hs : starEach [a, b] X.env = [(false, eval a X.env), (false, eval b X.env)] := by rfl) (hs2 : starEach [b] X.env = [(false, eval b X.env)] := by rfl)
    (hs3 : starEach [a, b] X.env = (false, eval a X.env) :: starEach [b] X.env := by rfl) (hs4 : starEach [b] X.env = (false, eval b X.env) :: starEach [] X.env := by rfl) :
    SI X E pu tg (.Call (.Name "range" p) [a, b] [] pos) (iRg2 ma mb) :=
  pi_imp (pi_range2 hg hm (pa_cons ha (pa_cons hb pa_nil hs4) hs3) hs hs2) fun pins s σ H R I ⟨B, ε, tmp, h, w⟩ => gex (wiI tmp R) h w fun r v ε1 H1 h1 w1 => gex (wiI tmp R) h1 w1 fun r' v' ε2 H2 h2 w2 => by
    obtain ⟨d, t, w2⟩ := (wiI tmp R).ofO w2
    obtain ⟨d', t', w2⟩ := (wiI tmp R).ofO w2
    obtain ⟨F, fp, hF, rr, rr'⟩ := h2.data2 rfl t t'
    obtain ⟨xs, e, w3⟩ := (wiI tmp R).lft' w2 (fun x e => by unfold rg2O at e; repeat' split at e <;> try cases e)
    unfold rg2O at e
    split at e
    · split at e
      · rename_i hc
        cases e
        unfold Rep at rr rr'; subst rr; subst rr'
        have hc1 := Bool.and_eq_true_iff.mp hc
        have hc2 := Bool.and_eq_true_iff.mp hc1.2
        have hc3 := Bool.and_eq_true_iff.mp hc2.2
        have h1 := of_decide_eq_true hc1.1
        have h2 := of_decide_eq_true hc2.1
        have h3 := of_decide_eq_true hc3.1
        have h4 := of_decide_eq_true hc3.2
        exact ⟨_, _, rfl, ⟨by omega, by omega, by omega, by omega⟩, w3 _ _ F fp hF itd_range Pq.refl⟩
      · cases e
    · cases e
theorem si_vals (he : SP X E pu e me) (hbase : attributeBase e "values" X.env (eval e X.env) = eval e X.env := by rfl) (hline : (apos.endLine == cpos.line) = true := by rfl) : SI X E pu tg (.Call (.Attribute e "values" apos) [] [] cpos) (iVal me) :=
  pi_imp (pi_values he hbase hline) fun pins s σ H R I ⟨B, ε, tmp, h, w⟩ => gex (wiI tmp R) h w fun r v ε1 H1 h1 w1 => by
    obtain ⟨d, t, w1⟩ := (wiI tmp R).ofO w1
    obtain ⟨F, fp, hF, rr⟩ := h1.datum rfl t
    unfold valsO at w1
    split at w1
    · unfold Rep at rr
      obtain ⟨a, ks, rfl, ⟨_, q1⟩, q2⟩ := rr
      obtain ⟨o, q1⟩ := q1 rfl
      exact ⟨a, o, ks, rfl, hF.sub _ _ q1, w1 _ _ F fp hF (itd_vals q1 q2) Pq.refl⟩
    · exact w1.elim
theorem si_items (he : SP X E pu e me) (hbase : attributeBase e "items" X.env (eval e X.env) = eval e X.env := by rfl) (hline : (apos.endLine == cpos.line) = true := by rfl) : SI X E pu (.Tuple elts kk tpos) (.Call (.Attribute e "items" apos) [] [] cpos) (iItm me) :=
  pi_imp (pi_items he hbase hline) fun pins s σ H R I ⟨B, ε, tmp, h, w⟩ => gex (wiI tmp R) h w fun r v ε1 H1 h1 w1 => by
    obtain ⟨d, t, w1⟩ := (wiI tmp R).ofO w1
    obtain ⟨F, fp, hF, rr⟩ := h1.datum rfl t
    unfold itmsO at w1
    split at w1
    · unfold Rep at rr
      obtain ⟨a, ks, rfl, ⟨_, q1⟩, q2⟩ := rr
      obtain ⟨o, q1⟩ := q1 rfl
      exact ⟨a, o, ks, rfl, hF.sub _ _ q1, w1 _ _ F fp hF (itd_items q1 q2) Pq.refl⟩
    · exact w1.elim
end
end Dv

-- Dv11
namespace Dv
open PySem PySem.Spec PyProof.Rows L2

/-! ### targets: a name, a tuple of names -/
inductive Pt where
  | nm (i : Nat)
  | tp (l : List Nat)
def Pt.ix : Pt → List Nat
  | .nm i => [i]
  | .tp l => l
def setAll : Ep → List Nat → List D → Ep
  | ε, i :: l, d :: ds => setAll (ε.set i (.dat d)) l ds
  | ε, _, _ => ε
def bnds (n : Nat) : List Nat → Bool
  | [] => true
  | i :: l => Nat.blt i n && bnds n l
def bindP : Pt → D → M Unit
  | .nm i, d => fun ε => if Nat.blt i ε.length = true then .ok () (ε.set i (.dat d)) else .stuck
  | .tp l, .tup ds => fun ε => if (ds.length == l.length && bnds ε.length l) = true then .ok () (setAll ε l ds) else .stuck
  | .tp _, _ => fun _ => .stuck
def gNs : List Nat → TGs
  | [] => gNil
  | i :: l => gCons (gName i) (gNs l)
def gPt (K : Fg) : Pt → TG
  | .nm i => gName i
  | .tp l => gTup K l.length (gNs l)
/-- σ' is σ but at ix -/
def Wr (ix : List Nat) (σ σ' : L2.St) : Prop := σ'.length = σ.length ∧ ∀ j, j ∉ ix → σ'[j]? = σ[j]?
theorem Wr.refl {ix : List Nat} {σ : L2.St} : Wr ix σ σ := ⟨rfl, fun _ _ => rfl⟩
theorem Wr.trans {ix : List Nat} {σ σ' σ'' : L2.St} (a : Wr ix σ σ') (b : Wr ix σ' σ'') : Wr ix σ σ'' := ⟨b.1.trans a.1, fun j h => (b.2 j h).trans (a.2 j h)⟩
theorem Wr.set {i : Nat} {ix : List Nat} {σ : L2.St} {o : Option V} (h : i ∈ ix) : Wr ix σ (σ.set i o) := ⟨by simp, fun j hj => by
  rw [List.getElem?_set_ne (fun e => hj (by rw [← e]; exact h))]⟩
section
variable {K : Fg} {B : Bs} {F H : Hp} {σ : L2.St} {ε : Ep} {tmp : Tp} {fp : List Addr}
theorem bnds_lt : ∀ {n : Nat} {l : List Nat}, bnds n l = true → ∀ i ∈ l, i < n
  | n, j :: l, h, i, hi => by
    unfold bnds at h
    have h' := Bool.and_eq_true_iff.mp h
    rcases List.mem_cons.mp hi with rfl | hi
    · exact Nat.le_of_ble_eq_true h'.1
    · exact bnds_lt h'.2 i hi
theorem gns_ok : ∀ {l : List Nat} {ds : List D} {vs : List V} {σ : L2.St} {ε : Ep} {fp : List Addr} {Q : L2.St → Hp → Prop} (ix : List Nat), (∀ i ∈ l, i ∈ ix) → ds.length = l.length → Reps K F ds vs → StF K B F H σ ε tmp fp → (∀ i ∈ l, i < ε.length) → (∀ i ∈ l, ∀ x ∈ B.fx, x.1 ≠ i) →
    (∀ σ', Sta K B H σ' (setAll ε l ds) tmp → Wr ix σ σ' → Q σ' H) → gNs l vs σ H Q
  | [], ds, vs, σ, ε, fp, Q, ix, hx, hl, r, h, hb, hf, hq => by
    have : ds = [] := List.eq_nil_of_length_eq_zero hl
    subst this
    unfold Reps at r; subst r
    exact ⟨rfl, hq σ h.sta Wr.refl⟩
  | i :: l, [], vs, σ, ε, fp, Q, ix, hx, hl, r, h, hb, hf, hq => by simp at hl
  | i :: l, d :: ds, vs, σ, ε, fp, Q, ix, hx, hl, r, h, hb, hf, hq => by
    unfold Reps at r
    obtain ⟨v, vs', rfl, r1, r2⟩ := r
    obtain ⟨fp', h'⟩ := (h.push r1).store rfl (hb i List.mem_cons_self) (hf i List.mem_cons_self)
    refine ⟨v, vs', rfl, ?_⟩
    refine gns_ok ix (fun j hj => hx j (List.mem_cons_of_mem _ hj)) (by simpa using hl) r2 h' (fun j hj => by rw [List.length_set]; exact hb j (List.mem_cons_of_mem _ hj)) (fun j hj => hf j (List.mem_cons_of_mem _ hj)) fun σ' hs w => ?_
    exact hq σ' hs ((Wr.set (hx i List.mem_cons_self)).trans w)
theorem gpt_ok {pt : Pt} {v : V} {d : D} {ε' : Ep} {Q : L2.St → Hp → Prop} (h : Sta K B H σ ε ((v, .dat d) :: tmp)) (e : bindP pt d ε = .ok () ε') (hf : ∀ i ∈ pt.ix, ∀ x ∈ B.fx, x.1 ≠ i) (hq : ∀ σ', Sta K B H σ' ε' tmp → Wr pt.ix σ σ' → Q σ' H) : gPt K pt v σ H Q := by
  obtain ⟨F, fp, h⟩ := h
  cases pt with
  | nm i =>
    unfold bindP at e
    simp only at e
    by_cases z : Nat.blt i ε.length = true
    · rw [if_pos z] at e
      cases e
      obtain ⟨fp', h'⟩ := h.store rfl (Nat.le_of_ble_eq_true z) (hf i (List.mem_singleton.mpr rfl))
      exact hq _ h'.sta (Wr.set (List.mem_singleton.mpr rfl))
    · rw [if_neg z] at e; cases e
  | tp l =>
    cases d with
    | tup ds =>
      unfold bindP at e
      simp only at e
      by_cases z : (ds.length == l.length && bnds ε.length l) = true
      · rw [if_pos z] at e
        cases e
        have z' := Bool.and_eq_true_iff.mp z
        obtain ⟨r, h2⟩ := h.datum rfl
        unfold Rep at r
        obtain ⟨a, vs, rfl, r1, r2⟩ := r
        have hl : ds.length = l.length := eq_of_beq z'.1
        exact ⟨a, vs, rfl, SqT.same h2.sub r1, by rw [r2.length]; exact hl, gns_ok l (fun _ h => h) hl r2 h2 (bnds_lt z'.2) hf hq⟩
      · rw [if_neg z] at e; cases e
    | _ => cases e
end
section
variable {X : Cx} {pos : Pos} {x : Str} {i : Nat} {e : Expr} {es : List Expr} {l : List Nat}
theorem gt_nm (hN : X.N.Nodup) (hi : X.N[i]? = some x := by rfl) (hx : Loc X.env.scope x := by first | exact Or.inl rfl | exact Or.inr rfl) (hf : X.fn x = true ∨ X.env.scope.names.lookup x = some .local := by first | exact .inl rfl | exact .inr rfl) : PG X (.Name x pos) (gPt X.K (.nm i)) := pg_name hN hi hx hf
theorem gt_nil : PGs X [] (gNs []) := pgs_nil
theorem gt_cons (h : PG X e (gPt X.K (.nm i))) (hr : PGs X es (gNs l)) (hs : (assignEach (e :: es) X.env).map (·.2) = assign e X.env :: (assignEach es X.env).map (·.2) := by rfl) : PGs X (e :: es) (gNs (i :: l)) := pgs_cons h hr hs
theorem gt_tup {k : Nat} (hc : X.calm = true) (h : PGs X es (gNs l)) (hn : (assignEach es X.env).length = l.length := by rfl) (hst : (assignEach es X.env).findIdx? (·.1) = none := by rfl) : PG X (.Tuple es k pos) (gPt X.K (.tp l)) := pg_tup hc h hn hst
end

/-! ### for -/
def forL (pt : Pt) (body : MS) : List D → MS
  | [] => pr .nx
  | d :: r => bd (bindP pt d) fun _ => bd body fun f => match f with
    | .nx => forL pt body r
    | .ct => forL pt body r
    | .bk => pr .nx
    | .rt v => pr (.rt v)
/-- behind a turn -/
def forK (pt : Pt) (body : MS) (r : List D) : Fl → MS := fun f => match f with
    | .nx => forL pt body r
    | .ct => forL pt body r
    | .bk => pr .nx
    | .rt v => pr (.rt v)
def sFor (mi : MI) (pt : Pt) (body : MS) : MS := bd mi fun items => forL pt body items
theorem bindP_cases (pt : Pt) (d : D) (ε : Ep) : (∃ ε', bindP pt d ε = .ok () ε') ∨ bindP pt d ε = .stuck := by
  cases pt with
  | nm i =>
    unfold bindP
    by_cases z : Nat.blt i ε.length = true
    · exact .inl ⟨_, if_pos z⟩
    · exact .inr (if_neg z)
  | tp l =>
    cases d with
    | tup ds =>
      unfold bindP
      by_cases z : (ds.length == l.length && bnds ε.length l) = true
      · exact .inl ⟨_, if_pos z⟩
      · exact .inr (if_neg z)
    | _ => exact .inr rfl
section
variable {X : Cx} {E : XK} {fi : List Nat} {tg iter c : Expr} {body : List Stmt} {mi : MI} {mb : MS} {tc : MT} {pt : Pt} {pos : Pos}
theorem fx_nes {B : Bs} {l : List Nat} (hx : B.fx.map (·.1) = fi) (hi : (l.all fun i => !fi.contains i) = true) : ∀ i ∈ l, ∀ x ∈ B.fx, x.1 ≠ i := fun i hi' => fx_ne hx (by
  have := List.all_eq_true.mp hi i hi'
  simpa using this)
theorem gS.base {K : Fg} {E : XK} {B : Bs} {F1 H1 : Hp} {σ1 : L2.St} {ε1 : Ep} {tmp : Tp} {fp : List Addr} {D : Ends} {o : Rs Fl} (h : StF K B F1 H1 σ1 ε1 tmp fp) (w : gS K E B tmp D o) : gS K E { B with F0 := F1 } tmp D o := by
  have up : ∀ {H σ ε tmp'}, Sta K { B with F0 := F1 } H σ ε tmp' → Sta K B H σ ε tmp' := fun ⟨F, fp, h'⟩ => ⟨F, fp, h.unbase h'⟩
  cases o with
  | ok f ε =>
    cases f with
    | nx => exact fun σ H h' => w σ H (up h')
    | rt r => exact fun v σ H h' => w v σ H (up h')
    | bk => exact fun σ H h' => w σ H (up h')
    | ct => exact fun σ H h' => w σ H (up h')
  | err x ε => exact fun c dd σ H ⟨F, fp, h', ec, xf⟩ => w c dd σ H ⟨F, fp, h.unbase h', ec, xf⟩
  | stuck => exact w
theorem drop_cons {α : Type} {l : List α} {i : Nat} {d : α} (e : l[i]? = some d) : l.drop i = d :: l.drop (i + 1) := by
  obtain ⟨h, e⟩ := List.getElem?_eq_some_iff.mp e
  rw [← e]; exact List.drop_eq_getElem_cons h
theorem ss_for (hp : PassesOwn (model X.prog X.w) X.A X.env X.xe) (hc : X.calm = true) (hi : SI X E false tg iter mi) (hg : PG X tg (gPt X.K pt)) (hb : SB X E fi body mb) (hfi : (pt.ix.all fun i => !fi.contains i) = true := by rfl)
    (hs : ∀ x, foldedSetIterable iter X.env x = pure x := by intro _; rfl) : SS X E fi (.For tg iter body [] pos) (sFor mi pt mb) :=
  ps_imp (ps_for hp hc hi hg hb hs) fun pins s σ H D I ⟨B, ε, tmp, hfx, h, w⟩ => by
    refine ⟨B, ε, tmp, h, ?_⟩
    unfold sFor bd at w
    cases q : mi ε with
    | err x ε' => rw [q] at w; exact fun c dd H' h' => w c dd σ H' h'
    | stuck => rw [q] at w; exact w
    | ok items ε1 =>
      rw [q] at w
      have w : gS X.K E B tmp D (forL pt mb items ε1) := w
      intro J H1 F1 fp1 h1 it _
      refine ⟨fun i m σ' H' => i ≤ items.length ∧ m = items.length - i ∧ ∃ ε', Sta X.K { B with F0 := F1 } H' σ' ε' tmp ∧ gS X.K E { B with F0 := F1 } tmp D (forL pt mb (items.drop i) ε'), ⟨_, Nat.zero_le _, rfl, ε1, h1.rebase.sta, w.base h1⟩, ?_⟩
      rintro i m σ' H' ⟨hi, rfl, ε', h', w'⟩
      obtain ⟨step, stop⟩ := it i _ _ _ _ _ (Same.refl F1) h'
      by_cases z : i = items.length
      · left
        refine ⟨stop z, ?_⟩
        rw [z, List.drop_length] at w'
        exact w' σ' H' h'
      · right
        have hlt : i < items.length := by omega
        obtain ⟨go, yl⟩ := step _ (List.getElem?_eq_getElem hlt)
        refine ⟨go, fun σ2 H2 => i + 1 ≤ items.length ∧ ∃ ε2, Sta X.K { B with F0 := F1 } H2 σ2 ε2 tmp ∧ gS X.K E { B with F0 := F1 } tmp D (forL pt mb (items.drop (i + 1)) ε2), fun σ2 H2 ⟨a, b⟩ => ⟨_, by omega, a, rfl, b⟩, fun x H2 y => ?_⟩
        obtain ⟨h2, _⟩ := yl x H2 y
        rw [drop_cons (List.getElem?_eq_getElem hlt)] at w'
        unfold forL at w'
        rcases bindP_cases pt items[i] ε' with ⟨ε2, e2⟩ | e2
        · have w2 : gS X.K E { B with F0 := F1 } tmp D (bd mb (forK pt mb (items.drop (i + 1))) ε2) := by
            have w3 := w'
            unfold bd at w3
            rw [e2] at w3
            exact w3
          refine gpt_ok h2 e2 (fx_nes hfx hfi) fun σ2 h3 _ => ?_
          refine ⟨{ B with F0 := F1 }, ε2, tmp, hfx, h3, ?_⟩
          unfold bd at w2
          cases q3 : mb ε2 with
          | err x ε3 => rw [q3] at w2; exact w2
          | stuck => rw [q3] at w2; exact w2
          | ok f ε3 =>
            rw [q3] at w2
            cases f with
            | nx => exact fun σ3 H3 h4 => ⟨by omega, ε3, h4, w2⟩
            | ct => exact fun σ3 H3 h4 => ⟨by omega, ε3, h4, w2⟩
            | bk => exact w2
            | rt r => exact w2
        · have w3 := w'
          unfold bd at w3
          rw [e2] at w3
          exact w3.elim
/-! ### while -/
def whL (t : MT) (body : MS) : Nat → MS
  | 0 => fun _ => .stuck
  | n + 1 => bd t fun b => match b with
    | false => pr .nx
    | true => bd body fun f => match f with
      | .nx => whL t body n
      | .ct => whL t body n
      | .bk => pr .nx
      | .rt v => pr (.rt v)
def whK (t : MT) (body : MS) (n : Nat) : Fl → MS := fun f => match f with
      | .nx => whL t body n
      | .ct => whL t body n
      | .bk => pr .nx
      | .rt v => pr (.rt v)
theorem whL_more (t : MT) (body : MS) : ∀ (n : Nat) (ε : Ep), whL t body n ε ≠ .stuck → whL t body (n + 1) ε = whL t body n ε
  | 0, ε, h => absurd rfl h
  | n + 1, ε, h => by
    have e : ∀ k, whL t body (k + 1) ε = (t ε).bd fun b => match b with
      | false => pr .nx
      | true => bd body fun f => match f with
        | .nx => whL t body k
        | .ct => whL t body k
        | .bk => pr .nx
        | .rt v => pr (.rt v) := fun _ => rfl
    rw [e n] at h
    rw [e (n + 1), e n]
    cases q : t ε with
    | err x ε' => rfl
    | stuck => rfl
    | ok b ε1 =>
      rw [q] at h
      cases b with
      | false => rfl
      | true =>
        have h : (body ε1).bd _ ≠ .stuck := h
        show (body ε1).bd _ = (body ε1).bd _
        cases q2 : body ε1 with
        | err x ε' => rfl
        | stuck => rfl
        | ok f ε2 =>
          rw [q2] at h
          cases f with
          | nx => exact whL_more t body n ε2 h
          | ct => exact whL_more t body n ε2 h
          | bk => rfl
          | rt r => rfl
theorem whL_le (t : MT) (body : MS) {n m : Nat} {ε : Ep} (h : whL t body n ε ≠ .stuck) (hl : n ≤ m) : whL t body m ε = whL t body n ε := by
  induction hl with
  | refl => rfl
  | @step k _ ih =>
    rw [whL_more t body k ε (by rw [ih]; exact h), ih]
open Classical in
noncomputable def sWh (t : MT) (body : MS) : MS := fun ε => if h : ∃ n, whL t body n ε ≠ .stuck then whL t body h.choose ε else .stuck
theorem sWh_eq {t : MT} {body : MS} {ε : Ep} (n : Nat) {o : Rs Fl} (e : whL t body n ε = o) (ho : o ≠ .stuck) : sWh t body ε = o := by
  have h : ∃ n, whL t body n ε ≠ .stuck := ⟨n, by rw [e]; exact ho⟩
  unfold sWh
  rw [dif_pos h]
  rcases Nat.le_total n h.choose with z | z
  · rw [whL_le t body (by rw [e]; exact ho) z, e]
  · rw [← whL_le t body h.choose_spec z, e]
theorem sWh_ex {t : MT} {body : MS} {ε : Ep} (h : sWh t body ε ≠ .stuck) : ∃ n, sWh t body ε = whL t body n ε := by
  by_cases z : ∃ n, whL t body n ε ≠ .stuck
  · exact ⟨z.choose, by unfold sWh; rw [dif_pos z]⟩
  · exact absurd (by unfold sWh; rw [dif_neg z]) h
theorem gS_ne {K : Fg} {E : XK} {B : Bs} {tmp : Tp} {D : Ends} {o : Rs Fl} (w : gS K E B tmp D o) : o ≠ .stuck := fun e => by rw [e] at w; exact w
theorem ss_while (hp : PassesOwn (model X.prog X.w) X.A X.env X.xe) (hc : ST X E false c tc) (hb : SB X E fi body mb) : SS X E fi (.While c body [] pos) (sWh tc mb) :=
  ps_imp (ps_while hp hc hb) fun pins s σ H D I ⟨B, ε, tmp, hfx, h, w⟩ => by
    obtain ⟨n, e⟩ := sWh_ex (gS_ne w)
    rw [e] at w
    refine ⟨fun m σ' H' => ∃ ε', Sta X.K B H' σ' ε' tmp ∧ gS X.K E B tmp D (whL tc mb m ε'), ⟨n, ε, h, w⟩, ?_⟩
    rintro m σ' H' ⟨ε', h', w'⟩
    cases m with
    | zero => exact w'.elim
    | succ m =>
      refine gte (wiS tmp D) h' w' fun b ε2 H2 h2 w2 => ?_
      cases b with
      | false => exact w2 σ' H2 h2
      | true =>
        refine ⟨fun σ3 H3 => ∃ ε3, Sta X.K B H3 σ3 ε3 tmp ∧ gS X.K E B tmp D (whL tc mb m ε3), fun σ3 H3 q => ⟨m, Nat.lt_succ_self m, q⟩, B, ε2, tmp, hfx, h2, ?_⟩
        have w2 : gS X.K E B tmp D (bd mb (whK tc mb m) ε2) := w2
        unfold bd at w2
        cases q3 : mb ε2 with
        | err x ε3 => rw [q3] at w2; exact w2
        | stuck => rw [q3] at w2; exact w2
        | ok f ε3 =>
          rw [q3] at w2
          cases f with
          | nx => exact fun σ3 H3 h4 => ⟨ε3, h4, w2⟩
          | ct => exact fun σ3 H3 h4 => ⟨ε3, h4, w2⟩
          | bk => exact w2
          | rt r => exact w2
end
end Dv

-- Dv12
namespace Dv
open PySem PySem.Spec PyProof.Rows L2

/-! ### a block's own names: their slots are laid aside -/
def wipE (ε : Ep) : List Nat → Ep
  | [] => ε
  | v :: vs => (wipE ε vs).set v .un
def wipM (vs : List Nat) : M Unit := fun ε => .ok () (wipE ε vs)
/-- the slots vs as they were in ε -/
def resE (ε : Ep) : List Nat → Ep → Ep
  | [], ε3 => ε3
  | v :: vs, ε3 => resE ε vs (ε3.set v (ε[v]?.getD .un))
def wip1 (σ : L2.St) (ε : Ep) (v : Nat) : Tp := match σ[v]?, ε[v]? with
  | some (some y), some s => [(y, s)]
  | _, _ => []
def wipT (σ : L2.St) (ε : Ep) : List Nat → Tp
  | [] => []
  | v :: vs => wip1 σ ε v ++ wipT σ ε vs
section
variable {K : Fg} {B : Bs} {F H F' H' : Hp} {σ : L2.St} {ε : Ep} {tmp : Tp} {fp : List Addr}
theorem wipE_len (ε : Ep) : ∀ vs : List Nat, (wipE ε vs).length = ε.length
  | [] => rfl
  | v :: vs => by unfold wipE; rw [List.length_set, wipE_len ε vs]
theorem wipE_out (ε : Ep) : ∀ {vs : List Nat} {j : Nat}, j ∉ vs → (wipE ε vs)[j]? = ε[j]?
  | [], j, _ => rfl
  | v :: vs, j, h => by
    unfold wipE
    rw [List.getElem?_set_ne (fun e => h (by simp [e])), wipE_out ε (fun z => h (by simp [z]))]
theorem wipe_out (σ : L2.St) : ∀ {vs : List Nat} {j : Nat}, j ∉ vs → (wipe σ vs)[j]? = σ[j]?
  | [], j, _ => rfl
  | v :: vs, j, h => by
    unfold wipe
    rw [List.getElem?_set_ne (fun e => h (by simp [e])), wipe_out σ (fun z => h (by simp [z]))]
/-- an empty slot is forgotten -/
theorem StF.forget (h : StF K B F H σ ε tmp fp) (hB : B.fx = []) {i : Nat} (e : ε[i]? = some .un) : StF K B F H (σ.set i none) ε tmp fp := by
  obtain ⟨o, ft, f1, f, f2, e1, rfl, h3, h4, h5, h6⟩ := h.slot e
  have hf : f = [] := by
    cases o with
    | none => exact h4.2
    | some v =>
      have h4 : Own K F H .un v f := h4
      unfold Own at h4; exact h4
  subst hf
  have hz : i < (σ.zip ε).length := by
    have := h.len
    have := (List.getElem?_eq_some_iff.mp e1).1
    simp; omega
  have hε : ε.set i .un = ε := by
    obtain ⟨hi, ev⟩ := List.getElem?_eq_some_iff.mp e
    rw [← ev]; exact List.set_getElem_self hi
  refine h.rebuild (Same.refl F) h.sub (fun _ _ q _ => q) (fun q o z => ⟨o, z⟩) (fun p o q => .inl q) (by simpa using h.len) ?_ h.nd h.out (fun p hp => .inl hp) (fun x hx => by rw [hB] at hx; cases hx)
  show OwnL K F H (tmp.map (fun t => (some t.1, t.2)) ++ (σ.set i none).zip ε) _
  have hzs : (σ.set i none).zip ε = (σ.zip ε).set i (none, .un) := by rw [← zip_set, hε]
  rw [hzs]
  exact OwnL.join h3 (OwnL.put hz h5 ⟨rfl, rfl⟩ h6)
theorem StF.wipe1 (h : StF K B F H σ ε tmp fp) (hB : B.fx = []) {v : Nat} (hv : v < σ.length) : ∃ fp', StF K B F H (σ.set v none) (ε.set v .un) (wip1 σ ε v ++ tmp) fp' := by
  have hv' : v < ε.length := by rw [← h.len]; exact hv
  have e : ε[v]? = some ε[v] := List.getElem?_eq_getElem hv'
  have es : σ[v]? = some σ[v] := List.getElem?_eq_getElem hv
  have eu : (ε.set v .un)[v]? = some .un := List.getElem?_set_self hv'
  unfold wip1
  rw [e, es]
  cases q : σ[v] with
  | some y =>
    rw [q] at es
    obtain ⟨fp', h'⟩ := h.take e es
    exact ⟨fp', h'.forget hB eu⟩
  | none =>
    rw [q] at es
    obtain ⟨o, ft, f1, f, f2, e1, _, _, h4, _, _⟩ := h.slot e
    rw [es] at e1; cases e1
    have e2 : ε.set v .un = ε := by
      rw [← h4.1]; exact List.set_getElem_self hv'
    rw [e2]
    exact ⟨fp, h.forget hB (by rw [e, h4.1])⟩
theorem StF.wipes : ∀ {vs : List Nat}, StF K B F H σ ε tmp fp → B.fx = [] → vs.Nodup → (∀ v ∈ vs, v < σ.length) → ∃ fp', StF K B F H (wipe σ vs) (wipE ε vs) (wipT σ ε vs ++ tmp) fp'
  | [], h, hB, nd, hb => ⟨fp, h⟩
  | v :: vs, h, hB, nd, hb => by
    obtain ⟨n1, n2⟩ := List.nodup_cons.mp nd
    obtain ⟨fp1, h1⟩ := StF.wipes h hB n2 fun v hv => hb v (List.mem_cons_of_mem _ hv)
    obtain ⟨fp2, h2⟩ := h1.wipe1 hB (v := v) (by rw [wipe_length]; exact hb v List.mem_cons_self)
    refine ⟨fp2, ?_⟩
    have e : wip1 (wipe σ vs) (wipE ε vs) v = wip1 σ ε v := by
      unfold wip1
      rw [wipe_out σ n1, wipE_out ε n1]
    rw [e] at h2
    show StF K B F H ((wipe σ vs).set v none) ((wipE ε vs).set v .un) ((wip1 σ ε v ++ wipT σ ε vs) ++ tmp) fp2
    rw [List.append_assoc]; exact h2
theorem set_at {α : Type} {l : List α} {i : Nat} {a : α} (e : l[i]? = some a) : l.set i a = l := by
  obtain ⟨hi, ev⟩ := List.getElem?_eq_some_iff.mp e
  rw [← ev]; exact List.set_getElem_self hi
theorem StF.un_of_none (h : StF K B F H σ ε tmp fp) {v : Nat} (e : σ[v]? = some none) : ε[v]? = some .un := by
  have hv := (List.getElem?_eq_some_iff.mp e).1
  have hv' : v < ε.length := by rw [← h.len]; exact hv
  have e0 : ε[v]? = some ε[v] := List.getElem?_eq_getElem hv'
  obtain ⟨o, ft, f1, f, f2, e1, _, _, h4, _, _⟩ := h.slot e0
  rw [e] at e1; cases e1
  rw [e0, h4.1]
/-- swap the two last -/
theorem StF.swap {a b : V × SV} (h : StF K B F H σ ε (a :: b :: tmp) fp) : ∃ fp', StF K B F H σ ε (b :: a :: tmp) fp' := by
  obtain ⟨f1, r, rfl, h1, h2⟩ := h.own
  obtain ⟨f2, f3, rfl, h3, h4⟩ := h2
  have pm : (f2 ++ (f1 ++ f3)).Perm (f1 ++ (f2 ++ f3)) := List.perm_append_comm_assoc f2 f1 f3
  exact ⟨f2 ++ (f1 ++ f3), { h with own := ⟨f2, f1 ++ f3, rfl, h3, f1, f3, rfl, h1, h4⟩, nd := pm.nodup_iff.mpr h.nd, out := fun p hp => h.out p (pm.subset hp), old := fun p hp => h.old p (pm.subset hp) }⟩
theorem StF.unwipe1 {σ' : L2.St} {ε3 : Ep} {x : V × SV} {v : Nat} (hB : B.fx = []) (hv : v < σ'.length) (e : σ'[v]? = σ[v]?) (he : v < ε.length) (h : StF K B F' H' (σ'.set v none) ε3 (x :: (wip1 σ ε v ++ tmp)) fp) (h0 : σ[v]? = some none → ε[v]? = some .un) :
    ∃ fp', StF K B F' H' σ' (ε3.set v (ε[v]?.getD .un)) (x :: tmp) fp' := by
  have es : σ'[v]? = some σ'[v] := List.getElem?_eq_getElem hv
  have ee : ε[v]? = some ε[v] := List.getElem?_eq_getElem he
  have en : (σ'.set v none)[v]? = some none := List.getElem?_set_self hv
  have hu := h.un_of_none en
  unfold wip1 at h
  rw [← e, es, ee] at h
  cases q : σ'[v] with
  | none =>
    rw [q] at h es
    have hs : σ'.set v none = σ' := set_at es
    have e3 : ε[v]?.getD .un = .un := by rw [h0 (by rw [← e, es])]; rfl
    rw [e3, set_at hu]
    rw [hs] at h
    exact ⟨fp, h⟩
  | some y =>
    rw [q] at h es
    obtain ⟨fp1, h1⟩ := StF.swap (show StF K B F' H' (σ'.set v none) ε3 (x :: (y, ε[v]) :: tmp) fp from h)
    obtain ⟨fp2, h2⟩ := h1.store rfl (i := v) (by rw [← h.len]; simpa using hv) (fun z hz => by rw [hB] at hz; cases hz)
    rw [List.set_set, set_at es] at h2
    rw [ee]
    exact ⟨fp2, h2⟩
theorem StF.unwipes {x : V × SV} (hB : B.fx = []) (h0 : ∀ v : Nat, σ[v]? = some none → ε[v]? = some SV.un) (hl : σ.length = ε.length) : ∀ {vs : List Nat} {ε3 : Ep} {fp : List Addr}, vs.Nodup → (∀ v ∈ vs, v < σ.length) → StF K B F' H' (wipe σ vs) ε3 (x :: (wipT σ ε vs ++ tmp)) fp → ∃ fp', StF K B F' H' σ (resE ε vs ε3) (x :: tmp) fp'
  | [], ε3, fp, nd, hb, h => ⟨fp, h⟩
  | v :: vs, ε3, fp, nd, hb, h => by
    obtain ⟨n1, n2⟩ := List.nodup_cons.mp nd
    have hv := hb v List.mem_cons_self
    have h' : StF K B F' H' ((wipe σ vs).set v none) ε3 (x :: (wip1 σ ε v ++ (wipT σ ε vs ++ tmp))) fp := by
      have := h
      unfold wipT at this
      rw [List.append_assoc] at this; exact this
    obtain ⟨fp1, h1⟩ := StF.unwipe1 hB (by rw [wipe_length]; exact hv) (wipe_out σ n1) (by rw [← hl]; exact hv) h' (h0 v)
    show ∃ fp', StF K B F' H' σ (resE ε vs (ε3.set v (ε[v]?.getD .un))) (x :: tmp) fp'
    exact StF.unwipes hB h0 hl n2 (fun w hw => hb w (List.mem_cons_of_mem _ hw)) h1
/-- a ground without slots that keep their objects -/
theorem StF.nofx (h : StF K B F H σ ε tmp fp) : StF K { B with fx := [] } F H σ ε tmp fp := { h with fix := fun x hx => by cases hx }
theorem StF.refx (h0 : ∀ x ∈ B.fx, σ[x.1]? = some (some (.ref x.2))) (h : StF K { B with fx := [] } F H σ ε tmp fp) : StF K B F H σ ε tmp fp := { h with fix := h0 }
end
theorem wipe_wr {vs ix : List Nat} {σ σ' : L2.St} (w : Wr ix σ σ') (h : ∀ i ∈ ix, i ∈ vs) : wipe σ' vs = wipe σ vs := by
  apply List.ext_getElem?
  intro j
  by_cases hj : j ∈ vs
  · have key : ∀ (τ : L2.St) (vs : List Nat), j ∈ vs → (wipe τ vs)[j]? = if j < τ.length then some none else none := by
      intro τ vs
      induction vs with
      | nil => intro h; cases h
      | cons v vs ih =>
        intro h
        unfold wipe
        by_cases e : v = j
        · subst e
          by_cases z : v < τ.length
          · rw [if_pos z, List.getElem?_set_self (by rw [wipe_length]; exact z)]
          · rw [if_neg z]
            exact List.getElem?_eq_none (by rw [List.length_set, wipe_length]; omega)
        · rw [List.getElem?_set_ne e]
          exact ih (by simpa [Ne.symm e] using h)
    rw [key σ' vs hj, key σ vs hj, w.1]
  · rw [wipe_out σ' hj, wipe_out σ hj]
    exact w.2 j fun z => hj (h j z)

/-! ### list comprehensions -/
def lcL (pt : Pt) (mt : MT) (me : ME) (vs : List Nat) : List D → List D → M (List D)
  | [], acc => pr acc
  | d :: r, acc => bd (bindP pt d) fun _ => bd mt fun b => match b with
    | true => bd me fun x => bd (lft (ofO x.toD)) fun dx => bd (wipM vs) fun _ => lcL pt mt me vs r (acc ++ [dx])
    | false => bd (wipM vs) fun _ => lcL pt mt me vs r acc
def lcK (pt : Pt) (mt : MT) (me : ME) (vs : List Nat) (r acc : List D) : Bool → M (List D) := fun b => match b with
    | true => bd me fun x => bd (lft (ofO x.toD)) fun dx => bd (wipM vs) fun _ => lcL pt mt me vs r (acc ++ [dx])
    | false => bd (wipM vs) fun _ => lcL pt mt me vs r acc
/-- at the end of a comprehension -/
def lcR (ε1 : Ep) (vs : List Nat) : Rs (List D) → Rs SV
  | .ok acc ε2 => .ok (.ol acc) (resE ε1 vs ε2)
  | _ => .stuck
def cLc (mi : MI) (pt : Pt) (mt : MT) (me : ME) (vs : List Nat) : ME := bd mi fun items => fun ε1 => if Nat.ble items.length 16777216 = true then lcR ε1 vs (lcL pt mt me vs items [] (wipE ε1 vs)) else .stuck
abbrev E0 : XK := fun _ _ _ => False
section
variable {K : Fg} {E : XK} {pu : Bool} {B : Bs} {σ : L2.St} {ε : Ep} {tmp : Tp} {H H' : Hp} {α : Type}
/-- the same, with what is known of purity -/
theorem gexq (w : Wi K E pu B σ α) {m : ME} {k : SV → M α} (h : Sta K B H σ ε tmp) (q : w.W ε H (bd m k ε)) {Q' : VK}
    (hk : ∀ r v ε' H', Sta K B H' σ ε' ((v, r) :: tmp) → Pq pu ε H ε' H' → w.W ε' H' (k r ε') → Q' v H') : tP K E pu m σ H Q' := by
  refine ⟨B, ε, tmp, h, ?_⟩
  unfold bd at q
  cases e : m ε with
  | ok r ε' => rw [e] at q; exact fun v H' h' p => hk r v ε' H' h' p (w.wq _ _ _ _ _ p q)
  | err x ε' => rw [e] at q; exact w.we _ _ _ _ q
  | stuck => rw [e] at q; exact (w.ws _ _ q).elim
theorem gteq (w : Wi K E pu B σ α) {m : MT} {k : Bool → M α} (h : Sta K B H σ ε tmp) (q : w.W ε H (bd m k ε)) {Q' : Bool → Hp → Prop}
    (hk : ∀ b ε' H', Sta K B H' σ ε' tmp → Pq pu ε H ε' H' → w.W ε' H' (k b ε') → Q' b H') : tT K E pu m σ H Q' := by
  refine ⟨B, ε, tmp, h, ?_⟩
  unfold bd at q
  cases e : m ε with
  | ok r ε' => rw [e] at q; exact fun H' h' p => hk r ε' H' h' p (w.wq _ _ _ _ _ p q)
  | err x ε' => rw [e] at q; exact w.we _ _ _ _ q
  | stuck => rw [e] at q; exact (w.ws _ _ q).elim
/-- the wish of a block: f of the list at the end -/
def wiB (f : List D → Ep → Prop) : Wi K E0 pu B σ (List D) where
  W := fun _ _ o => match o with
    | .ok acc ε => f acc ε
    | _ => False
  we := fun _ _ _ _ w => w.elim
  ws := fun _ _ w => w
  wq := fun _ _ _ _ o _ w => by cases o <;> exact w
end
theorem wipE_idem (ε : Ep) (vs : List Nat) : wipE (wipE ε vs) vs = wipE ε vs := by
  apply List.ext_getElem?
  intro j
  by_cases hj : j ∈ vs
  · have key : ∀ (τ : Ep) (vs : List Nat), j ∈ vs → (wipE τ vs)[j]? = if j < τ.length then some .un else none := by
      intro τ vs
      induction vs with
      | nil => intro h; cases h
      | cons v vs ih =>
        intro h
        unfold wipE
        by_cases e : v = j
        · subst e
          by_cases z : v < τ.length
          · rw [if_pos z, List.getElem?_set_self (by rw [wipE_len]; exact z)]
          · rw [if_neg z]
            exact List.getElem?_eq_none (by rw [List.length_set, wipE_len]; omega)
        · rw [List.getElem?_set_ne e]
          exact ih (by simpa [Ne.symm e] using h)
    rw [key _ vs hj, key ε vs hj, wipE_len]
  · rw [wipE_out _ hj]
theorem wipE_eq {vs : List Nat} {ε ε' : Ep} (hl : ε'.length = ε.length) (h : ∀ j, j ∉ vs → ε'[j]? = ε[j]?) : wipE ε' vs = wipE ε vs := by
  apply List.ext_getElem?
  intro j
  by_cases hj : j ∈ vs
  · have key : ∀ (τ : Ep) (vs : List Nat), j ∈ vs → (wipE τ vs)[j]? = if j < τ.length then some .un else none := by
      intro τ vs
      induction vs with
      | nil => intro h; cases h
      | cons v vs ih =>
        intro h
        unfold wipE
        by_cases e : v = j
        · subst e
          by_cases z : v < τ.length
          · rw [if_pos z, List.getElem?_set_self (by rw [wipE_len]; exact z)]
          · rw [if_neg z]
            exact List.getElem?_eq_none (by rw [List.length_set, wipE_len]; omega)
        · rw [List.getElem?_set_ne e]
          exact ih (by simpa [Ne.symm e] using h)
    rw [key ε' vs hj, key ε vs hj, hl]
  · rw [wipE_out _ hj, wipE_out _ hj, h j hj]
theorem setAll_out : ∀ {l : List Nat} {ds : List D} {ε : Ep}, (setAll ε l ds).length = ε.length ∧ ∀ j, j ∉ l → (setAll ε l ds)[j]? = ε[j]?
  | [], ds, ε => by unfold setAll; exact ⟨rfl, fun _ _ => rfl⟩
  | i :: l, [], ε => by unfold setAll; exact ⟨rfl, fun _ _ => rfl⟩
  | i :: l, d :: ds, ε => by
    unfold setAll
    obtain ⟨h1, h2⟩ := setAll_out (l := l) (ds := ds) (ε := ε.set i (.dat d))
    refine ⟨by rw [h1, List.length_set], fun j hj => ?_⟩
    rw [h2 j (fun z => hj (by simp [z])), List.getElem?_set_ne (fun e => hj (by simp [e]))]
theorem bindP_out {pt : Pt} {d : D} {ε ε' : Ep} (e : bindP pt d ε = .ok () ε') : ε'.length = ε.length ∧ ∀ j, j ∉ pt.ix → ε'[j]? = ε[j]? := by
  cases pt with
  | nm i =>
    unfold bindP at e
    simp only at e
    split at e
    · cases e
      exact ⟨by simp, fun j hj => List.getElem?_set_ne (fun z => hj (by simp [Pt.ix, z]))⟩
    · cases e
  | tp l =>
    cases d with
    | tup ds =>
      unfold bindP at e
      simp only at e
      split at e
      · cases e; exact setAll_out
      · cases e
    | _ => cases e
theorem resE_self {ε : Ep} : ∀ {vs : List Nat}, vs.Nodup → (∀ v ∈ vs, v < ε.length) → ∀ {ε3 : Ep}, (∀ j, j ∉ vs → ε3[j]? = ε[j]?) → ε3.length = ε.length → resE ε vs ε3 = ε
  | [], _, _, ε3, h, hl => by
    unfold resE
    exact List.ext_getElem? fun j => h j (by simp)
  | v :: vs, nd, hb, ε3, h, hl => by
    obtain ⟨n1, n2⟩ := List.nodup_cons.mp nd
    unfold resE
    refine resE_self n2 (fun w hw => hb w (List.mem_cons_of_mem _ hw)) (fun j hj => ?_) (by rw [List.length_set, hl])
    by_cases e : v = j
    · subst e
      have hv := hb v List.mem_cons_self
      rw [List.getElem?_set_self (by rw [hl]; exact hv), List.getElem?_eq_getElem hv]; rfl
    · rw [List.getElem?_set_ne e]
      exact h j (by simp [Ne.symm e, hj])
section
variable {X : Cx} {E : XK} {pu : Bool} {elt tg iter : Expr} {ifs : List Expr} {scope : Scope} {own : List (Str × Nat)} {pos : Pos} {mi : MI} {pt : Pt} {mt : MT} {me : ME}
/-- the tests of a clause, on data -/
def STs (X : Cx) (pu : Bool) (ifs : List Expr) (mt : MT) : Prop := PTs X ifs (tT X.K E0 pu mt)
theorem sts_nil : STs X pu [] (pr true) := ⟨fun pins s σ H Q I ⟨B, ε, tmp, h, w⟩ => pts_nil.run pins s σ H Q I (w H h Pq.refl)⟩
theorem sts_one {c : Expr} (h : ST X E0 pu c mt) : STs X pu [c] mt := pts_one h
theorem bd_ok {α β : Type} {m : M α} {k : α → M β} {ε ε' : Ep} {a : α} (e : m ε = .ok a ε') : bd m k ε = k a ε' := by unfold bd; rw [e]; rfl
theorem bd_st {α β : Type} {m : M α} {k : α → M β} {ε : Ep} (e : m ε = .stuck) : bd m k ε = .stuck := by unfold bd; rw [e]; rfl
/-- the list laid aside last is changed -/
theorem StF.grow {K : Fg} {B : Bs} {F H : Hp} {σ : L2.St} {ε : Ep} {tmp : Tp} {fp : List Addr} {q : Addr} {xs ys : List D} {ws : List V} (h : StF K B F H σ ε ((.ref q, .ol xs) :: tmp) fp) (r : Reps K F ys ws) : StF K B F (upd H q (.lst ws)) σ ε ((.ref q, .ol ys) :: tmp) fp := by
  obtain ⟨f1, f2, rfl, o, h2⟩ := h.own
  have o' : Own K F H (.ol xs) (.ref q) f1 := o
  unfold Own at o'
  obtain ⟨q', vs, e, rfl, hq, _⟩ := o'
  cases e
  have nd := List.nodup_cons.mp (show (q :: f2).Nodup from h.nd)
  have hF : F q = none := h.out q (by simp)
  refine h.rebuild (Same.refl F) (fun b w z => ?_) (fun b w z hb => ?_) (fun b w z => ?_) (fun p o z => .inl z) h.len ?_ h.nd h.out (fun p hp => .inl hp) h.fix
  · rw [upd_ne (ne_of_none z hF)]; exact h.sub _ _ z
  · rw [upd_ne (fun e => hb (by simp [e]))]; exact z
  · by_cases y : b = q
    · subst y; exact ⟨_, upd_same⟩
    · exact ⟨w, by rw [upd_ne y]; exact z⟩
  · refine ⟨[q], f2, rfl, ?_, h2.mono (Same.refl F) fun p hp => upd_ne fun e => nd.1 (e ▸ hp)⟩
    show Own K F _ (.ol ys) (.ref q) [q]
    unfold Own
    exact ⟨q, ws, rfl, rfl, upd_same, r⟩
theorem lc_wish {K : Fg} {B : Bs} {σ : L2.St} {ε : Ep} {tmp : Tp} {H : Hp} {Q : VK} {vs : List Nat} (nd : vs.Nodup) (hb : ∀ v ∈ vs, v < σ.length) (hsub : ∀ i ∈ pt.ix, i ∈ vs) (h : Sta K B H σ ε tmp) (w : gP K E pu B σ tmp Q ε H (cLc mi pt mt me vs ε)) :
    tLc (tI K E pu mi) (gPt K pt) (tT K E0 pu mt) (tP K E0 pu me) vs σ H Q := by
    refine ⟨B, ε, tmp, h, ?_⟩
    unfold cLc bd at w
    cases q : mi ε with
    | err x ε' => rw [q] at w; exact w
    | stuck => rw [q] at w; exact w
    | ok items ε1 =>
      rw [q] at w
      have w : gP K E pu B σ tmp Q ε H (if Nat.ble items.length 16777216 = true then lcR ε1 vs (lcL pt mt me vs items [] (wipE ε1 vs)) else .stuck) := w
      by_cases hz : Nat.ble items.length 16777216 = true
      · rw [if_pos hz] at w
        have hz' : items.length ≤ 16777216 := Nat.le_of_ble_eq_true hz
        intro J H1 F1 fp1 h1 it p1 D hD
        -- the ground of the block
        have hl1 : σ.length = ε1.length := h1.len
        have hun : ∀ v : Nat, σ[v]? = some none → ε1[v]? = some SV.un := fun v e => h1.un_of_none e
        obtain ⟨fp2, h2⟩ := (h1.rebase.nofx).wipes (vs := vs) rfl nd hb
        have h3 := h2.owned (s := .ol []) (o := .lst []) hD (by unfold Own; exact ⟨D, [], rfl, rfl, upd_same, .nil⟩)
        generalize hB2 : ({ { B with F0 := F1 } with fx := [] } : Bs) = B2 at h2 h3
        have hB2F : B2.F0 = F1 := by rw [← hB2]
        have hB2x : B2.fx = [] := by rw [← hB2]
        obtain ⟨f, hf⟩ : ∃ f : List Dv.D → Ep → Prop, f = fun acc ε3 => lcL pt mt me vs items [] (wipE ε1 vs) = .ok acc ε3 := ⟨_, rfl⟩
        -- what is to be shown at the end
        have fin : ∀ acc ε3 H', f acc ε3 → Sta K B2 H' (wipe σ vs) ε3 ((.ref D, .ol acc) :: (wipT σ ε1 vs ++ tmp)) → (pu = true → ε3 = wipE ε1 vs ∧ Same H1 H') → Q (.ref D) H' := by
          intro acc ε3 H' e hS pq
          rw [hf] at e
          rw [e] at w
          obtain ⟨F3, fp3, hS⟩ := hS
          subst hB2
          obtain ⟨fp4, h4⟩ := hS.unwipes (x := (.ref D, .ol acc)) rfl hun hl1 nd hb
          have h5 := h1.unbase (StF.refx h1.fix h4)
          refine w (.ref D) H' h5.sta fun z => ?_
          obtain ⟨e3, s3⟩ := pq z
          refine ⟨?_, (p1 z).2.trans s3⟩
          rw [← (p1 z).1]
          exact resE_self nd (fun v hv => by rw [← hl1]; exact hb v hv) (fun j hj => by rw [e3]; exact wipE_out ε1 hj) (by rw [e3, wipE_len])
        have wne : (wiB (K := K) (pu := pu) (B := B2) (σ := wipe σ vs) f).W ε1 H1 (lcL pt mt me vs items [] (wipE ε1 vs)) := by
          rw [hf]
          cases e : lcL pt mt me vs items [] (wipE ε1 vs) with
          | ok acc ε3 => rfl
          | err x ε' => rw [e] at w; exact w
          | stuck => rw [e] at w; exact w
        refine ⟨fun i m H' => i ≤ items.length ∧ m = items.length - i ∧ ∃ acc ε2, acc.length ≤ i ∧ Sta K B2 H' (wipe σ vs) ε2 ((.ref D, .ol acc) :: (wipT σ ε1 vs ++ tmp)) ∧ (pu = true → ε2 = wipE ε1 vs ∧ Same H1 H') ∧
          (wiB (K := K) (pu := pu) (B := B2) (σ := wipe σ vs) f).W ε2 H' (lcL pt mt me vs (items.drop i) acc ε2), ⟨_, Nat.zero_le _, rfl, [], _, Nat.le_refl _, h3.sta, fun _ => ⟨rfl, same_upd hD⟩, wne⟩, ?_⟩
        rintro i m H' ⟨hi, rfl, acc, ε2, hacc, h', pq, eq⟩
        obtain ⟨step, stop⟩ := it i _ _ _ _ _ (by rw [hB2F]; exact Same.refl F1) h'
        by_cases z : i = items.length
        · left
          refine ⟨stop z, ?_⟩
          rw [z, List.drop_length] at eq
          exact fin acc ε2 H' eq h' pq
        · right
          have hlt : i < items.length := by omega
          obtain ⟨go, yl⟩ := step _ (List.getElem?_eq_getElem hlt)
          refine ⟨go, fun H2 => i + 1 ≤ items.length ∧ ∃ acc ε2, acc.length ≤ i + 1 ∧ Sta K B2 H2 (wipe σ vs) ε2 ((.ref D, .ol acc) :: (wipT σ ε1 vs ++ tmp)) ∧ (pu = true → ε2 = wipE ε1 vs ∧ Same H1 H2) ∧
            (wiB (K := K) (pu := pu) (B := B2) (σ := wipe σ vs) f).W ε2 H2 (lcL pt mt me vs (items.drop (i + 1)) acc ε2), fun H2 ⟨a, b⟩ => ⟨_, by omega, a, rfl, b⟩, fun x H2 y => ?_⟩
          obtain ⟨hx, sx⟩ := yl x H2 y
          rw [drop_cons (List.getElem?_eq_getElem hlt)] at eq
          -- behind a turn: the targets are forgotten
          have clean : ∀ {σ2 : L2.St} {ε4 : Ep} {t : Tp} {H4 : Hp}, wipe σ2 vs = wipe σ vs → σ2.length = σ.length → Sta K B2 H4 σ2 ε4 t → ∃ t', Sta K B2 H4 (wipe σ vs) (wipE ε4 vs) (t' ++ t) := by
            intro σ2 ε4 t H4 e hl ⟨F4, fp4, h4⟩
            obtain ⟨fp5, h5⟩ := h4.wipes (vs := vs) hB2x nd (fun v hv => by rw [hl]; exact hb v hv)
            rw [e] at h5
            exact ⟨_, F4, fp5, h5⟩
          rcases bindP_cases pt items[i] ε2 with ⟨ε4, e4⟩ | e4
          · have eq2 : (wiB (K := K) (pu := pu) (B := B2) (σ := wipe σ vs) f).W ε4 H2 (bd mt (lcK pt mt me vs (items.drop (i + 1)) acc) ε4) := by
              have e5 : lcL pt mt me vs (items[i] :: items.drop (i + 1)) acc ε2 = bd mt (lcK pt mt me vs (items.drop (i + 1)) acc) ε4 := bd_ok e4
              rw [e5] at eq
              exact eq
            refine gpt_ok hx e4 (fun i _ z hz => by rw [hB2x] at hz; cases hz) fun σ2 h4 wr => ?_
            have hw : wipe σ2 vs = wipe σ vs := by
              rw [wipe_wr wr hsub]
              apply List.ext_getElem?
              intro j
              by_cases hj : j ∈ vs
              · have key : ∀ (τ : L2.St) (vs : List Nat), j ∈ vs → (wipe τ vs)[j]? = if j < τ.length then some none else none := by
                  intro τ vs
                  induction vs with
                  | nil => intro h; cases h
                  | cons v vs ih =>
                    intro h
                    unfold wipe
                    by_cases e : v = j
                    · subst e
                      by_cases z : v < τ.length
                      · rw [if_pos z, List.getElem?_set_self (by rw [wipe_length]; exact z)]
                      · rw [if_neg z]
                        exact List.getElem?_eq_none (by rw [List.length_set, wipe_length]; omega)
                    · rw [List.getElem?_set_ne e]
                      exact ih (by simpa [Ne.symm e] using h)
                rw [key _ vs hj, key σ vs hj, wipe_length]
              · rw [wipe_out _ hj]
            have hl2 : σ2.length = σ.length := by rw [wr.1, wipe_length]
            refine ⟨hw, ?_⟩
            have b4 := bindP_out e4
            have w4 : pu = true → wipE ε4 vs = wipE ε1 vs := fun z => by
              rw [wipE_eq b4.1 (fun j hj => b4.2 j (fun hj' => hj (hsub j hj'))), (pq z).1, wipE_idem]
            refine gteq (wiB _) h4 eq2 fun b ε5 H5 h5 p5 eq3 => ?_
            cases b with
            | false =>
              rw [if_neg (by decide)]
              obtain ⟨t', h6⟩ := clean hw hl2 h5
              refine ⟨by omega, acc, wipE ε5 vs, by omega, h6.subT (List.sublist_append_right t' _), fun z => ?_, eq3⟩
              rw [(p5 z).1]
              exact ⟨w4 z, (pq z).2.trans (sx.trans (p5 z).2)⟩
            | true =>
              rw [if_pos rfl]
              refine gexq (wiB _) h5 eq3 fun r v ε6 H6 h6 p6 eq4 => ?_
              obtain ⟨dx, tx, eq5⟩ := (wiB _).ofO eq4
              obtain ⟨F7, fp7, h7, rx⟩ := h6.datum rfl tx
              obtain ⟨f1, f2, e7, o7, h8⟩ := h7.pop rfl
              have o7' : Own K F7 H6 (.ol acc) (.ref D) f1 := o7
              unfold Own at o7'
              obtain ⟨D', vs', eD, rfl, hD6, ra⟩ := o7'
              cases eD
              refine ⟨vs', hD6, ?_, ?_⟩
              · have := ra.length
                rw [sizeLine_eq]; omega
              · have h9 := h7.grow (ys := acc ++ [dx]) (ws := vs' ++ [v]) (ra.append (.one rx))
                obtain ⟨t', h10⟩ := clean hw hl2 h9.sta
                refine ⟨by omega, acc ++ [dx], wipE ε6 vs, by simp; omega, h10.subT (List.sublist_append_right t' _), fun z => ?_, eq5⟩
                have hDn : H1 D = none := hD
                rw [(p6 z).1, (p5 z).1]
                refine ⟨w4 z, fun b o q => ?_⟩
                have hne : b ≠ D := fun e => by rw [e, hDn] at q; cases q
                rw [upd_ne hne]
                exact (p6 z).2 _ _ ((p5 z).2 _ _ (sx _ _ ((pq z).2 _ _ q)))
          · have e5 : lcL pt mt me vs (items[i] :: items.drop (i + 1)) acc ε2 = .stuck := bd_st e4
            rw [e5] at eq
            exact eq.elim
      · rw [if_neg hz] at w; exact w.elim
theorem sp_lc (hc : X.calm = true) (hN : X.N.Nodup) (hi : SI X E pu tg iter mi) (ok : BlkOk X.N X.env.scope scope own)
    (hg : ∀ (s : Shared) (H : Hp) (C : Addr) (cl : List (Str × Addr)) (fp : List Addr), PG (X.blk s H scope (compEnvC scope cl C X.env) fp) tg (gPt X.K pt))
    (ht : ∀ (s : Shared) (H : Hp) (C : Addr) (cl : List (Str × Addr)) (fp : List Addr), STs (X.blk s H scope (compEnvC scope cl C X.env) fp) pu ifs mt)
    (he : ∀ (s : Shared) (H : Hp) (C : Addr) (cl : List (Str × Addr)) (fp : List Addr), SP (X.blk s H scope (compEnvC scope cl C X.env) fp) E0 pu elt me)
    (nd : (own.map (·.2)).Nodup := by decide) (sub : (pt.ix.all fun i => (own.map (·.2)).contains i) = true := by rfl)
    (hs : ∀ x, foldedSetIterable iter X.env x = pure x := by intro _; rfl) :
    SP X E pu (.ListComp elt [⟨tg, iter, ifs, 0⟩] scope pos) (cLc mi pt mt me (own.map (·.2))) :=
  pe_imp (pe_lc (tt := tT X.K E0 pu mt) (te := tP X.K E0 pu me) hc hN hi ok hg ht he hs) fun pins s σ H Q I ⟨B, ε, tmp, h, w⟩ => by
    refine lc_wish nd (fun v hv => ?_) (fun i hi => ?_) h w
    · obtain ⟨p, hp, rfl⟩ := List.mem_map.mp hv
      have := (List.getElem?_eq_some_iff.mp (ok.ix p hp)).1
      rw [I.len]; exact this
    · have := List.all_eq_true.mp sub i hi
      simpa using this
end

/-! ### dict comprehensions -/
theorem setD_len (kvs : List (Key × D)) (k : Key) (d : D) : (setD kvs k d).length ≤ kvs.length + 1 := by
  unfold setD
  split
  · simp
  · simp
theorem StF.growD {K : Fg} {B : Bs} {F H : Hp} {σ : L2.St} {ε : Ep} {tmp : Tp} {fp : List Addr} {q : Addr} {xs ys : List (Key × D)} {ws : List (Key × V)} (h : StF K B F H σ ε ((.ref q, .od xs) :: tmp) fp) (r : RepK K F ys ws) : StF K B F (upd H q (.dK ws)) σ ε ((.ref q, .od ys) :: tmp) fp := by
  obtain ⟨f1, f2, rfl, o, h2⟩ := h.own
  have o' : Own K F H (.od xs) (.ref q) f1 := o
  unfold Own at o'
  obtain ⟨q', vs, e, rfl, hq, _⟩ := o'
  cases e
  have nd := List.nodup_cons.mp (show (q :: f2).Nodup from h.nd)
  have hF : F q = none := h.out q (by simp)
  refine h.rebuild (Same.refl F) (fun b w z => ?_) (fun b w z hb => ?_) (fun b w z => ?_) (fun p o z => .inl z) h.len ?_ h.nd h.out (fun p hp => .inl hp) h.fix
  · rw [upd_ne (ne_of_none z hF)]; exact h.sub _ _ z
  · rw [upd_ne (fun e => hb (by simp [e]))]; exact z
  · by_cases y : b = q
    · subst y; exact ⟨_, upd_same⟩
    · exact ⟨w, by rw [upd_ne y]; exact z⟩
  · refine ⟨[q], f2, rfl, ?_, h2.mono (Same.refl F) fun p hp => upd_ne fun e => nd.1 (e ▸ hp)⟩
    show Own K F _ (.od ys) (.ref q) [q]
    unfold Own
    exact ⟨q, ws, rfl, rfl, upd_same, r⟩
def dcL (pt : Pt) (mt : MT) (mk me : ME) (vs : List Nat) : List D → List (Key × D) → M (List (Key × D))
  | [], acc => pr acc
  | d :: r, acc => bd (bindP pt d) fun _ => bd mt fun b => match b with
    | true => bd mk fun y => bd (lft (ofO (y.toD.bind keyOf?))) fun k => bd me fun x => bd (lft (ofO x.toD)) fun dx => bd (wipM vs) fun _ => dcL pt mt mk me vs r (setD acc k dx)
    | false => bd (wipM vs) fun _ => dcL pt mt mk me vs r acc
def dcK (pt : Pt) (mt : MT) (mk me : ME) (vs : List Nat) (r : List D) (acc : List (Key × D)) : Bool → M (List (Key × D)) := fun b => match b with
    | true => bd mk fun y => bd (lft (ofO (y.toD.bind keyOf?))) fun k => bd me fun x => bd (lft (ofO x.toD)) fun dx => bd (wipM vs) fun _ => dcL pt mt mk me vs r (setD acc k dx)
    | false => bd (wipM vs) fun _ => dcL pt mt mk me vs r acc
def dcR (ε1 : Ep) (vs : List Nat) : Rs (List (Key × D)) → Rs SV
  | .ok acc ε2 => .ok (.od acc) (resE ε1 vs ε2)
  | _ => .stuck
def cDc (mi : MI) (pt : Pt) (mt : MT) (mk me : ME) (vs : List Nat) : ME := bd mi fun items => fun ε1 => if Nat.ble items.length 16777216 = true then dcR ε1 vs (dcL pt mt mk me vs items [] (wipE ε1 vs)) else .stuck
def wiBd {K : Fg} {pu : Bool} {B : Bs} {σ : L2.St} (f : List (Key × D) → Ep → Prop) : Wi K E0 pu B σ (List (Key × D)) where
  W := fun _ _ o => match o with
    | .ok acc ε => f acc ε
    | _ => False
  we := fun _ _ _ _ w => w.elim
  ws := fun _ _ w => w
  wq := fun _ _ _ _ o _ w => by cases o <;> exact w
section
variable {X : Cx} {E : XK} {pu : Bool} {kx vx tg iter : Expr} {ifs : List Expr} {scope : Scope} {own : List (Str × Nat)} {pos : Pos} {mi : MI} {pt : Pt} {mt : MT} {mk me : ME}
theorem dc_wish {K : Fg} {B : Bs} {σ : L2.St} {ε : Ep} {tmp : Tp} {H : Hp} {Q : VK} {vs : List Nat} (nd : vs.Nodup) (hb : ∀ v ∈ vs, v < σ.length) (hsub : ∀ i ∈ pt.ix, i ∈ vs) (h : Sta K B H σ ε tmp) (w : gP K E pu B σ tmp Q ε H (cDc mi pt mt mk me vs ε)) :
    tDc (tI K E pu mi) (gPt K pt) (tT K E0 pu mt) (tP K E0 pu mk) (tP K E0 pu me) vs σ H Q := by
    refine ⟨B, ε, tmp, h, ?_⟩
    unfold cDc bd at w
    cases q : mi ε with
    | err x ε' => rw [q] at w; exact w
    | stuck => rw [q] at w; exact w
    | ok items ε1 =>
      rw [q] at w
      have w : gP K E pu B σ tmp Q ε H (if Nat.ble items.length 16777216 = true then dcR ε1 vs (dcL pt mt mk me vs items [] (wipE ε1 vs)) else .stuck) := w
      by_cases hz : Nat.ble items.length 16777216 = true
      · rw [if_pos hz] at w
        have hz' : items.length ≤ 16777216 := Nat.le_of_ble_eq_true hz
        intro J H1 F1 fp1 h1 it p1 D hD
        -- the ground of the block
        have hl1 : σ.length = ε1.length := h1.len
        have hun : ∀ v : Nat, σ[v]? = some none → ε1[v]? = some SV.un := fun v e => h1.un_of_none e
        obtain ⟨fp2, h2⟩ := (h1.rebase.nofx).wipes (vs := vs) rfl nd hb
        have h3 := h2.owned (s := .od []) (o := .dK []) hD (by unfold Own; exact ⟨D, [], rfl, rfl, upd_same, .nil⟩)
        generalize hB2 : ({ { B with F0 := F1 } with fx := [] } : Bs) = B2 at h2 h3
        have hB2F : B2.F0 = F1 := by rw [← hB2]
        have hB2x : B2.fx = [] := by rw [← hB2]
        obtain ⟨f, hf⟩ : ∃ f : List (Key × Dv.D) → Ep → Prop, f = fun acc ε3 => dcL pt mt mk me vs items [] (wipE ε1 vs) = .ok acc ε3 := ⟨_, rfl⟩
        -- what is to be shown at the end
        have fin : ∀ acc ε3 H', f acc ε3 → Sta K B2 H' (wipe σ vs) ε3 ((.ref D, .od acc) :: (wipT σ ε1 vs ++ tmp)) → (pu = true → ε3 = wipE ε1 vs ∧ Same H1 H') → Q (.ref D) H' := by
          intro acc ε3 H' e hS pq
          rw [hf] at e
          rw [e] at w
          obtain ⟨F3, fp3, hS⟩ := hS
          subst hB2
          obtain ⟨fp4, h4⟩ := hS.unwipes (x := (.ref D, .od acc)) rfl hun hl1 nd hb
          have h5 := h1.unbase (StF.refx h1.fix h4)
          refine w (.ref D) H' h5.sta fun z => ?_
          obtain ⟨e3, s3⟩ := pq z
          refine ⟨?_, (p1 z).2.trans s3⟩
          rw [← (p1 z).1]
          exact resE_self nd (fun v hv => by rw [← hl1]; exact hb v hv) (fun j hj => by rw [e3]; exact wipE_out ε1 hj) (by rw [e3, wipE_len])
        have wne : (wiBd (K := K) (pu := pu) (B := B2) (σ := wipe σ vs) f).W ε1 H1 (dcL pt mt mk me vs items [] (wipE ε1 vs)) := by
          rw [hf]
          cases e : dcL pt mt mk me vs items [] (wipE ε1 vs) with
          | ok acc ε3 => rfl
          | err x ε' => rw [e] at w; exact w
          | stuck => rw [e] at w; exact w
        refine ⟨fun i m H' => i ≤ items.length ∧ m = items.length - i ∧ ∃ acc ε2, acc.length ≤ i ∧ Sta K B2 H' (wipe σ vs) ε2 ((.ref D, .od acc) :: (wipT σ ε1 vs ++ tmp)) ∧ (pu = true → ε2 = wipE ε1 vs ∧ Same H1 H') ∧
          (wiBd (K := K) (pu := pu) (B := B2) (σ := wipe σ vs) f).W ε2 H' (dcL pt mt mk me vs (items.drop i) acc ε2), ⟨_, Nat.zero_le _, rfl, [], _, Nat.le_refl _, h3.sta, fun _ => ⟨rfl, same_upd hD⟩, wne⟩, ?_⟩
        rintro i m H' ⟨hi, rfl, acc, ε2, hacc, h', pq, eq⟩
        obtain ⟨step, stop⟩ := it i _ _ _ _ _ (by rw [hB2F]; exact Same.refl F1) h'
        by_cases z : i = items.length
        · left
          refine ⟨stop z, ?_⟩
          rw [z, List.drop_length] at eq
          exact fin acc ε2 H' eq h' pq
        · right
          have hlt : i < items.length := by omega
          obtain ⟨go, yl⟩ := step _ (List.getElem?_eq_getElem hlt)
          refine ⟨go, fun H2 => i + 1 ≤ items.length ∧ ∃ acc ε2, acc.length ≤ i + 1 ∧ Sta K B2 H2 (wipe σ vs) ε2 ((.ref D, .od acc) :: (wipT σ ε1 vs ++ tmp)) ∧ (pu = true → ε2 = wipE ε1 vs ∧ Same H1 H2) ∧
            (wiBd (K := K) (pu := pu) (B := B2) (σ := wipe σ vs) f).W ε2 H2 (dcL pt mt mk me vs (items.drop (i + 1)) acc ε2), fun H2 ⟨a, b⟩ => ⟨_, by omega, a, rfl, b⟩, fun x H2 y => ?_⟩
          obtain ⟨hx, sx⟩ := yl x H2 y
          rw [drop_cons (List.getElem?_eq_getElem hlt)] at eq
          -- behind a turn: the targets are forgotten
          have clean : ∀ {σ2 : L2.St} {ε4 : Ep} {t : Tp} {H4 : Hp}, wipe σ2 vs = wipe σ vs → σ2.length = σ.length → Sta K B2 H4 σ2 ε4 t → ∃ t', Sta K B2 H4 (wipe σ vs) (wipE ε4 vs) (t' ++ t) := by
            intro σ2 ε4 t H4 e hl ⟨F4, fp4, h4⟩
            obtain ⟨fp5, h5⟩ := h4.wipes (vs := vs) hB2x nd (fun v hv => by rw [hl]; exact hb v hv)
            rw [e] at h5
            exact ⟨_, F4, fp5, h5⟩
          rcases bindP_cases pt items[i] ε2 with ⟨ε4, e4⟩ | e4
          · have eq2 : (wiBd (K := K) (pu := pu) (B := B2) (σ := wipe σ vs) f).W ε4 H2 (bd mt (dcK pt mt mk me vs (items.drop (i + 1)) acc) ε4) := by
              have e5 : dcL pt mt mk me vs (items[i] :: items.drop (i + 1)) acc ε2 = bd mt (dcK pt mt mk me vs (items.drop (i + 1)) acc) ε4 := bd_ok e4
              rw [e5] at eq
              exact eq
            refine gpt_ok hx e4 (fun i _ z hz => by rw [hB2x] at hz; cases hz) fun σ2 h4 wr => ?_
            have hw : wipe σ2 vs = wipe σ vs := by
              rw [wipe_wr wr hsub]
              apply List.ext_getElem?
              intro j
              by_cases hj : j ∈ vs
              · have key : ∀ (τ : L2.St) (vs : List Nat), j ∈ vs → (wipe τ vs)[j]? = if j < τ.length then some none else none := by
                  intro τ vs
                  induction vs with
                  | nil => intro h; cases h
                  | cons v vs ih =>
                    intro h
                    unfold wipe
                    by_cases e : v = j
                    · subst e
                      by_cases z : v < τ.length
                      · rw [if_pos z, List.getElem?_set_self (by rw [wipe_length]; exact z)]
                      · rw [if_neg z]
                        exact List.getElem?_eq_none (by rw [List.length_set, wipe_length]; omega)
                    · rw [List.getElem?_set_ne e]
                      exact ih (by simpa [Ne.symm e] using h)
                rw [key _ vs hj, key σ vs hj, wipe_length]
              · rw [wipe_out _ hj]
            have hl2 : σ2.length = σ.length := by rw [wr.1, wipe_length]
            refine ⟨hw, ?_⟩
            have b4 := bindP_out e4
            have w4 : pu = true → wipE ε4 vs = wipE ε1 vs := fun z => by
              rw [wipE_eq b4.1 (fun j hj => b4.2 j (fun hj' => hj (hsub j hj'))), (pq z).1, wipE_idem]
            refine gteq (wiBd _) h4 eq2 fun b ε5 H5 h5 p5 eq3 => ?_
            cases b with
            | false =>
              rw [if_neg (by decide)]
              obtain ⟨t', h6⟩ := clean hw hl2 h5
              refine ⟨by omega, acc, wipE ε5 vs, by omega, h6.subT (List.sublist_append_right t' _), fun z => ?_, eq3⟩
              rw [(p5 z).1]
              exact ⟨w4 z, (pq z).2.trans (sx.trans (p5 z).2)⟩
            | true =>
              rw [if_pos rfl]
              refine gexq (wiBd _) h5 eq3 fun rk y ε6 H6 h6 p6 eq4 => ?_
              obtain ⟨k, tk, eq5⟩ := (wiBd _).ofO eq4
              obtain ⟨rfl, ko, h6⟩ := h6.key tk
              refine gexq (wiBd _) h6 eq5 fun r v ε7 H7 h7 p7 eq6 => ?_
              obtain ⟨dx, tx, eq7⟩ := (wiBd _).ofO eq6
              obtain ⟨F7, fp7, h7, rx⟩ := h7.datum rfl tx
              obtain ⟨f1, f2, e7, o7, h8⟩ := h7.pop rfl
              have o7' : Own K F7 H7 (.od acc) (.ref D) f1 := o7
              unfold Own at o7'
              obtain ⟨D', vs', eD, rfl, hD6, ra⟩ := o7'
              cases eD
              refine ⟨vs', k, rfl, hD6, ?_, ?_⟩
              · have := ra.length
                rw [sizeLine_eq]; omega
              · have h9 := h7.growD (ys := setD acc k dx) (ws := putK vs' k v) (ra.put ko rx)
                obtain ⟨t', h10⟩ := clean hw hl2 h9.sta
                refine ⟨by omega, setD acc k dx, wipE ε7 vs, Nat.le_trans (setD_len acc k dx) (by omega), h10.subT (List.sublist_append_right t' _), fun z => ?_, eq7⟩
                have hDn : H1 D = none := hD
                rw [(p7 z).1, (p6 z).1, (p5 z).1]
                refine ⟨w4 z, fun b o q => ?_⟩
                have hne : b ≠ D := fun e => by rw [e, hDn] at q; cases q
                rw [upd_ne hne]
                exact (p7 z).2 _ _ ((p6 z).2 _ _ ((p5 z).2 _ _ (sx _ _ ((pq z).2 _ _ q))))
          · have e5 : dcL pt mt mk me vs (items[i] :: items.drop (i + 1)) acc ε2 = .stuck := bd_st e4
            rw [e5] at eq
            exact eq.elim
      · rw [if_neg hz] at w; exact w.elim
theorem sp_dc (hc : X.calm = true) (hN : X.N.Nodup) (hi : SI X E pu tg iter mi) (ok : BlkOk X.N X.env.scope scope own)
    (hg : ∀ (s : Shared) (H : Hp) (C : Addr) (cl : List (Str × Addr)) (fp : List Addr), PG (X.blk s H scope (compEnvC scope cl C X.env) fp) tg (gPt X.K pt))
    (ht : ∀ (s : Shared) (H : Hp) (C : Addr) (cl : List (Str × Addr)) (fp : List Addr), STs (X.blk s H scope (compEnvC scope cl C X.env) fp) pu ifs mt)
    (hk : ∀ (s : Shared) (H : Hp) (C : Addr) (cl : List (Str × Addr)) (fp : List Addr), SP (X.blk s H scope (compEnvC scope cl C X.env) fp) E0 pu kx mk)
    (he : ∀ (s : Shared) (H : Hp) (C : Addr) (cl : List (Str × Addr)) (fp : List Addr), SP (X.blk s H scope (compEnvC scope cl C X.env) fp) E0 pu vx me)
    (nd : (own.map (·.2)).Nodup := by decide) (sub : (pt.ix.all fun i => (own.map (·.2)).contains i) = true := by rfl)
    (hs : ∀ x, foldedSetIterable iter X.env x = pure x := by intro _; rfl) :
    SP X E pu (.DictComp kx vx [⟨tg, iter, ifs, 0⟩] scope pos) (cDc mi pt mt mk me (own.map (·.2))) :=
  pe_imp (pe_dc (tt := tT X.K E0 pu mt) (tk := tP X.K E0 pu mk) (tv := tP X.K E0 pu me) hc hN hi ok hg ht hk he hs) fun pins s σ H Q I ⟨B, ε, tmp, h, w⟩ => by
    refine dc_wish nd (fun v hv => ?_) (fun i hi => ?_) h w
    · obtain ⟨p, hp, rfl⟩ := List.mem_map.mp hv
      have := (List.getElem?_eq_some_iff.mp (ok.ix p hp)).1
      rw [I.len]; exact this
    · have := List.all_eq_true.mp sub i hi
      simpa using this
/-- name = [..] on one line -/
theorem ss_setLc {elt : Expr} {fi : List Nat} {i : Nat} {y : Str} {py spos : Pos} (hc : X.calm = true) (hN : X.N.Nodup) (hi : SI X E false tg iter mi) (ok : BlkOk X.N X.env.scope scope own)
    (hg : ∀ (s : Shared) (H : Hp) (C : Addr) (cl : List (Str × Addr)) (fp : List Addr), PG (X.blk s H scope (compEnvC scope cl C X.env) fp) tg (gPt X.K pt))
    (ht : ∀ (s : Shared) (H : Hp) (C : Addr) (cl : List (Str × Addr)) (fp : List Addr), STs (X.blk s H scope (compEnvC scope cl C X.env) fp) false ifs mt)
    (he : ∀ (s : Shared) (H : Hp) (C : Addr) (cl : List (Str × Addr)) (fp : List Addr), SP (X.blk s H scope (compEnvC scope cl C X.env) fp) E0 false elt me)
    (nd : (own.map (·.2)).Nodup := by decide) (sub : (pt.ix.all fun i => (own.map (·.2)).contains i) = true := by rfl)
    (hy : X.N[i]? = some y := by rfl) (hyl : X.env.scope.names.lookup y = some .local := by rfl) (hfi : fi.contains i = false := by rfl)
    (hsw : swapsWith (.ListComp elt [⟨tg, iter, ifs, 0⟩] scope pos) (some (.Name y py)) spos.line X.env = pure true := by exact sw_true rfl rfl rfl rfl)
    (hs : ∀ x, foldedSetIterable iter X.env x = pure x := by intro _; rfl) :
    SS X E fi (.Assign [.Name y py] (.ListComp elt [⟨tg, iter, ifs, 0⟩] scope pos) spos) (sSet i (cLc mi pt mt me (own.map (·.2)))) :=
  ps_imp (ps_setLc (tt := tT X.K E0 false mt) (te := tP X.K E0 false me) hc hN hy hyl hsw hi ok hg ht he hs) fun pins s σ H D I ⟨B, ε, tmp, hfx, h, w⟩ => by
    obtain ⟨B', ε', tmp', h', w'⟩ := gex (wiS tmp D) (Q' := fun x H1 => gName i x σ H1 D.nx) h w fun r v ε' H' h' w' => by
      exact w' _ H' (h'.store (by
        have := h'.len
        have := (List.getElem?_eq_some_iff.mp hy).1
        have := I.len
        omega) (fx_ne hfx hfi))
    refine lc_wish nd (fun v hv => ?_) (fun i hi => ?_) h' w'
    · obtain ⟨p, hp, rfl⟩ := List.mem_map.mp hv
      have := (List.getElem?_eq_some_iff.mp (ok.ix p hp)).1
      rw [I.len]; exact this
    · have := List.all_eq_true.mp sub i hi
      simpa using this
end
end Dv

-- Dv13
namespace Dv
open PySem PySem.Spec PyProof.Rows L2

/-! ### ahead of a suite: a slot's thing is frozen -/
theorem sb_fz {X : Cx} {E : XK} {fi : List Nat} {b : List Stmt} {m : MS} (i : Nat) (h : SB X E fi b m) : SB X E fi b (bd (fzS i) fun _ => m) :=
  pss_imp h fun pins s σ H D I ⟨B, ε, tmp, hfx, hs, w⟩ => by
    unfold bd at w
    rcases fzS_ok (i := i) hs with z | ⟨d, v, z, e1, h'⟩
    · rw [z] at w; exact w.elim
    · rw [z] at w
      exact ⟨B, _, tmp, hfx, h'.pop rfl, w⟩

/-! ### a, b, .. = .. -/
def setV : L2.St → List Nat → List V → L2.St
  | σ, i :: l, v :: vs => setV (σ.set i (some v)) l vs
  | σ, _, _ => σ
def setE : Ep → List Nat → List SV → Ep
  | ε, i :: l, r :: rs => setE (ε.set i r) l rs
  | ε, _, _ => ε
theorem setV_comm {i : Nat} {o : Option V} : ∀ {l : List Nat} {vs : List V} {σ : L2.St}, i ∉ l → setV (σ.set i o) l vs = (setV σ l vs).set i o
  | [], vs, σ, h => by unfold setV; rfl
  | j :: l, [], σ, h => by unfold setV; rfl
  | j :: l, v :: vs, σ, h => by
    unfold setV
    rw [List.set_comm _ _ (fun e => h (by simp [e])), setV_comm (fun z => h (by simp [z]))]
theorem setE_comm {i : Nat} {o : SV} : ∀ {l : List Nat} {vs : List SV} {σ : Ep}, i ∉ l → setE (σ.set i o) l vs = (setE σ l vs).set i o
  | [], vs, σ, h => by unfold setE; rfl
  | j :: l, [], σ, h => by unfold setE; rfl
  | j :: l, v :: vs, σ, h => by
    unfold setE
    rw [List.set_comm _ _ (fun e => h (by simp [e])), setE_comm (fun z => h (by simp [z]))]
theorem setE_len : ∀ {l : List Nat} {vs : List SV} {σ : Ep}, (setE σ l vs).length = σ.length
  | [], vs, σ => by unfold setE; rfl
  | j :: l, [], σ => by unfold setE; rfl
  | j :: l, v :: vs, σ => by unfold setE; rw [setE_len, List.length_set]
section
variable {K : Fg} {B : Bs} {F H : Hp}
theorem StF.stores : ∀ {l : List Nat} {vs : List V} {rs : List SV} {σ : L2.St} {ε : Ep} {tmp : Tp} {fp : List Addr}, StF K B F H σ ε (zipR vs rs ++ tmp) fp → vs.length = rs.length → l.length = rs.length → l.Nodup → (∀ i ∈ l, i < ε.length) → (∀ i ∈ l, ∀ x ∈ B.fx, x.1 ≠ i) →
    ∃ fp', StF K B F H (setV σ l vs) (setE ε l rs) tmp fp'
  | [], [], [], σ, ε, tmp, fp, h, _, _, _, _, _ => ⟨fp, h⟩
  | i :: l, v :: vs, r :: rs, σ, ε, tmp, fp, h, hl, hl', nd, hb, hx => by
    obtain ⟨n1, n2⟩ := List.nodup_cons.mp nd
    have h' : StF K B F H σ ε (zipR vs rs ++ ((v, r) :: tmp)) fp := by
      have := h
      simp only [zipR, List.append_assoc, List.singleton_append] at this
      exact this
    obtain ⟨fp1, h1⟩ := StF.stores h' (by simpa using hl) (by simpa using hl') n2 (fun j hj => hb j (List.mem_cons_of_mem _ hj)) (fun j hj => hx j (List.mem_cons_of_mem _ hj))
    obtain ⟨fp2, h2⟩ := h1.store rfl (i := i) (by rw [setE_len]; exact hb i List.mem_cons_self) (hx i List.mem_cons_self)
    refine ⟨fp2, ?_⟩
    show StF K B F H (setV (σ.set i (some v)) l vs) (setE (ε.set i r) l rs) tmp fp2
    rw [setV_comm n1, setE_comm n1]
    exact h2
  | [], [], _ :: _, _, _, _, _, _, hl, _, _, _, _ => by simp at hl
  | [], _ :: _, [], _, _, _, _, _, hl, _, _, _, _ => by simp at hl
  | [], _ :: _, _ :: _, _, _, _, _, _, _, hl, _, _, _ => by simp at hl
  | _ :: _, [], [], _, _, _, _, _, _, hl, _, _, _ => by simp at hl
  | _ :: _, [], _ :: _, _, _, _, _, _, hl, _, _, _, _ => by simp at hl
  | _ :: _, _ :: _, [], _, _, _, _, _, hl, _, _, _, _ => by simp at hl
end
def sPar (l : List Nat) (m : MA) : MS := bd m fun rs => fun ε => if (rs.length == l.length && bnds ε.length l) = true then .ok .nx (setE ε l rs) else .stuck
theorem gns_set : ∀ {l : List Nat} {vs : List V} {σ : L2.St} {H : Hp} {Q : L2.St → Hp → Prop}, vs.length = l.length → Q (setV σ l vs) H → gNs l vs σ H Q
  | [], [], σ, H, Q, _, h => ⟨rfl, h⟩
  | i :: l, v :: vs, σ, H, Q, hl, h => ⟨v, vs, rfl, gns_set (by simpa using hl) h⟩
  | [], _ :: _, _, _, _, hl, _ => by simp at hl
  | _ :: _, [], _, _, _, hl, _ => by simp at hl
section
variable {X : Cx} {E : XK} {fi : List Nat} {e a b c : Expr} {es : List Expr} {me : ME} {mm : MA} {pos pt px py pz : Pos} {x y z : Str} {i j k : Nat} {l : List Nat}
theorem sp_wish {K : Fg} {B : Bs} {σ : L2.St} {ε : Ep} {tmp : Tp} {H : Hp} {D : Ends} (hfx : B.fx.map (·.1) = fi) (hfi : (l.all fun i => !fi.contains i) = true) (nd : l.Nodup) (h : Sta K B H σ ε tmp) (w : gS K E B tmp D (sPar l mm ε)) {Q' : List V → Hp → Prop}
    (hq : ∀ vs H', vs.length = l.length → (∃ ε' rs, Sta K B H' σ ε' (zipR vs rs ++ tmp)) → D.nx (setV σ l vs) H' → Q' vs H') : tA K E false mm σ H Q' :=
  gar (wiS tmp D) h w fun rs vs ε' H' hl h' w' => by
    have w' : gS K E B tmp D (if (rs.length == l.length && bnds ε'.length l) = true then .ok .nx (setE ε' l rs) else .stuck) := w'
    by_cases z : (rs.length == l.length && bnds ε'.length l) = true
    · rw [if_pos z] at w'
      have z' := Bool.and_eq_true_iff.mp z
      have hl2 : rs.length = l.length := eq_of_beq z'.1
      refine hq vs H' (by rw [hl, hl2]) ⟨ε', rs, h'⟩ ?_
      obtain ⟨F, fp, h'⟩ := h'
      obtain ⟨fp', h2⟩ := h'.stores hl hl2.symm nd (bnds_lt z'.2) (fx_nes hfx hfi)
      exact w' _ _ h2.sta
    · rw [if_neg z] at w'; exact w'.elim
theorem ss_par2 {kt k2 : Nat} {pt2 : Pos} (hc : X.calm = true) (hN : X.N.Nodup) (ha : SA X E false [a, b] mm) (hi : X.N[i]? = some x := by rfl) (hj : X.N[j]? = some y := by rfl)
    (hx : X.env.scope.names.lookup x = some .local := by rfl) (hy : X.env.scope.names.lookup y = some .local := by rfl) (nd : [i, j].Nodup := by decide) (hfi : ([i, j].all fun i => !fi.contains i) = true := by rfl)
    (hw : swappedStores [.Tuple [.Name x px, .Name y py] kt pt] (.Tuple [a, b] k2 pt2) X.env = pure (some [x, y]) := by rfl)
    (hs : swapsWithSole [.Tuple [.Name x px, .Name y py] kt pt] (.Tuple [a, b] k2 pt2) pos.line X.env = pure false := by rfl) :
    SS X E fi (.Assign [.Tuple [.Name x px, .Name y py] kt pt] (.Tuple [a, b] k2 pt2) pos) (sPar [i, j] mm) :=
  ps_imp (ps_par hc hN hi hj (fun e => by simp [e] at nd) hx hy ha hw hs) fun pins s σ H D I ⟨B, ε, tmp, hfx, h, w⟩ => sp_wish hfx hfi nd h w fun vs H' hl _ q => by
    match vs, hl with
    | [v, w], _ => exact ⟨v, w, rfl, q⟩
theorem ss_par3 {kt k2 : Nat} {pt2 : Pos} (hc : X.calm = true) (hN : X.N.Nodup) (ha : SA X E false [a, b, c] mm) (hi : X.N[i]? = some x := by rfl) (hj : X.N[j]? = some y := by rfl) (hk : X.N[k]? = some z := by rfl)
    (hx : X.env.scope.names.lookup x = some .local := by rfl) (hy : X.env.scope.names.lookup y = some .local := by rfl) (hz : X.env.scope.names.lookup z = some .local := by rfl) (nd : [i, j, k].Nodup := by decide) (hfi : ([i, j, k].all fun i => !fi.contains i) = true := by rfl)
    (hw : swappedStores [.Tuple [.Name x px, .Name y py, .Name z pz] kt pt] (.Tuple [a, b, c] k2 pt2) X.env = pure (some [x, y, z]) := by rfl)
    (hs : swapsWithSole [.Tuple [.Name x px, .Name y py, .Name z pz] kt pt] (.Tuple [a, b, c] k2 pt2) pos.line X.env = pure false := by rfl) :
    SS X E fi (.Assign [.Tuple [.Name x px, .Name y py, .Name z pz] kt pt] (.Tuple [a, b, c] k2 pt2) pos) (sPar [i, j, k] mm) :=
  ps_imp (ps_par3 hc hN hi hj hk (fun e => by simp [e] at nd) (fun e => by simp [e] at nd) (fun e => by simp [e] at nd) hx hy hz ha hw hs) fun pins s σ H D I ⟨B, ε, tmp, hfx, h, w⟩ => sp_wish hfx hfi nd h w fun vs H' hl _ q => by
    match vs, hl with
    | [u, v, w], _ => exact ⟨u, v, w, rfl, q⟩
/-- the tuple is laid, then taken apart -/
theorem ss_parN {ts : List Expr} {kt k2 : Nat} {pt2 : Pos} (hc : X.calm = true) (ha : SA X E false es mm) (hg : PGs X ts (gNs l)) (nd : l.Nodup := by decide) (hfi : (l.all fun i => !fi.contains i) = true := by rfl) (hsz : l.length ≤ sizeLine := by decide)
    (hn : (assignEach ts X.env).length = l.length := by rfl) (hst : (assignEach ts X.env).findIdx? (·.1) = none := by rfl)
    (hs : swapsWithSole [.Tuple ts kt pt] (.Tuple es k2 pt2) pos.line X.env = pure false := by rfl) (hw : swappedStores [.Tuple ts kt pt] (.Tuple es k2 pt2) X.env = pure none := by rfl)
    (h1 : (assignEach [.Tuple ts kt pt] X.env).map (·.2) = [assign (.Tuple ts kt pt) X.env] := by rfl) :
    SS X E fi (.Assign [.Tuple ts kt pt] (.Tuple es k2 pt2) pos) (sPar l mm) :=
  ps_imp (ps_asg (pe_tup ha) (pg_tup (n := l.length) hc hg hn hst) hs hw h1) fun pins s σ H D I ⟨B, ε, tmp, hfx, h, w⟩ => by
    refine gar (wiS tmp D) h w fun rs vs ε' H' hl h' w' => ?_
    have w' : gS X.K E B tmp D (if (rs.length == l.length && bnds ε'.length l) = true then .ok .nx (setE ε' l rs) else .stuck) := w'
    by_cases z : (rs.length == l.length && bnds ε'.length l) = true
    · rw [if_pos z] at w'
      have z' := Bool.and_eq_true_iff.mp z
      have hl2 : rs.length = l.length := eq_of_beq z'.1
      refine ⟨by rw [hl, hl2]; exact hsz, fun p hp => ?_⟩
      refine ⟨p, vs, rfl, SqT.of upd_same, by rw [hl, hl2], gns_set (by rw [hl, hl2]) ?_⟩
      obtain ⟨F, fp, h'⟩ := h'
      obtain ⟨fp', h2⟩ := (h'.same (same_upd (o := .tup vs) hp)).stores hl hl2.symm nd (bnds_lt z'.2) (fx_nes hfx hfi)
      exact w' _ _ h2.sta
    · rw [if_neg z] at w'; exact w'.elim
/-- a value taken apart -/
def sUnp (p : Pt) (m : ME) : MS := bd m fun r => bd (lft (ofO r.toD)) fun d => bd (bindP p d) fun _ => pr .nx
theorem ss_unp {tg : Expr} {p : Pt} (he : SP X E false e me) (hg : PG X tg (gPt X.K p)) (hfi : (p.ix.all fun i => !fi.contains i) = true := by rfl)
    (hs : swapsWithSole [tg] e pos.line X.env = pure false := by rfl) (hw : swappedStores [tg] e X.env = pure none := by rfl) (h1 : (assignEach [tg] X.env).map (·.2) = [assign tg X.env] := by rfl) :
    SS X E fi (.Assign [tg] e pos) (sUnp p me) :=
  ps_imp (ps_asg he hg hs hw h1) fun pins s σ H D I ⟨B, ε, tmp, hfx, h, w⟩ => gex (wiS tmp D) h w fun r v ε' H' h' w' => by
    obtain ⟨d, t, w2⟩ := (wiS tmp D).ofO w'
    rcases bindP_cases p d ε' with ⟨ε2, e2⟩ | e2
    · have w3 : gS X.K E B tmp D (pr .nx ε2) := by
        have := w2
        rw [bd_ok e2] at this
        exact this
      exact gpt_ok (h'.fz t) e2 (fx_nes hfx hfi) fun σ' hs _ => w3 σ' H' hs
    · rw [bd_st e2] at w2; exact w2.elim
/-! ### x op= e -/
def getS (i : Nat) : ME := fun ε => match ε[i]? with
  | some (.dat d) => .ok (.dat d) ε
  | _ => .stuck
def sAug (i : Nat) (f : SV → SV → Ot SV) (m : ME) : MS := bd (cV i) fun x => bd m fun y => bd (lft (f x y)) fun z => putS i z
theorem ss_aug {op : Operator} {f : SV → SV → Ot SV} (hN : X.N.Nodup) (ho : Op2 X E (inplaceOp op) f) (he : SP X E false e me) (hi : X.N[i]? = some x := by rfl) (hx : Loc X.env.scope x := by first | exact Or.inl rfl | exact Or.inr rfl) (hfi : fi.contains i = false := by rfl)
    (hf : X.fn x = true ∨ X.env.scope.names.lookup x = some .local := by first | exact .inl rfl | exact .inr rfl) : SS X E fi (.AugAssign (.Name x px) op e pos) (sAug i f me) :=
  ps_imp (ps_aug hN hi hx he (ti := R2of X E f) ho hf) fun pins s σ H D I ⟨B, ε, tmp, hfx, h, w⟩ => by
    unfold sAug at w
    have hlen : i < ε.length := by
      have := h.len
      have := (List.getElem?_eq_some_iff.mp hi).1
      have := I.len
      omega
    cases q : ε[i]? with
    | none =>
      have : cV i ε = .stuck := by unfold cV; rw [q]
      rw [bd_st this] at w; exact w.elim
    | some r =>
      cases r with
      | dat d =>
        have e1 : cV i ε = .ok (.dat d) ε := by unfold cV; rw [q]
        rw [bd_ok e1] at w
        obtain ⟨F, fp, h⟩ := h
        obtain ⟨v, ev, rv⟩ := h.read q
        refine ⟨v, ev, ?_⟩
        refine gex (wiS tmp D) (tmp := (v, .dat d) :: tmp) (h.push rv).sta w fun r2 v2 ε' H' h' w' => ?_
        refine ⟨B, σ, ε', tmp, _, r2, h', ?_⟩
        rcases (wiS tmp D).lft w' with ⟨z, e3, w3⟩ | ⟨x, e3, w3⟩
        · rw [e3]
          intro v3 H3 h3 _
          exact w3 _ H3 (h3.store (by
            have := h3.len
            have := (List.getElem?_eq_some_iff.mp hi).1
            have := I.len
            omega) (fx_ne hfx hfi))
        · rw [e3]; exact w3
      | _ =>
        have : cV i ε = .stuck := by unfold cV; rw [q]
        rw [bd_st this] at w; exact w.elim
end
end Dv

-- Dv14
namespace Dv
open PySem PySem.Spec PyProof.Rows L2

/-! ### places: a slot, a field of the own instance in a slot -/
inductive Pl where
  | s (i : Nat)
  | f (i : Nat) (C x : Str)
def putFS (f : Str) (v : SV) : List (Str × SV) → List (Str × SV)
  | [] => [(f, v)]
  | (g, x) :: r => if g = f then (g, v) :: r else (g, x) :: putFS f v r
def getPl : Pl → Ep → Option SV
  | .s i, ε => ε[i]?
  | .f i C x, ε => match ε[i]? with
    | some (.oi C' fs) => if C' = C then fs.lookup x else none
    | _ => none
def setPl : Pl → SV → Ep → Ep
  | .s i, s, ε => ε.set i s
  | .f i C x, s, ε => match ε[i]? with
    | some (.oi C' fs) => ε.set i (.oi C' (putFS x s fs))
    | _ => ε
def PlV (K : Fg) (σ : L2.St) (H : Hp) : Pl → V → Prop
  | .s i, v => σ[i]? = some (some v)
  | .f i C x, v => ∃ a dx gs, σ[i]? = some (some (.ref a)) ∧ H a = some (.ins (He.ga K C) dx gs) ∧ gs.lookup x = some v
theorem PlV.uniq {K : Fg} {σ : L2.St} {H : Hp} {pl : Pl} {v w : V} (h : PlV K σ H pl v) (h' : PlV K σ H pl w) : v = w := by
  cases pl with
  | s i =>
    have h : σ[i]? = some (some v) := h
    have h' : σ[i]? = some (some w) := h'
    rw [h] at h'; cases h'; rfl
  | f i C x =>
    obtain ⟨a, dx, gs, h1, h2, h3⟩ := h
    obtain ⟨a', dx', gs', h1', h2', h3'⟩ := h'
    rw [h1] at h1'; cases h1'
    rw [h2] at h2'; cases h2'
    rw [h3] at h3'; cases h3'; rfl
/-- the place is a slot, or nothing has changed -/
def Pl.ok (pu : Bool) : Pl → Bool
  | .s _ => true
  | .f .. => pu
theorem PlV.keep {K : Fg} {σ : L2.St} {H H' : Hp} {pl : Pl} {v : V} {pu : Bool} {ε ε' : Ep} (hp : pl.ok pu = true) (p : Pq pu ε H ε' H') (h : PlV K σ H pl v) : PlV K σ H' pl v := by
  cases pl with
  | s i => exact h
  | f i C x =>
    obtain ⟨a, dx, gs, h1, h2, h3⟩ := h
    exact ⟨a, dx, gs, h1, (p hp).2 _ _ h2, h3⟩
section
variable {K : Fg} {B : Bs} {F H : Hp} {σ : L2.St} {ε : Ep} {tmp : Tp} {fp : List Addr}
/-- a field of an own instance, and what may stand there instead -/
theorem OwnF.field {x : Str} {s : SV} : ∀ {fs : List (Str × SV)} {gs : List (Str × V)} {f : List Addr}, OwnF K F H fs gs f → fs.lookup x = some s → ∃ v g1 g g2, f = g1 ++ (g ++ g2) ∧ gs.lookup x = some v ∧ Own K F H s v g ∧
    ∀ (H' : Hp) (s' : SV), (∀ q ∈ g1 ++ g2, H' q = H q) → Own K F H' s' v g → OwnF K F H' (putFS x s' fs) gs f
  | [], gs, f, h, e => by simp at e
  | (y, t) :: r, gs, f, h, e => by
    unfold OwnF at h
    obtain ⟨v, gs', f1, f2, rfl, rfl, h1, h2⟩ := h
    by_cases z : x = y
    · subst z
      simp only [List.lookup, BEq.rfl] at e
      cases e
      refine ⟨v, [], f1, f2, rfl, by simp [List.lookup], h1, fun H' s' q o => ?_⟩
      unfold putFS
      rw [if_pos rfl]
      unfold OwnF
      exact ⟨v, gs', f1, f2, rfl, rfl, o, OwnF.mono (Same.refl F) _ _ _ (fun p hp => q p (by simp [hp])) h2⟩
    · have z' : (x == y) = false := by simpa using z
      simp only [List.lookup, z'] at e
      obtain ⟨w, g1, g, g2, rfl, h3, h4, h5⟩ := OwnF.field h2 e
      refine ⟨w, f1 ++ g1, g, g2, by simp, by simp only [List.lookup, z']; exact h3, h4, fun H' s' q o => ?_⟩
      unfold putFS
      rw [if_neg (fun e => z e.symm)]
      unfold OwnF
      exact ⟨v, gs', f1, _, rfl, rfl, Own.mono (Same.refl F) _ _ _ (fun p hp => q p (by simp [hp])) h1, h5 H' s' (fun p hp => q p (by
        rcases List.mem_append.mp hp with y | y <;> simp [y])) o⟩
theorem StF.place (h : StF K B F H σ ε tmp fp) {pl : Pl} {s : SV} (e : getPl pl ε = some s) (hs : s.own? = true) : ∃ a f, PlV K σ H pl (.ref a) ∧ Own K F H s (.ref a) f ∧
    ∀ p ∈ f, ∀ o s', Own K F (upd H p o) s' (.ref a) f → StF K B F (upd H p o) σ (setPl pl s' ε) tmp fp := by
  cases pl with
  | s i =>
    obtain ⟨v, f, e1, o1, hf, mu⟩ := h.mutate (i := i) e (fun z => by rw [z] at hs; cases hs)
    obtain ⟨a, rfl⟩ := own_ref o1 hs
    exact ⟨a, f, e1, o1, fun p hp o s' o' => mu p hp o s' o'⟩
  | f i C x =>
    unfold getPl at e
    simp only at e
    cases q : ε[i]? with
    | none => rw [q] at e; cases e
    | some r =>
      rw [q] at e
      cases r with
      | oi C' fs =>
        simp only at e
        by_cases hC : C' = C
        · subst hC
          rw [if_pos rfl] at e
          obtain ⟨o0, ft, f1, f0, f2, e1, rfl, h3, h4, h5, h6⟩ := h.slot q
          cases o0 with
          | none => cases h4.1
          | some v0 =>
            have h4 : Own K F H (.oi C' fs) v0 f0 := h4
            unfold Own at h4
            obtain ⟨a0, dx, gs, ff, rfl, rfl, k1, k2, k3⟩ := h4
            obtain ⟨v, g1, g, g2, rfl, lk, ow, rep⟩ := OwnF.field k3 e
            obtain ⟨a, rfl⟩ := own_ref ow hs
            refine ⟨a, g, ⟨a0, dx, gs, e1, k1, lk⟩, ow, fun p hp o s' o' => ?_⟩
            obtain ⟨v', f', e1', o1', hf', mu⟩ := h.mutate (i := i) q (fun z => by cases z)
            rw [e1] at e1'; cases e1'
            have ef : f' = a0 :: dx :: (g1 ++ (g ++ g2)) := by
              have o2 : Own K F H (.oi C' fs) (.ref a0) (a0 :: dx :: (g1 ++ (g ++ g2))) := by
                unfold Own; exact ⟨a0, dx, gs, _, rfl, rfl, k1, k2, k3⟩
              exact Own.det (Same.refl H) _ _ _ _ o1' o2
            have nd : (a0 :: dx :: (g1 ++ (g ++ g2))).Nodup := by
              have := h.nd
              exact (List.nodup_append.mp (List.nodup_append.mp (List.nodup_append.mp this).2.1).2.1).1
            have n0 : a0 ≠ p := fun z => (List.nodup_cons.mp nd).1 (by simp [z, hp])
            have n1 : dx ≠ p := fun z => (List.nodup_cons.mp (List.nodup_cons.mp nd).2).1 (by simp [z, hp])
            have nd2 := List.nodup_append.mp (List.nodup_cons.mp (List.nodup_cons.mp nd).2).2
            have n2 : ∀ b ∈ g1, b ≠ p := fun b hb z => nd2.2.2 b hb p (by simp [hp]) z
            have n3 : ∀ b ∈ g2, b ≠ p := fun b hb z => (List.nodup_append.mp nd2.2.1).2.2 p hp b hb z.symm
            have := mu p (by rw [ef]; simp [hp]) o (.oi C' (putFS x s' fs)) (by
              rw [ef]
              unfold Own
              refine ⟨a0, dx, gs, _, rfl, rfl, by rw [upd_ne n0]; exact k1, by rw [upd_ne n1]; exact k2, rep _ s' (fun b hb => upd_ne ?_) o'⟩
              rcases List.mem_append.mp hb with y | y
              · exact n2 b y
              · exact n3 b y)
            unfold setPl
            simp only [q]
            exact this
        · rw [if_neg hC] at e; cases e
      | _ => cases e
end
/-- what is done at a place -/
def modP (pl : Pl) (g : SV → Option SV) : M Unit := fun ε => match getPl pl ε with
  | some s => match g s with
    | some s' => .ok () (setPl pl s' ε)
    | none => .stuck
  | none => .stuck
def isOl : Option SV → Bool
  | some (.ol _) => true
  | _ => false
def ifL {α : Type} (pl : Pl) (m : M α) : M α := fun ε => if isOl (getPl pl ε) = true then m ε else .stuck
def appO (d : D) : SV → Option SV
  | .ol xs => if Nat.blt xs.length 16777216 = true then some (.ol (xs ++ [d])) else none
  | _ => none
def extO (d : D) : SV → Option SV
  | .ol xs => match d with
    | .lst ys => if Nat.ble (xs.length + ys.length) 16777216 = true then some (.ol (xs ++ ys)) else none
    | _ => none
  | _ => none
def cApp (pl : Pl) (m : ME) : ME := ifL pl (bd m fun r => bd (lft (ofO r.toD)) fun d => bd (modP pl (appO d)) fun _ => pr (.dat .non))
def cExt (pl : Pl) (m : ME) : ME := ifL pl (bd m fun r => bd (lft (ofO r.toD)) fun d => bd (modP pl (extO d)) fun _ => pr (.dat .non))
/-- the expression is the place's own object -/
def SR (X : Cx) (o : Expr) (pl : Pl) : Prop := PE X o (fun σ H Q => ∃ v, PlV X.K σ H pl v ∧ Q v H)
section
variable {X : Cx} {E : XK} {pu : Bool} {o e : Expr} {es : List Expr} {me mv mi : ME} {mm : MA} {pl : Pl} {pos apos cpos tpos px : Pos} {fi : List Nat} {x : Str}
theorem sr_s (i : Nat) {y : Str} (hN : X.N[i]? = some y := by rfl) (hv : Vis X.env.scope y := by first | exact Or.inl rfl | exact Or.inr (Or.inl rfl) | exact Or.inr (Or.inr rfl)) (hd : (y == ("__debug__" : Str)) = false := by decide)
    (hcd : (y == ("__classdict__" : Str)) = false := by decide) : SR X (.Name y px) (.s i) := pe_imp (pe_var hN hv hd hcd) fun pins s σ H Q I ⟨v, h, q⟩ => ⟨v, h, q⟩
theorem sr_f (i : Nat) {C y : Str} (hc : Cls X.K (He.ga X.K C)) (hn : NoAttr X.K (He.ga X.K C) x) (hN : X.N[i]? = some y := by rfl) (hv : Vis X.env.scope y := by first | exact Or.inl rfl | exact Or.inr (Or.inl rfl) | exact Or.inr (Or.inr rfl)) (hd : (y == ("__debug__" : Str)) = false := by decide)
    (hcd : (y == ("__classdict__" : Str)) = false := by decide) (hb : attributeBase (.Name y px) x X.env (eval (.Name y px) X.env) = eval (.Name y px) X.env := by rfl) : SR X (.Attribute (.Name y px) x pos) (.f i C x) :=
  pe_imp (pe_fld (pe_var hN hv hd hcd) hb) fun pins s σ H Q I ⟨v, ⟨a, dx, gs, h1, h2, h3⟩, q⟩ => ⟨_, h1, a, _, dx, gs, v, rfl, h2, hc, hn, h3, q⟩
theorem isOl_some {ε : Ep} (h : isOl (getPl pl ε) = true) : ∃ xs, getPl pl ε = some (.ol xs) := by
  cases q : getPl pl ε with
  | none => rw [q] at h; cases h
  | some s =>
    rw [q] at h
    cases s with
    | ol xs => exact ⟨xs, rfl⟩
    | _ => cases h
theorem Sta.plL {K : Fg} {B : Bs} {σ : L2.St} {ε : Ep} {tmp : Tp} {H : Hp} (h : Sta K B H σ ε tmp) (e : isOl (getPl pl ε) = true) : ∃ a vs, PlV K σ H pl (.ref a) ∧ H a = some (.lst vs) := by
  obtain ⟨xs, e⟩ := isOl_some e
  obtain ⟨F, fp, h⟩ := h
  obtain ⟨a, f, p1, o1, _⟩ := h.place e rfl
  unfold Own at o1
  obtain ⟨a', vs, e', _, h1, _⟩ := o1
  cases e'
  exact ⟨a, vs, p1, h1⟩
theorem sp_app (hR : SR X o pl) (he : SP X E pu e me) (hp : pl.ok pu = true := by rfl)
    (hbase : attributeBase o "append" X.env (eval o X.env) = eval o X.env := by rfl)
    (hfew : ((backTo cpos (starEach (e :: []) X.env)).all (fun x => !x.1) && (backToKw cpos (keywordEach [] X.env)).all (fun x => x.1.isSome)
      && decide ((e :: []).length + ([] : List Keyword).length + (if ([] : List Keyword).isEmpty then 0 else 1) < 30)) = true := by rfl)
    (hline : (apos.endLine == cpos.line) = true := by rfl) (hs : starEach (e :: []) X.env = (false, eval e X.env) :: starEach [] X.env := by rfl) (hplain : (backTo cpos (starEach [] X.env)).any (·.1) = false := by rfl) :
    SP X E false (.Call (.Attribute o "append" apos) [e] [] cpos) (cApp pl me) :=
  pe_imp (pe_bm PySem.F.plainAttrs_list PySem.F.slot_list_append PySem.F.type_list_append mt_append hR (pa_cons he pa_nil hs) hbase hfew hline hs hplain) fun pins s σ H Q I ⟨B, ε, tmp, h, w⟩ => by
    unfold cApp ifL at w
    by_cases z : isOl (getPl pl ε) = true
    · rw [if_pos z] at w
      obtain ⟨a, vs, p1, h1⟩ := h.plL z
      refine ⟨.ref a, p1, .inl ⟨rfl, vs, SqL.of h1⟩, ?_⟩
      obtain ⟨B, ε, tmp, h, w⟩ : ∃ B ε' tmp', Sta X.K B H σ ε' tmp' ∧ gP X.K E false B σ tmp' Q ε' H ((bd me fun r => bd (lft (ofO r.toD)) fun d => bd (modP pl (appO d)) fun _ => pr (.dat .non)) ε') := ⟨B, ε, tmp, h, w⟩
      have key : tP X.K E pu me σ H fun y H2 => (tNil : TA) σ H2 fun xs H3 => rAppend (.ref a) (y :: xs) H3 Q := by
        refine ⟨B, ε, tmp, h, ?_⟩
        unfold bd at w
        cases q : me ε with
        | err x ε' => rw [q] at w; exact w
        | stuck => rw [q] at w; exact w
        | ok r ε' =>
          rw [q] at w
          intro v H' h' p
          have w : (wiP (K := X.K) (E := E) (pu := false) (B := B) (σ := σ) tmp Q).W ε' H' (bd (lft (ofO r.toD)) (fun d => bd (modP pl (appO d)) fun _ => pr (.dat .non)) ε') := (wiP tmp Q).wq _ _ _ _ _ (fun z => by cases z) w
          obtain ⟨d, t, w2⟩ := (wiP tmp Q).ofO w
          obtain ⟨F, fp, hF, rd⟩ := h'.datum rfl t
          have w3 := w2
          unfold bd modP at w3
          cases q2 : getPl pl ε' with
          | none => rw [q2] at w3; exact w3.elim
          | some s =>
            rw [q2] at w3
            cases s with
            | ol xs =>
              simp only [appO] at w3
              by_cases hz : Nat.blt xs.length 16777216 = true
              · rw [if_pos hz] at w3
                obtain ⟨a', f, p1', o1, mu⟩ := hF.place q2 rfl
                have := p1'.uniq (p1.keep hp p)
                cases this
                unfold Own at o1
                obtain ⟨a2, vs2, e2, rfl, h2, r2⟩ := o1
                cases e2
                refine ⟨a, vs2, v, rfl, rfl, h2, by rw [r2.length, sizeLine_eq]; exact Nat.le_of_ble_eq_true hz, ?_⟩
                have hst := mu a (by simp) (.lst (vs2 ++ [v])) (.ol (xs ++ [d])) (by
                  unfold Own
                  exact ⟨a, vs2 ++ [v], rfl, rfl, upd_same, r2.append (.one rd)⟩)
                exact w3 .non _ (hst.sta.push fun F => rep_non) (fun z => by cases z)
              · rw [if_neg hz] at w3; exact w3.elim
            | _ => exact w3.elim
      exact key
    · rw [if_neg z] at w; exact w.elim
theorem sp_ext (hR : SR X o pl) (he : SP X E pu e me) (hp : pl.ok pu = true := by rfl)
    (hbase : attributeBase o "extend" X.env (eval o X.env) = eval o X.env := by rfl)
    (hfew : ((backTo cpos (starEach (e :: []) X.env)).all (fun x => !x.1) && (backToKw cpos (keywordEach [] X.env)).all (fun x => x.1.isSome)
      && decide ((e :: []).length + ([] : List Keyword).length + (if ([] : List Keyword).isEmpty then 0 else 1) < 30)) = true := by rfl)
    (hline : (apos.endLine == cpos.line) = true := by rfl) (hs : starEach (e :: []) X.env = (false, eval e X.env) :: starEach [] X.env := by rfl) (hplain : (backTo cpos (starEach [] X.env)).any (·.1) = false := by rfl) :
    SP X E false (.Call (.Attribute o "extend" apos) [e] [] cpos) (cExt pl me) :=
  pe_imp (pe_bm PySem.F.plainAttrs_list PySem.F.slot_list_extend PySem.F.type_list_extend mt_extend hR (pa_cons he pa_nil hs) hbase hfew hline hs hplain) fun pins s σ H Q I ⟨B, ε, tmp, h, w⟩ => by
    unfold cExt ifL at w
    by_cases z : isOl (getPl pl ε) = true
    · rw [if_pos z] at w
      obtain ⟨a, vs, p1, h1⟩ := h.plL z
      refine ⟨.ref a, p1, .inl ⟨rfl, vs, SqL.of h1⟩, ?_⟩
      have key : tP X.K E pu me σ H fun y H2 => (tNil : TA) σ H2 fun xs H3 => rExtend (.ref a) (y :: xs) H3 Q := by
        refine ⟨B, ε, tmp, h, ?_⟩
        unfold bd at w
        cases q : me ε with
        | err x ε' => rw [q] at w; exact w
        | stuck => rw [q] at w; exact w
        | ok r ε' =>
          rw [q] at w
          intro v H' h' p
          have w : (wiP (K := X.K) (E := E) (pu := false) (B := B) (σ := σ) tmp Q).W ε' H' (bd (lft (ofO r.toD)) (fun d => bd (modP pl (extO d)) fun _ => pr (.dat .non)) ε') := (wiP tmp Q).wq _ _ _ _ _ (fun z => by cases z) w
          obtain ⟨d, t, w2⟩ := (wiP tmp Q).ofO w
          obtain ⟨F, fp, hF, rd⟩ := h'.datum rfl t
          have w3 := w2
          unfold bd modP at w3
          cases q2 : getPl pl ε' with
          | none => rw [q2] at w3; exact w3.elim
          | some s =>
            rw [q2] at w3
            cases s with
            | ol xs =>
              simp only [extO] at w3
              cases d with
              | lst ys =>
                simp only at w3
                by_cases hz : Nat.ble (xs.length + ys.length) 16777216 = true
                · rw [if_pos hz] at w3
                  obtain ⟨a', f, p1', o1, mu⟩ := hF.place q2 rfl
                  have := p1'.uniq (p1.keep hp p)
                  cases this
                  unfold Own at o1
                  obtain ⟨a2, vs2, e2, rfl, h2, r2⟩ := o1
                  cases e2
                  unfold Rep at rd
                  obtain ⟨b, ws, rfl, hb, rb⟩ := rd
                  refine ⟨a, b, vs2, ws, rfl, rfl, h2, hF.sub _ _ hb, by rw [r2.length, rb.length, sizeLine_eq]; exact Nat.le_of_ble_eq_true hz, ?_⟩
                  have hst := mu a (by simp) (.lst (vs2 ++ ws)) (.ol (xs ++ ys)) (by
                    unfold Own
                    exact ⟨a, vs2 ++ ws, rfl, rfl, upd_same, r2.append rb⟩)
                  exact w3 .non _ (hst.sta.push fun F => rep_non) (fun z => by cases z)
                · rw [if_neg hz] at w3; exact w3.elim
              | _ => exact w3.elim
            | _ => exact w3.elim
      exact key
    · rw [if_neg z] at w; exact w.elim
/-! ### o[i] = v -/
def putO (i d : D) : SV → Option SV
  | .ol xs => match i with
    | .int k => (ixN xs.length k).map fun j => .ol (xs.set j d)
    | _ => none
  | .od kvs => match keyOf? i with
    | some k => if Nat.blt kvs.length 16777216 = true then some (.od (setD kvs k d)) else none
    | none => none
  | _ => none
def rSetA : TSet := fun o i v H Q => rSetL o i v H Q ∨ rSetD o i v H Q
theorem set_all (hu : X.A.units + 80 < cLine) : PSet X rSetA := by
  intro pins s σ H o i v ov iv u Q I ro ri rv h
  rcases h with h | h
  · exact set_list pins s σ H o i v ov iv u Q I ro ri rv h
  · exact set_dict (by omega) pins s σ H o i v ov iv u Q I ro ri rv h
def isOwn : Option SV → Bool
  | some s => s.own?
  | none => false
def ifOw {α : Type} (pl : Pl) (m : M α) : M α := fun ε => if isOwn (getPl pl ε) = true then m ε else .stuck
def sPut (pl : Pl) (mi mv : ME) : MS := bd mv fun r => bd (lft (ofO r.toD)) fun d => ifOw pl (bd mi fun q => bd (lft (ofO q.toD)) fun i => bd (modP pl (putO i d)) fun _ => pr .nx)
/-- the store itself -/
theorem put_ok {K : Fg} {B : Bs} {F H : Hp} {σ : L2.St} {ε : Ep} {tmp : Tp} {fp : List Addr} {iv v : V} {i d : D} {a : Addr} {ε' : Ep} (h : StF K B F H σ ε tmp fp) (ri : Rep K F i iv) (rd : Rep K F d v) (p : PlV K σ H pl (.ref a)) (e : modP pl (putO i d) ε = .ok () ε') {Q : Hp → Prop}
    (q : ∀ H', StF K B F H' σ ε' tmp fp → Q H') : rSetA (.ref a) iv v H Q := by
  unfold modP at e
  cases q2 : getPl pl ε with
  | none => rw [q2] at e; cases e
  | some s =>
    rw [q2] at e
    simp only at e
    cases q3 : putO i d s with
    | none => rw [q3] at e; cases e
    | some s' =>
      rw [q3] at e
      cases e
      cases s with
      | ol xs =>
        simp only [putO] at q3
        split at q3
        · rename_i k
          cases q4 : ixN xs.length k with
          | none => rw [q4] at q3; cases q3
          | some j =>
            rw [q4] at q3; cases q3
            obtain ⟨a', f, p1', o1, mu⟩ := h.place q2 rfl
            have := p1'.uniq p
            cases this
            unfold Own at o1
            obtain ⟨a2, vs2, e2, rfl, h2, r2⟩ := o1
            cases e2
            unfold Rep at ri; subst ri
            refine .inl ⟨a, vs2, k, j, rfl, rfl, h2, by rw [r2.length]; exact q4, q _ ?_⟩
            exact mu a (by simp) (.lst (vs2.set j v)) (.ol (xs.set j d)) (by
              unfold Own
              exact ⟨a, _, rfl, rfl, upd_same, r2.set j rd⟩)
        · cases q3
      | od kvs =>
        simp only [putO] at q3
        split at q3
        · rename_i k hk
          split at q3
          · rename_i hz
            cases q3
            obtain ⟨a', f, p1', o1, mu⟩ := h.place q2 rfl
            have := p1'.uniq p
            cases this
            unfold Own at o1
            obtain ⟨a2, vs2, e2, rfl, h2, r2⟩ := o1
            cases e2
            obtain ⟨rfl, ko⟩ := rep_key ri hk
            refine .inr ⟨a, _, rfl, DPut.k h2 (by rw [r2.length, sizeLine_eq]; exact Nat.le_of_ble_eq_true hz), q _ ?_⟩
            exact mu a (by simp) (.dK (putK vs2 k v)) (.od (setD kvs k d)) (by
              unfold Own
              exact ⟨a, _, rfl, rfl, upd_same, r2.put ko rd⟩)
          · cases q3
        · cases q3
      | _ => cases q3
theorem modP_cases {g : SV → Option SV} {ε : Ep} : (∃ ε', modP pl g ε = .ok () ε') ∨ modP pl g ε = .stuck := by
  unfold modP
  cases getPl pl ε with
  | none => exact .inr rfl
  | some s =>
    simp only
    cases g s with
    | none => exact .inr rfl
    | some s' => exact .inl ⟨_, rfl⟩
theorem Sta.plO {K : Fg} {B : Bs} {σ : L2.St} {ε : Ep} {tmp : Tp} {H : Hp} (h : Sta K B H σ ε tmp) (e : isOwn (getPl pl ε) = true) : ∃ a, PlV K σ H pl (.ref a) := by
  cases q : getPl pl ε with
  | none => rw [q] at e; cases e
  | some s =>
    rw [q] at e
    obtain ⟨F, fp, h⟩ := h
    obtain ⟨a, f, p1, _, _⟩ := h.place q e
    exact ⟨a, p1⟩
theorem ss_put {i : Expr} (hu : X.A.units + 80 < cLine) (hR : SR X o pl) (hi : SP X E pu i mi) (hv : SP X E false e mv) (hp : pl.ok pu = true := by rfl)
    (ha : ∀ v, assign (.Subscript o i tpos) X.env v = (do
      let ov ← holding [v] (eval o X.env)
      let iv ← holding [v, ov] (eval i X.env)
      standAt tpos
      holding [v, ov, iv] (setItem ov iv v)
      release [v, ov, iv] []) := by intro _; rfl)
    (hs : swapsWithSole [.Subscript o i tpos] e pos.line X.env = pure false := by rfl) (hw : swappedStores [.Subscript o i tpos] e X.env = pure none := by rfl)
    (h1 : (assignEach [.Subscript o i tpos] X.env).map (·.2) = [assign (.Subscript o i tpos) X.env] := by rfl) : SS X E fi (.Assign [.Subscript o i tpos] e pos) (sPut pl mi mv) :=
  ps_imp (ps_asg hv (pg_sub hR hi (set_all hu) ha) hs hw h1) fun pins s σ H D I ⟨B, ε, tmp, hfx, h, w⟩ => gex (wiS tmp D) h w fun r v ε1 H1 h1 w1 => by
    obtain ⟨d, t, w1⟩ := (wiS tmp D).ofO w1
    have h1 := h1.fz t
    unfold ifOw at w1
    by_cases z : isOwn (getPl pl ε1) = true
    · have w1 : gS X.K E B tmp D ((bd mi fun q => bd (lft (ofO q.toD)) fun i => bd (modP pl (putO i d)) fun _ => pr .nx) ε1) := by
        have := w1
        rw [if_pos z] at this; exact this
      obtain ⟨a, p1⟩ := h1.plO z
      refine ⟨.ref a, p1, B, ε1, _, h1, ?_⟩
      unfold bd at w1
      cases q : mi ε1 with
      | err x ε' => rw [q] at w1; exact fun c dd H' h' => w1 c dd σ H' h'
      | stuck => rw [q] at w1; exact w1.elim
      | ok r2 ε2 =>
        rw [q] at w1
        intro iv H2 h2 pq
        have w2 : gS X.K E B tmp D (bd (lft (ofO r2.toD)) (fun i => bd (modP pl (putO i d)) fun _ => pr .nx) ε2) := w1
        obtain ⟨id, ti, w3⟩ := Wi.ofO (H := H2) (wiS (K := X.K) (E := E) (B := B) (σ := σ) tmp D) w2
        obtain ⟨F, fp, h3, ri⟩ := h2.datum rfl ti
        obtain ⟨rd, hF⟩ := h3.datum rfl
        rcases modP_cases (pl := pl) (g := putO id d) (ε := ε2) with ⟨ε3, e3⟩ | e3
        · have w4 : gS X.K E B tmp D (.ok .nx ε3) := by
            have := w3
            rw [bd_ok e3] at this; exact this
          exact put_ok hF ri rd (p1.keep hp pq) e3 fun H' hS => w4 σ H' hS.sta
        · have w4 := w3
          rw [bd_st e3] at w4; exact w4.elim
    · have := w1
      rw [if_neg z] at this; exact this.elim
end
end Dv

-- Dv15
namespace Dv
open PySem PySem.Spec PyProof.Rows L2

/-! ### o.f = v -/
def fldO (C x : Str) (r : SV) : SV → Option SV
  | .oi C' fs => if C' = C then (if Nat.blt fs.length 1000 = true then some (.oi C (putFS x r fs)) else none) else none
  | _ => none
def setF1 (i : Nat) (g : SV → Option SV) : MS := fun ε => match ε[i]? with
  | some s => match g s with
    | some s' => .ok .nx (ε.set i s')
    | none => .stuck
  | none => .stuck
def sFld (i : Nat) (C x : Str) (m : ME) : MS := bd m fun r => setF1 i (fldO C x r)
section
variable {K : Fg} {B : Bs} {F H : Hp} {σ : L2.St} {ε : Ep} {tmp : Tp} {fp : List Addr}
theorem OwnF.length : ∀ {fs : List (Str × SV)} {gs : List (Str × V)} {f : List Addr}, OwnF K F H fs gs f → gs.length = fs.length
  | [], gs, f, h => by unfold OwnF at h; rw [h.1]; rfl
  | (x, s) :: r, gs, f, h => by
    unfold OwnF at h
    obtain ⟨v, gs', f1, f2, rfl, rfl, h1, h2⟩ := h
    simp [OwnF.length h2]
/-- a field is written: what stood there is dropped -/
theorem OwnF.write {x : Str} {r : SV} {v : V} {g : List Addr} (o : Own K F H r v g) : ∀ {fs : List (Str × SV)} {gs : List (Str × V)} {f : List Addr}, OwnF K F H fs gs f → ∃ f', OwnF K F H (putFS x r fs) (putF x v gs) f' ∧ (∀ p ∈ f', p ∈ g ∨ p ∈ f) ∧ (f.Nodup → g.Nodup → (∀ p ∈ g, p ∉ f) → f'.Nodup)
  | [], gs, f, h => by
    unfold OwnF at h
    obtain ⟨rfl, rfl⟩ := h
    refine ⟨g ++ [], ?_, fun p hp => .inl (by simpa using hp), fun _ n _ => by simpa using n⟩
    show OwnF K F H [(x, r)] [(x, v)] (g ++ [])
    unfold OwnF
    exact ⟨v, [], g, [], rfl, rfl, o, by unfold OwnF; exact ⟨rfl, rfl⟩⟩
  | (y, t) :: fs, gs, f, h => by
    unfold OwnF at h
    obtain ⟨w, gs', f1, f2, rfl, rfl, h1, h2⟩ := h
    by_cases z : y = x
    · subst z
      unfold putFS putF
      rw [if_pos rfl, if_pos rfl]
      refine ⟨g ++ f2, ?_, fun p hp => ?_, fun n m d => ?_⟩
      · unfold OwnF; exact ⟨v, gs', g, f2, rfl, rfl, o, h2⟩
      · rcases List.mem_append.mp hp with q | q
        · exact .inl q
        · exact .inr (by simp [q])
      · exact List.nodup_append.mpr ⟨m, (List.nodup_append.mp n).2.1, fun a ha b hb e => d a ha (by subst e; simp [hb])⟩
    · unfold putFS putF
      rw [if_neg z, if_neg z]
      obtain ⟨f', o', m', n'⟩ := OwnF.write (x := x) o h2
      refine ⟨f1 ++ f', ?_, fun p hp => ?_, fun n m d => ?_⟩
      · unfold OwnF; exact ⟨w, _, f1, f', rfl, rfl, h1, o'⟩
      · rcases List.mem_append.mp hp with q | q
        · exact .inr (by simp [q])
        · rcases m' p q with q | q
          · exact .inl q
          · exact .inr (by simp [q])
      · have n1 := List.nodup_append.mp n
        refine List.nodup_append.mpr ⟨n1.1, n' n1.2.1 m (fun p hp q => d p hp (by simp [q])), fun a ha b hb e => ?_⟩
        subst e
        rcases m' a hb with q | q
        · exact d a q (by simp [ha])
        · exact n1.2.2 a ha a q rfl
/-- the pending value goes into a field of the own instance in a slot -/
theorem StF.setField (h : StF K B F H σ ε tmp fp) {v : V} {r : SV} {tmp' : Tp} (e : tmp = (v, r) :: tmp') {i : Nat} {C x : Str} {fs : List (Str × SV)} (q : ε[i]? = some (.oi C fs)) : ∃ a dx gs, σ[i]? = some (some (.ref a)) ∧ H a = some (.ins (He.ga K C) dx gs) ∧ gs.length = fs.length ∧
    ∃ fp', StF K B F (upd H a (.ins (He.ga K C) dx (putF x v gs))) σ (ε.set i (.oi C (putFS x r fs))) tmp' fp' := by
  obtain ⟨g1, g2, rfl, h1, h2⟩ := h.pop e
  obtain ⟨o, ft, f1, f0, f2, e1, rfl, h3, h4, h5, h6⟩ := h2.slot q
  cases o with
  | none => cases h4.1
  | some v0 =>
    have h4 : Own K F H (.oi C fs) v0 f0 := h4
    unfold Own at h4
    obtain ⟨a, dx, gs, ff, rfl, rfl, k1, k2, k3⟩ := h4
    obtain ⟨f', o', m', n'⟩ := OwnF.write (x := x) h1 k3
    have hl := k3.length
    refine ⟨a, dx, gs, e1, k1, hl, ?_⟩
    have nd := h.nd
    have ndg := List.nodup_append.mp nd
    have nd1 := List.nodup_append.mp ndg.2.1
    have nd2 := List.nodup_append.mp nd1.2.1
    have nd3 := List.nodup_append.mp nd2.2.1
    have nd4 := List.nodup_cons.mp nd3.1
    have nd5 := List.nodup_cons.mp nd4.2
    have hF : F a = none := h2.out a (by simp)
    have ag : a ∉ g1 := fun z => ndg.2.2 a z a (by simp) rfl
    have dg : dx ∉ g1 := fun z => ndg.2.2 dx z dx (by simp) rfl
    have fg : ∀ p ∈ g1, p ∉ ff := fun p hp z => ndg.2.2 p hp p (by simp [z]) rfl
    have a_ft : ∀ p ∈ ft, p ≠ a := fun p hp z => nd1.2.2 p hp a (by simp) z
    have a_f1 : ∀ p ∈ f1, p ≠ a := fun p hp z => nd2.2.2 p hp a (by simp) z
    have a_f2 : ∀ p ∈ f2, p ≠ a := fun p hp z => nd3.2.2 a (by simp) p hp z.symm
    have a_dx : dx ≠ a := fun z => nd4.1 (by simp [z])
    have a_f' : ∀ p ∈ f', p ≠ a := fun p hp z => by
      subst z
      rcases m' p hp with y | y
      · exact ag y
      · exact nd4.1 (by simp [y])
    have d_f' : dx ∉ f' := fun z => by
      rcases m' dx z with y | y
      · exact dg y
      · exact nd5.1 y
    have hz : i < (σ.zip ε).length := by
      have := h.len
      have := (List.getElem?_eq_some_iff.mp e1).1
      simp; omega
    have hσ : σ.set i (some (.ref a)) = σ := set_at e1
    have all : ∀ p ∈ ft ++ (f1 ++ ((a :: dx :: f') ++ f2)), p ∈ g1 ++ (ft ++ (f1 ++ ((a :: dx :: ff) ++ f2))) := by
      intro p hp
      simp only [List.mem_append, List.mem_cons] at hp ⊢
      rcases hp with y | y | ((y | y | y) | y)
      · simp [y]
      · simp [y]
      · simp [y]
      · simp [y]
      · rcases m' p y with w | w <;> simp [w]
      · simp [y]
    refine ⟨ft ++ (f1 ++ ((a :: dx :: f') ++ f2)), h.rebuild (Same.refl F) (fun b w z => ?_) (fun b w z hb => ?_) (fun b w z => ?_) (fun p o z => .inl z) (by simpa using h.len) ?_ ?_ (fun p hp => h.out p (all p hp)) (fun p hp => .inl (all p hp)) h.fix⟩
    · rw [upd_ne (ne_of_none z hF)]; exact h.sub _ _ z
    · rw [upd_ne (fun e => hb (by simp [e]))]; exact z
    · by_cases y : b = a
      · subst y; exact ⟨_, upd_same⟩
      · exact ⟨w, by rw [upd_ne y]; exact z⟩
    · show OwnL K F _ (tmp'.map (fun t => (some t.1, t.2)) ++ σ.zip (ε.set i (.oi C (putFS x r fs)))) _
      have hzs : σ.zip (ε.set i (.oi C (putFS x r fs))) = (σ.zip ε).set i (some (.ref a), .oi C (putFS x r fs)) := by rw [← zip_set, hσ]
      rw [hzs]
      refine OwnL.join (h3.mono (Same.refl F) fun p hp => upd_ne (a_ft p hp)) (OwnL.put hz (h5.mono (Same.refl F) fun p hp => upd_ne (a_f1 p hp)) ?_ (h6.mono (Same.refl F) fun p hp => upd_ne (a_f2 p hp)))
      show Own K F _ (.oi C (putFS x r fs)) (.ref a) (a :: dx :: f')
      unfold Own
      exact ⟨a, dx, putF x v gs, f', rfl, rfl, upd_same, by rw [upd_ne a_dx]; exact k2, OwnF.mono (Same.refl F) _ _ _ (fun p hp => upd_ne (a_f' p hp)) o'⟩
    · have nf' : f'.Nodup := n' nd5.2 ndg.1 fg
      have mem : ∀ p ∈ a :: dx :: f', p ∈ g1 ∨ p ∈ a :: dx :: ff := fun p hp => by
        simp only [List.mem_cons] at hp ⊢
        rcases hp with y | y | y
        · exact .inr (.inl y)
        · exact .inr (.inr (.inl y))
        · rcases m' p y with w | w
          · exact .inl w
          · exact .inr (.inr (.inr w))
      have n0 : (a :: dx :: f').Nodup := List.nodup_cons.mpr ⟨fun z => by
        rcases List.mem_cons.mp z with y | y
        · exact a_dx y.symm
        · exact a_f' a y rfl, List.nodup_cons.mpr ⟨d_f', nf'⟩⟩
      refine List.nodup_append.mpr ⟨nd1.1, List.nodup_append.mpr ⟨nd2.1, List.nodup_append.mpr ⟨n0, nd3.2.1, fun p hp b hb e => ?_⟩, fun p hp b hb e => ?_⟩, fun p hp b hb e => ?_⟩
      · subst e
        rcases mem p hp with y | y
        · exact ndg.2.2 p y p (by simp [hb]) rfl
        · exact nd3.2.2 p y p hb rfl
      · subst e
        rcases List.mem_append.mp hb with hb | hb
        · rcases mem p hb with y | y
          · exact ndg.2.2 p y p (by simp [hp]) rfl
          · exact nd2.2.2 p hp p (List.mem_append_left _ y) rfl
        · exact nd2.2.2 p hp p (by simp [hb]) rfl
      · subst e
        rcases List.mem_append.mp hb with hb | hb
        · exact nd1.2.2 p hp p (by simp [hb]) rfl
        · rcases List.mem_append.mp hb with hb | hb
          · rcases mem p hb with y | y
            · exact ndg.2.2 p y p (by simp [hp]) rfl
            · exact nd1.2.2 p hp p (List.mem_append_right _ (List.mem_append_left _ y)) rfl
          · exact nd1.2.2 p hp p (by simp [hb]) rfl
end
section
variable {X : Cx} {E : XK} {pu : Bool} {e : Expr} {es : List Expr} {me : ME} {mm : MA} {pos pos' px p : Pos} {fi : List Nat} {x y : Str} {i : Nat} {C : Str}
theorem ss_fld (hc : Cls X.K (He.ga X.K C)) (hn : NoAttr X.K (He.ga X.K C) x) (hv : SP X E false e me) (hN : X.N[i]? = some y := by rfl) (hvi : Vis X.env.scope y := by first | exact Or.inl rfl | exact Or.inr (Or.inl rfl) | exact Or.inr (Or.inr rfl)) (hd : (y == ("__debug__" : Str)) = false := by decide)
    (hcd : (y == ("__classdict__" : Str)) = false := by decide) (hs : swapsWith e (some (.Attribute (.Name y px) x pos')) pos.line X.env = pure false := by rfl) :
    SS X E fi (.Assign [.Attribute (.Name y px) x pos'] e pos) (sFld i C x me) :=
  ps_imp (ps_fld (pe_var hN hvi hd hcd) hv hs) fun pins s σ H D I ⟨B, ε, tmp, hfx, h, w⟩ => gex (wiS tmp D) h w fun r v ε1 H1 h1 w1 => by
    have w1 : gS X.K E B tmp D (setF1 i (fldO C x r) ε1) := w1
    unfold setF1 at w1
    cases q : ε1[i]? with
    | none => rw [q] at w1; exact w1.elim
    | some s =>
      rw [q] at w1
      simp only at w1
      cases s with
      | oi C' fs =>
        unfold fldO at w1
        by_cases hC : C' = C
        · subst hC
          by_cases hz : Nat.blt fs.length 1000 = true
          · simp only [if_true, hz] at w1
            obtain ⟨F, fp, h1⟩ := h1
            obtain ⟨a, dx, gs, e1, k1, kl, fp', h2⟩ := h1.setField rfl q (x := x)
            exact ⟨_, e1, a, _, dx, gs, rfl, k1, hc, hn, by rw [kl]; exact Nat.le_of_ble_eq_true hz, w1 σ _ h2.sta⟩
          · simp only [if_true, hz] at w1; exact w1.elim
        · simp only [if_neg hC] at w1; exact w1.elim
      | _ => exact w1.elim
/-! ### C(..) -/
def mkR (o : Rm) : M SV := fun ε => match o with
  | .ok (.dat .non) s => .ok s ε
  | .err x _ => .err x ε
  | _ => .stuck
def cMake (C : Str) (g : SV → List D → Rm) (mm : MA) (df : List D) : ME := bd mm fun rs => bd (lft (ofO (toDs rs))) fun ds => mkR (g (.oi C []) (ds ++ df))
theorem make_ok {K : Fg} {B : Bs} {F : Hp} {fp : List Addr} {σ : L2.St} {ε : Ep} {tmp : Tp} {H : Hp} {Q : VK} {vs dvs : List V} {ds df : List D} {g : SV → List D → Rm} (hdf : ∀ F, Reps K F df dvs) (hF : StF K B F H σ ε tmp fp) (r : Reps K F ds vs)
    (w2 : gP K E pu B σ tmp Q ε H (mkR (g (.oi C []) (ds ++ df)) ε)) : ∀ a dx, H a = none → H dx = none → dx ≠ a →
    spM K g (.ref a :: (vs ++ dvs)) (upd (upd H dx (.own a)) a (.ins (He.ga K C) dx [])) (fun v H2 => v = .non ∧ Q (.ref a) H2) E := by
  intro a dx ha hdx hne
  have hFa : F a = none := by
    cases q : F a with
    | none => rfl
    | some u => rw [hF.sub _ _ q] at ha; cases ha
  have hFd : F dx = none := by
    cases q : F dx with
    | none => rfl
    | some u => rw [hF.sub _ _ q] at hdx; cases hdx
  have s1 : Same H (upd (upd H dx (.own a)) a (.ins (He.ga K C) dx [])) := fun b u q => by
    rw [upd_ne (ne_of_none q ha), upd_ne (ne_of_none q hdx)]; exact q
  refine ⟨F, .oi C [], [a, dx], a, vs ++ dvs, ds ++ df, rfl, hF.sub.trans s1, ?_, ?_, ?_, r.append (hdf F), ?_⟩
  · unfold Own
    refine ⟨a, dx, [], [], rfl, rfl, upd_same, by rw [upd_ne hne]; exact upd_same, ?_⟩
    unfold OwnF; exact ⟨rfl, rfl⟩
  · simp [hne.symm]
  · intro p hp
    simp only [List.mem_cons, List.not_mem_nil, or_false] at hp
    rcases hp with rfl | rfl
    · exact hFa
    · exact hFd
  · have gr : ∀ {F' H' : Hp}, GrM [a, dx] F (upd (upd H dx (.own a)) a (.ins (He.ga K C) dx [])) F' H' → Gr F H F' H' := fun g => ⟨fun b u q => g.keep b u (s1 _ _ q) (fun z => by
        simp only [List.mem_cons, List.not_mem_nil, or_false] at z
        rcases z with rfl | rfl
        · rw [ha] at q; cases q
        · rw [hdx] at q; cases q), g.le, g.sub, fun b u q => by
      rcases g.new b u q with z | z | z
      · exact .inl z
      · right
        cases q2 : H b with
        | none => rfl
        | some u2 => rw [s1 _ _ q2] at z; cases z
      · right
        simp only [List.mem_cons, List.not_mem_nil, or_false] at z
        rcases z with rfl | rfl
        · exact ha
        · exact hdx⟩
    have out : ∀ {F' : Hp} {f : List Addr}, (∀ b ∈ f, F' b = none ∧ (b ∈ [a, dx] ∨ upd (upd H dx (.own a)) a (.ins (He.ga K C) dx []) b = none)) → ∀ b ∈ f, F' b = none ∧ H b = none := fun h b hb => ⟨(h b hb).1, by
      rcases (h b hb).2 with z | z
      · simp only [List.mem_cons, List.not_mem_nil, or_false] at z
        rcases z with rfl | rfl
        · exact ha
        · exact hdx
      · cases q2 : H b with
        | none => rfl
        | some u2 => rw [s1 _ _ q2] at z; cases z⟩
    cases q : g (.oi C []) (ds ++ df) with
    | stuck => rw [q] at w2; exact w2.elim
    | err x s' =>
      rw [q] at w2
      intro c dd F' H' f' gm os nd hf ec xf
      obtain ⟨fp', h'⟩ := (hF.gr (gr gm)).dropAll
      exact w2 c dd H' ⟨F', fp', h', ec, xf⟩
    | ok r s' =>
      rw [q] at w2
      cases r with
      | dat d =>
        cases d with
        | non =>
          intro v F' H' f f' gm orr os nd hf
          unfold Own at orr
          obtain ⟨rfl, rv⟩ := orr
          unfold Rep at rv
          refine ⟨rv, ?_⟩
          have := hF.called (gr gm) os (by simpa using nd) (out (by simpa using hf))
          exact w2 _ _ this (Pq.of (gr gm).same)
        | _ => exact w2.elim
      | _ => exact w2.elim
variable {k : Nat} {f : Addr} {fd : FuncData} {ps : List Str} {g : SV → List D → Rm} {dvs : List V} {ds : List Value} {df : List D}
theorem sp_make (M : L2.Mk X.K (He.ga X.K C) f) (F : FnOk X.prog X.w X.K X.mg X.base (L2.CX X.prog X.w) k f fd ps (spM X.K g)) (hr : Room (k + 1) X.A) (hg : Gl X x) (hm : X.mg x = some (.ref (He.ga X.K C))) (hb : Binds X.K fd ps ds) (hd : Vals dvs ds) (hdf : ∀ F, Reps X.K F df dvs)
    (hx : Passes (L2.CX X.prog X.w) X E) (ha : SA X E pu (e :: es) mm) (hdb : (x == ("__debug__" : Str)) = false := by decide) (he : starEach (e :: es) X.env = (false, eval e X.env) :: starEach es X.env := by rfl) (hpl : (backTo pos (starEach es X.env)).any (·.1) = false := by rfl) :
    SP X E pu (.Call (.Name x p) (e :: es) [] pos) (cMake C g mm df) :=
  pe_imp (pe_make M F hr hg hm hb hd hx ha hdb he hpl) fun pins s σ H Q I ⟨B, ε, tmp, h, w⟩ => gar (wiP tmp Q) h w fun rs vs ε1 H1 hl h1 w1 => by
    obtain ⟨ds, F, fp, hF, r, w2⟩ := gdata (wiP tmp Q) h1 hl w1
    exact make_ok hdf hF r w2
end
end Dv

-- Dv16
namespace Dv
open PySem PySem.Spec PyProof.Rows L2

/-! ### a dict is locked for a while -/
def locked (F : Hp) (a : Addr) (o : Obj) (ks : List (Key × V)) : Hp := upd F a (.frz o (.dK ks))
section
variable {K : Fg} {F : Hp} {a : Addr} {o : Obj} {ks : List (Key × V)}
theorem lk_rd {b : Addr} {ks' : List (Key × V)} (h : F a = some (.dK ks)) (r : Rd F b (.dK ks')) : Rd (locked F a o ks) b (.dK ks') := by
  by_cases z : b = a
  · subst z
    rcases r with r | ⟨o', r⟩
    · rw [h] at r; cases r
      exact .inr ⟨o, upd_same⟩
    · rw [h] at r; cases r
  · rcases r with r | ⟨o', r⟩
    · exact .inl (by unfold locked; rw [upd_ne z]; exact r)
    · exact .inr ⟨o', by unfold locked; rw [upd_ne z]; exact r⟩
theorem lk_ne {b : Addr} {u : HO} (h : F a = some (.dK ks)) (r : F b = some u) (hu : u ≠ .dK ks) : locked F a o ks b = some u := by
  have z : b ≠ a := fun e => by subst e; rw [h] at r; cases r; exact hu rfl
  unfold locked; rw [upd_ne z]; exact r
mutual
theorem Rep.lk (h : F a = some (.dK ks)) : ∀ (d : D) (v : V), Rep K F d v → Rep K (locked F a o ks) d v
  | .non, v, r => r
  | .bl b, v, r => r
  | .int i, v, r => r
  | .str x, v, r => r
  | .lst xs, v, r => by
    unfold Rep at r ⊢
    obtain ⟨p, vs, rfl, h1, h2⟩ := r
    exact ⟨p, vs, rfl, lk_ne h h1 (fun z => by cases z), Reps.lk h xs vs h2⟩
  | .frl xs, v, r => by
    unfold Rep at r ⊢
    obtain ⟨p, vs, rfl, h1, h2⟩ := r
    refine ⟨p, vs, rfl, ?_, Reps.lk h xs vs h2⟩
    rcases h1 with (h1 | ⟨o', h1⟩) | h1
    · exact .inl (.inl (lk_ne h h1 (fun z => by cases z)))
    · exact .inl (.inr ⟨o', lk_ne h h1 (fun z => by cases z)⟩)
    · exact .inr h1
  | .tup xs, v, r => by
    unfold Rep at r ⊢
    obtain ⟨p, vs, rfl, h1, h2⟩ := r
    refine ⟨p, vs, rfl, ?_, Reps.lk h xs vs h2⟩
    rcases h1 with (h1 | ⟨o', h1⟩) | h1
    · exact .inl (.inl (lk_ne h h1 (fun z => by cases z)))
    · exact .inl (.inr ⟨o', lk_ne h h1 (fun z => by cases z)⟩)
    · exact .inr h1
  | .dct l kvs, v, r => by
    unfold Rep at r ⊢
    obtain ⟨p, ks', rfl, ⟨h1, h1'⟩, h2⟩ := r
    refine ⟨p, ks', rfl, ⟨lk_rd h h1, fun z => ?_⟩, RepK.lk h kvs ks' h2⟩
    obtain ⟨o', q⟩ := h1' z
    exact ⟨o', lk_ne h q (fun z => by cases z)⟩
  | .obj C fs, v, r => by
    unfold Rep at r ⊢
    obtain ⟨p, dx, gs, rfl, h1, h2⟩ := r
    exact ⟨p, dx, gs, rfl, lk_ne h h1 (fun z => by cases z), RepF.lk h fs gs h2⟩
theorem Reps.lk (h : F a = some (.dK ks)) : ∀ (d : List D) (v : List V), Reps K F d v → Reps K (locked F a o ks) d v
  | [], v, r => by unfold Reps at r ⊢; exact r
  | d :: ds, v, r => by
    unfold Reps at r ⊢
    obtain ⟨v, vs, rfl, h1, h2⟩ := r
    exact ⟨v, vs, rfl, Rep.lk h d v h1, Reps.lk h ds vs h2⟩
theorem RepK.lk (h : F a = some (.dK ks)) : ∀ (d : List (Key × D)) (v : List (Key × V)), RepK K F d v → RepK K (locked F a o ks) d v
  | [], v, r => by unfold RepK at r ⊢; exact r
  | (k, d) :: ds, v, r => by
    unfold RepK at r ⊢
    obtain ⟨v, vs, rfl, h0, h1, h2⟩ := r
    exact ⟨v, vs, rfl, h0, Rep.lk h d v h1, RepK.lk h ds vs h2⟩
theorem RepF.lk (h : F a = some (.dK ks)) : ∀ (d : List (Str × D)) (v : List (Str × V)), RepF K F d v → RepF K (locked F a o ks) d v
  | [], v, r => by unfold RepF at r ⊢; exact r
  | (k, d) :: ds, v, r => by
    unfold RepF at r ⊢
    obtain ⟨v, vs, rfl, h1, h2⟩ := r
    exact ⟨v, vs, rfl, Rep.lk h d v h1, RepF.lk h ds vs h2⟩
end
end
/-- the datum, its dict (or its field's) locked -/
def putFD (f : Str) (v : D) : List (Str × D) → List (Str × D)
  | [] => []
  | (g, x) :: r => if g = f then (g, v) :: r else (g, x) :: putFD f v r
def lkD : Option Str → D → Option D
  | none, .dct _ kvs => some (.dct true kvs)
  | some f, .obj C fs => match fs.lookup f with
    | some (.dct _ kvs) => some (.obj C (putFD f (.dct true kvs) fs))
    | _ => none
  | _, _ => none
section
variable {K : Fg} {F : Hp}
theorem RepF.relock {f : Str} {kvs : List (Key × D)} {l : Bool} : ∀ {fs : List (Str × D)} {gs : List (Str × V)}, RepF K F fs gs → fs.lookup f = some (.dct l kvs) → ∃ b ks, Rd F b (.dK ks) ∧ RepK K F kvs ks ∧
    ∀ F1, RepF K F1 fs gs → RepK K F1 kvs ks → (∃ o, F1 b = some (.frz o (.dK ks))) → RepF K F1 (putFD f (.dct true kvs) fs) gs
  | [], gs, h, e => by simp at e
  | (x, d) :: r, gs, h, e => by
    unfold RepF at h
    obtain ⟨v, gs', rfl, h1, h2⟩ := h
    by_cases z : f = x
    · subst z
      simp only [List.lookup, BEq.rfl] at e
      cases e
      unfold Rep at h1
      obtain ⟨b, ks, rfl, ⟨q1, q2⟩, q3⟩ := h1
      refine ⟨b, ks, q1, q3, fun F1 hF hk ⟨o, ho⟩ => ?_⟩
      unfold RepF at hF
      obtain ⟨v, gs2, e2, k1, k2⟩ := hF
      cases e2
      unfold putFD
      rw [if_pos rfl]
      unfold RepF
      refine ⟨_, _, rfl, ?_, k2⟩
      unfold Rep
      exact ⟨b, ks, rfl, ⟨.inr ⟨o, ho⟩, fun _ => ⟨o, ho⟩⟩, hk⟩
    · have z' : (f == x) = false := by simpa using z
      simp only [List.lookup, z'] at e
      obtain ⟨b, ks, q1, q3, q4⟩ := RepF.relock h2 e
      refine ⟨b, ks, q1, q3, fun F1 hF hk ho => ?_⟩
      unfold RepF at hF
      obtain ⟨v, gs2, e2, k1, k2⟩ := hF
      cases e2
      unfold putFD
      rw [if_neg (fun e => z e.symm)]
      unfold RepF
      exact ⟨_, _, rfl, k1, q4 F1 k2 hk ho⟩
theorem Rep.relock {p : Option Str} {d d' : D} {v : V} (r : Rep K F d v) (e : lkD p d = some d') : ∃ b ks, (F b = some (.dK ks) ∧ ∀ o, Rep K (locked F b o ks) d' v) ∨ ∃ o, F b = some (.frz o (.dK ks)) ∧ Rep K F d' v := by
  cases p with
  | none =>
    cases d with
    | dct l kvs =>
      cases e
      unfold Rep at r
      obtain ⟨b, ks, rfl, ⟨q1, q2⟩, q3⟩ := r
      refine ⟨b, ks, ?_⟩
      rcases q1 with q1 | ⟨o, q1⟩
      · refine .inl ⟨q1, fun o => ?_⟩
        unfold Rep
        exact ⟨b, ks, rfl, ⟨.inr ⟨o, upd_same⟩, fun _ => ⟨o, upd_same⟩⟩, RepK.lk q1 _ _ q3⟩
      · refine .inr ⟨o, q1, ?_⟩
        unfold Rep
        exact ⟨b, ks, rfl, ⟨.inr ⟨o, q1⟩, fun _ => ⟨o, q1⟩⟩, q3⟩
    | _ => cases e
  | some f =>
    cases d with
    | obj C fs =>
      unfold lkD at e
      simp only at e
      split at e
      · rename_i l kvs hl
        cases e
        unfold Rep at r
        obtain ⟨p, dx, gs, rfl, h1, h2⟩ := r
        obtain ⟨b, ks, q1, q3, q4⟩ := h2.relock hl
        refine ⟨b, ks, ?_⟩
        rcases q1 with q1 | ⟨o, q1⟩
        · refine .inl ⟨q1, fun o => ?_⟩
          unfold Rep
          exact ⟨p, dx, gs, rfl, lk_ne q1 h1 (fun z => by cases z), q4 _ (RepF.lk q1 _ _ h2) (RepK.lk q1 _ _ q3) ⟨o, upd_same⟩⟩
        · refine .inr ⟨o, q1, ?_⟩
          unfold Rep
          exact ⟨p, dx, gs, rfl, h1, q4 _ h2 q3 ⟨o, q1⟩⟩
      · cases e
    | _ => cases e
end
section
variable {K : Fg} {B : Bs} {F H : Hp} {σ : L2.St} {ε : Ep} {tmp : Tp} {fp : List Addr} {b : Addr} {o : Obj} {ks : List (Key × V)}
mutual
theorem Own.lk (h : F b = some (.dK ks)) : ∀ (s : SV) (v : V) (f : List Addr), b ∉ f → Own K F H s v f → Own K (locked F b o ks) (locked H b o ks) s v f
  | .un, v, f, n, q => by unfold Own at q ⊢; exact q
  | .dat d, v, f, n, q => by unfold Own at q ⊢; exact ⟨q.1, Rep.lk h d v q.2⟩
  | .ol xs, v, f, n, q => by
    unfold Own at q ⊢
    obtain ⟨p, vs, rfl, rfl, h1, h2⟩ := q
    exact ⟨p, vs, rfl, rfl, by unfold locked; rw [upd_ne (fun e => n (by simp [e]))]; exact h1, Reps.lk h _ _ h2⟩
  | .od xs, v, f, n, q => by
    unfold Own at q ⊢
    obtain ⟨p, vs, rfl, rfl, h1, h2⟩ := q
    exact ⟨p, vs, rfl, rfl, by unfold locked; rw [upd_ne (fun e => n (by simp [e]))]; exact h1, RepK.lk h _ _ h2⟩
  | .oi C fs, v, f, n, q => by
    unfold Own at q ⊢
    obtain ⟨p, dx, gs, f2, rfl, rfl, h1, h2, h3⟩ := q
    exact ⟨p, dx, gs, f2, rfl, rfl, by unfold locked; rw [upd_ne (fun e => n (by simp [e]))]; exact h1, by unfold locked; rw [upd_ne (fun e => n (by simp [e]))]; exact h2, OwnF.lk h fs gs f2 (fun z => n (by simp [z])) h3⟩
theorem OwnF.lk (h : F b = some (.dK ks)) : ∀ (s : List (Str × SV)) (v : List (Str × V)) (f : List Addr), b ∉ f → OwnF K F H s v f → OwnF K (locked F b o ks) (locked H b o ks) s v f
  | [], v, f, n, q => by unfold OwnF at q ⊢; exact q
  | (x, s) :: r, v, f, n, q => by
    unfold OwnF at q ⊢
    obtain ⟨w, gs, f1, f2, rfl, rfl, h1, h2⟩ := q
    exact ⟨w, gs, f1, f2, rfl, rfl, Own.lk h s w f1 (fun z => n (by simp [z])) h1, OwnF.lk h r gs f2 (fun z => n (by simp [z])) h2⟩
end
theorem OwnL.lk (h : F b = some (.dK ks)) : ∀ {l : List PR} {f : List Addr}, b ∉ f → OwnL K F H l f → OwnL K (locked F b o ks) (locked H b o ks) l f
  | [], f, n, q => q
  | (u, s) :: r, f, n, q => by
    obtain ⟨f1, f2, rfl, h1, h2⟩ := q
    refine ⟨f1, f2, rfl, ?_, OwnL.lk h (fun z => n (by simp [z])) h2⟩
    cases u with
    | none => exact h1
    | some v => exact Own.lk h s v f1 (fun z => n (by simp [z])) h1
/-- a datum in a slot stands for another, too -/
theorem StF.recast (h : StF K B F H σ ε tmp fp) {i : Nat} {d d' : D} {v : V} (e : ε[i]? = some (.dat d)) (ev : σ[i]? = some (some v)) (r : Rep K F d' v) : ∃ fp', StF K B F H σ (ε.set i (.dat d')) tmp fp' := by
  obtain ⟨fp1, h1⟩ := (h.push r).back rfl ev
  exact ⟨fp1, h1⟩
theorem StF.lk (h : StF K B F H σ ε tmp fp) (hb : F b = some (.dK ks)) : StF K ⟨locked F b o ks, locked H b o ks, fp, B.fx⟩ (locked F b o ks) (locked H b o ks) σ ε tmp fp where
  sub0 := Same.refl _
  sub := fun p u q => by
    unfold locked at q ⊢
    by_cases z : p = b
    · subst z; rw [upd_same] at q ⊢; exact q
    · rw [upd_ne z] at q ⊢; exact h.sub _ _ q
  keep := fun q u a _ => a
  there := fun q u a => ⟨u, a⟩
  new := fun p u q => .inl q
  len := h.len
  own := OwnL.lk hb (fun z => by rw [h.out b z] at hb; cases hb) h.own
  nd := h.nd
  out := fun p hp => by
    have z : p ≠ b := fun e => by subst e; rw [h.out p hp] at hb; cases hb
    unfold locked; rw [upd_ne z]; exact h.out p hp
  old := fun p hp => .inl hp
  fix := h.fix
end
/-- the dict of a slot's datum is locked while m runs; what comes is flat -/
def lockE (i : Nat) (p : Option Str) (m : ME) : ME := fun ε => match ε[i]? with
  | some (.dat d) => match lkD p d with
    | some d' => lendR ε (m (ε.set i (.dat d')))
    | none => .stuck
  | _ => .stuck
theorem sp_lock {X : Cx} {E : XK} {pu : Bool} {e : Expr} {m : ME} (i : Nat) (p : Option Str) (h : SP X E true e m) : SP X E pu e (lockE i p m) := by
  have h2 : PE X e (fun σ H Q => tP X.K E true m σ H Q ∨ tLockE (tP X.K E true m) σ H Q) := by
    refine ⟨fun pins s σ H Q I q => ?_⟩
    rcases q with q | q
    · exact h.run pins s σ H Q I q
    · exact (pe_lock h).run pins s σ H Q I q
  refine pe_imp h2 fun pins s σ H Q I ⟨B, ε, tmp, hs, w⟩ => ?_
  unfold lockE at w
  cases q : ε[i]? with
  | none => rw [q] at w; exact w.elim
  | some r =>
    rw [q] at w
    cases r with
    | dat d =>
      simp only at w
      cases t : lkD p d with
      | none => rw [t] at w; exact w.elim
      | some d' =>
        rw [t] at w
        simp only at w
        obtain ⟨F, fp, hs⟩ := hs
        obtain ⟨v, ev, rv⟩ := hs.read q
        -- what the run gives
        have key : ∃ d2 ε', m (ε.set i (.dat d')) = .ok (.dat d2) ε' ∧ d2.flat = true ∧ gP X.K E pu B σ tmp Q ε H (.ok (.dat d2) ε) := by
          cases q2 : m (ε.set i (.dat d')) with
          | err x ε' => rw [q2] at w; exact w.elim
          | stuck => rw [q2] at w; exact w.elim
          | ok r ε' =>
            rw [q2] at w
            unfold lendR at w
            simp only at w
            by_cases z : flatR r = true
            · rw [if_pos z] at w
              cases r with
              | dat d2 => exact ⟨d2, ε', rfl, z, w⟩
              | _ => cases z
            · rw [if_neg z] at w; exact w.elim
        obtain ⟨d2, ε', em, fl, w⟩ := key
        obtain ⟨b, ks, r2 | ⟨o, hb, r2⟩⟩ := rv.relock t
        · obtain ⟨hb, r2⟩ := r2
          right
          refine ⟨b, _, hs.sub _ _ hb, trivial, fun o => ?_⟩
          have h3 := hs.lk (o := o) hb
          obtain ⟨fp4, h4⟩ := h3.recast q ev (r2 o)
          refine ⟨_, _, _, h4.sta, ?_⟩
          rw [em]
          rintro v2 H' ⟨F', fp', h5⟩ pq
          obtain ⟨rfl, sH⟩ := pq rfl
          obtain ⟨rr, _⟩ := h5.datum rfl
          have hb' : F' b = some (.frz o (.dK ks)) := h5.sub0 b _ upd_same
          refine ⟨h5.sub _ _ hb', ?_⟩
          have s1 : Same H (upd H' b (.dK ks)) := fun p u z => by
            by_cases e : p = b
            · subst e
              rw [hs.sub _ _ hb] at z; cases z
              exact upd_same
            · rw [upd_ne e]
              exact sH _ _ (by show upd H b _ p = _; rw [upd_ne e]; exact z)
          have s2 : Same F (upd F' b (.dK ks)) := fun p u z => by
            by_cases e : p = b
            · subst e
              rw [hb] at z; cases z
              exact upd_same
            · rw [upd_ne e]
              exact h5.sub0 _ _ (by show locked F b o ks p = _; unfold locked; rw [upd_ne e]; exact z)
          have g : StF X.K B (upd F' b (.dK ks)) (upd H' b (.dK ks)) σ ε tmp fp := by
            refine hs.rebuild s2 (fun p u z => ?_) (fun p u z _ => s1 _ _ z) (fun p u z => ⟨u, s1 _ _ z⟩) (fun p u z => ?_) hs.len (hs.own.mono s2 fun p hp => ?_) hs.nd (fun p hp => ?_) (fun p hp => .inl hp) hs.fix
            · by_cases e : p = b
              · subst e; rw [upd_same] at z ⊢; exact z
              · rw [upd_ne e] at z ⊢; exact h5.sub _ _ z
            · by_cases e : p = b
              · subst e; rw [upd_same] at z; cases z; exact .inl hb
              · rw [upd_ne e] at z
                rcases h5.new p u z with y | y | y
                · left
                  have y : locked F b o ks p = some u := y
                  unfold locked at y; rw [upd_ne e] at y; exact y
                · right; left
                  have y : locked H b o ks p = none := y
                  unfold locked at y; rw [upd_ne e] at y; exact y
                · exact .inr (.inr y)
            · obtain ⟨u, hu⟩ := hs.trk p hp
              rw [hu]; exact s1 _ _ hu
            · have e : p ≠ b := fun e => by subst e; rw [hs.out p hp] at hb; cases hb
              rw [upd_ne e]
              cases qq : F' p with
              | none => rfl
              | some u =>
                exfalso
                -- the footprints are as they were
                obtain ⟨ga, gb, rfl, _, hB⟩ := h5.pop rfl
                obtain ⟨o', ft', f1', f', f2', e1', rfl, h3', h4', h5', h6'⟩ := hB.slot (i := i) (s := .dat d') (by
                  rw [List.getElem?_set_self (by
                    have := hs.len
                    have := (List.getElem?_eq_some_iff.mp ev).1
                    omega)])
                obtain ⟨o2, ft, f1, f, f2, e1, efp, k3, k4, k5, k6⟩ := hs.slot q
                rw [ev] at e1; cases e1
                have k4 : Own X.K F H (.dat d) v f := k4
                unfold Own at k4
                have hσ : σ.set i (some v) = σ := set_at ev
                have hzs : σ.zip (ε.set i (.dat d')) = (σ.zip ε).set i (some v, .dat d') := by rw [← zip_set, hσ]
                rw [hzs, List.take_set_of_le (Nat.le_refl i)] at h5'
                rw [hzs, List.drop_set_of_lt (Nat.lt_succ_self i)] at h6'
                have nb : ∀ {l : List PR} {f0 : List Addr}, OwnL X.K F H l f0 → (∀ p ∈ f0, p ∈ fp) → OwnL X.K (locked F b o ks) (locked H b o ks) l f0 := fun w hw => OwnL.lk hb (fun z => by rw [hs.out b (hw b z)] at hb; cases hb) w
                have d1 := OwnL.det sH (nb k3 (fun p hp => by rw [efp]; simp [hp])) h3'
                have d2' := OwnL.det sH (nb k5 (fun p hp => by rw [efp]; simp [hp])) h5'
                have d3 := OwnL.det sH (nb k6 (fun p hp => by rw [efp]; simp [hp])) h6'
                subst d1; subst d2'; subst d3
                have hp2 : p ∈ ft ++ (f1 ++ f2) := by
                  rw [efp, k4.1] at hp
                  simpa using hp
                have : F' p = none := h5.out p (by
                  simp only [List.mem_append] at hp2 ⊢
                  rcases hp2 with y | y | y <;> simp [y])
                rw [this] at qq; cases qq
          refine w v2 _ (g.pushS (Rep.flat (fun a vs y => ?_) d2 v2 fl rr)) (Pq.of s1)
          rcases y with (y | ⟨o', y⟩) | y
          · have e : a ≠ b := fun e => by subst e; rw [hb'] at y; cases y
            exact .inl (.inl (by rw [upd_ne e]; exact y))
          · have e : a ≠ b := fun e => by subst e; rw [hb'] at y; cases y
            exact .inl (.inr ⟨o', by rw [upd_ne e]; exact y⟩)
          · exact .inr y
        · left
          obtain ⟨fp4, h4⟩ := hs.rebase.recast q ev r2
          refine ⟨{ B with F0 := F }, _, tmp, h4.sta, ?_⟩
          rw [em]
          rintro v2 H' ⟨F', fp', h5⟩ pq
          obtain ⟨rfl, sH⟩ := pq rfl
          have hi : i < ε.length := (List.getElem?_eq_some_iff.mp q).1
          obtain ⟨fp6, h6⟩ := h5.recast (i := i) (d := d') (d' := d) (List.getElem?_set_self hi) ev (Rep.mono h5.sub0 _ _ rv)
          rw [List.set_set, set_at q] at h6
          exact w v2 H' (hs.unbase h6).sta (Pq.of sH)
    | _ => exact w.elim
end Dv

-- Dv17
namespace Dv
open PySem PySem.Spec PyProof.Rows L2

theorem pss_lock {X : Cx} {b : List Stmt} {t : TS} (h : PSs X b t) : PSs X b (tLock t) := by
  refine ⟨fun pins s σ H D I hw => ?_⟩
  obtain ⟨d, u, hd, mu, hw⟩ := hw
  obtain ⟨od, I1⟩ := I.lock hd mu
  refine thn (h.run pins s σ _ _ I1 (hw od)) fun f s1 q => ?_
  cases f with
  | next => obtain ⟨σ', H', I2, e, q⟩ := q; exact ⟨σ', _, I2.unlock e (I.nofrz hd mu), q⟩
  | brk => obtain ⟨σ', H', I2, e, q⟩ := q; exact ⟨σ', _, I2.unlock e (I.nofrz hd mu), q⟩
  | cont => obtain ⟨σ', H', I2, e, q⟩ := q; exact ⟨σ', _, I2.unlock e (I.nofrz hd mu), q⟩
  | ret v => obtain ⟨x, σ', H', I2, r, e, q⟩ := q; exact ⟨x, σ', _, I2.unlock e (I.nofrz hd mu), r, q⟩
theorem pss_or {X : Cx} {b : List Stmt} {t t' : TS} (h : PSs X b t) (h' : PSs X b t') : PSs X b (fun D σ H => t D σ H ∨ t' D σ H) := ⟨fun pins s σ H D I q => by
  rcases q with q | q
  · exact h.run pins s σ H D I q
  · exact h'.run pins s σ H D I q⟩
/-- a def whose i-th parameter, a dict, is locked while it runs; what it gives is flat -/
def fnRF : Rs Fl → Ot SV
  | .ok (.rt (.dat d)) _ => if d.flat = true then okd d else .stuck
  | .ok .nx _ => okd .non
  | _ => .stuck
def lkAt (i : Nat) (ds : List D) : List D := match ds[i]? with
  | some (.dct _ kvs) => ds.set i (.dct true kvs)
  | _ => ds
def fnL (i n len : Nat) (m : MS) : List D → Ot SV := fun ds => if ds.length = n then fnRF (m ((lkAt i ds).map .dat ++ List.replicate (len - n) .un)) else .stuck
theorem fnRF_ok {o : Rs Fl} {r : SV} (h : fnRF o = .ok r) : ∃ d, r = .dat d ∧ d.flat = true ∧ ((∃ ε, o = .ok (.rt (.dat d)) ε) ∨ (d = .non ∧ ∃ ε, o = .ok .nx ε)) := by
  unfold fnRF at h
  split at h
  · split at h
    · rename_i d ε z
      cases h; exact ⟨d, rfl, z, .inl ⟨ε, rfl⟩⟩
    · cases h
  · rename_i ε
    cases h; exact ⟨.non, rfl, rfl, .inr ⟨rfl, ε, rfl⟩⟩
  · cases h
theorem fnRF_err {o : Rs Fl} {x : Xc} (h : fnRF o = .err x) : False := by
  unfold fnRF at h
  split at h
  · split at h <;> cases h
  · cases h
  · cases h
section
variable {P : Program} {w : World} {K : Fg} {mg : Str → Option Value} {base : Heap} {x qual : Str} {params : Arguments} {body : List Stmt} {scope : Scope} {dvs : List V} {kws : List (Str × V)} {f : Addr} {fd : FuncData} {N ps : List Str} {k : Nat}
theorem rep_flat_ne {F' F2 : Hp} {b : Addr} {o : Obj} {ks : List (Key × V)} (hb : F' b = some (.frz o (.dK ks))) (h2 : ∀ p, p ≠ b → F2 p = F' p) {d : D} {v : V} (fl : d.flat = true) (r : Rep K F' d v) : Rep K F2 d v :=
  Rep.flat (fun a vs y => by
    rcases y with (y | ⟨o', y⟩) | y
    · have e : a ≠ b := fun e => by subst e; rw [hb] at y; cases y
      exact .inl (.inl (by rw [h2 a e]; exact y))
    · have e : a ≠ b := fun e => by subst e; rw [hb] at y; cases y
      exact .inl (.inr ⟨o', by rw [h2 a e]; exact y⟩)
    · exact .inr y) d v fl r
theorem Reps.setAt {F : Hp} {ds : List D} {vs : List V} {i : Nat} {d' : D} {v : V} (h : Reps K F ds vs) (e : vs[i]? = some v) (r : Rep K F d' v) : Reps K F (ds.set i d') vs := by
  have := h.set i r
  rw [set_at e] at this; exact this
theorem fn_okL (i : Nat) {m : MS} (F : FunD K x qual params body scope dvs kws f fd) (S : FnScope N ps scope)
    (hbody : ∀ (cdv : Value) (A : Around) (outer : List Env) (s : Shared) (H : Hp) (E : XK), Room k (A.deeper (envOfC qual scope s.heap.objs.size f cdv)) → SB (CD P w K mg base N qual scope f cdv A outer s H E) E [] body m) :
    FnOk P w K mg base (L2.CX P w) (k + 1) f fd ps (spF K (fnL i ps.length N.length m)) := by
  refine fn_body F S (fun vs H Q E h => ?_) (fun cdv A outer s H vs Q E hr h => ⟨_, pss_or (hbody cdv A outer s H E hr) (pss_lock (hbody cdv A outer s H E hr)), ?_⟩)
  · obtain ⟨F0, ds, _, r, q⟩ := h
    rw [r.length]
    by_cases z : ds.length = ps.length
    · exact z
    · unfold fnL at q; rw [if_neg z] at q; exact q.elim
  · obtain ⟨F0, ds, sF, r, q⟩ := h
    have z : ds.length = ps.length := by
      by_cases z : ds.length = ps.length
      · exact z
      · unfold fnL at q; rw [if_neg z] at q; exact q.elim
    unfold fnL at q
    rw [if_pos z] at q
    cases e : fnRF (m ((lkAt i ds).map .dat ++ List.replicate (N.length - ps.length) .un)) with
    | stuck => rw [e] at q; exact q.elim
    | err x => exact (fnRF_err e).elim
    | ok rr =>
      rw [e] at q
      obtain ⟨d2, rfl, fl, ho⟩ := fnRF_ok e
      -- the run without a lock
      have plain : Reps K F0 (lkAt i ds) vs → tS K E [] m { nx := fun _ H' => Q .non H', rt := Q } (L2.start N vs) H := by
        intro r'
        have hl : (lkAt i ds).length = ps.length := by
          unfold lkAt
          split
          · rw [List.length_set]; exact z
          · exact z
        have h0 := sta_start (K := K) N rfl hl sF r'
        refine ⟨_, _, _, rfl, h0.sta, ?_⟩
        have gr : ∀ {σ' : L2.St} {ε' : Ep} {tmp : Tp} {F' H' : Hp} {fp : List Addr}, StF K ⟨F0, H, [], []⟩ F' H' σ' ε' tmp fp → Gr F0 H F' H' := fun h => ⟨fun q o a => h.keep q o a (by simp), h.sub0, h.sub, fun p o a => by
          rcases h.new p o a with z | z | z
          · exact .inl z
          · exact .inr z
          · cases z⟩
        rcases ho with ⟨ε', eo⟩ | ⟨rfl, ε', eo⟩
        · rw [eo]
          intro v σ' H' ⟨F', fp, h'⟩
          obtain ⟨rd, h2⟩ := h'.datum rfl
          exact q v F' H' [] (gr h') (by unfold Own; exact ⟨rfl, rd⟩) List.nodup_nil (fun p hp => by cases hp)
        · rw [eo]
          intro σ' H' ⟨F', fp, h'⟩
          exact q .non F' H' [] (gr h') (by unfold Own; exact ⟨rfl, rep_non⟩) List.nodup_nil (fun p hp => by cases hp)
      -- is there something to lock?
      cases qi : ds[i]? with
      | none =>
        left
        have : lkAt i ds = ds := by unfold lkAt; rw [qi]
        exact plain (by rw [this]; exact r)
      | some d =>
        by_cases hd : ∃ l kvs, d = .dct l kvs
        · obtain ⟨l, kvs, rfl⟩ := hd
          have el : lkAt i ds = ds.set i (.dct true kvs) := by unfold lkAt; rw [qi]
          obtain ⟨v, ev, rv⟩ := r.get' qi
          obtain ⟨b, ks, ⟨hb, r2⟩ | ⟨o, hb, r2⟩⟩ := rv.relock (p := none) (d' := .dct true kvs) rfl
          · right
            refine ⟨b, _, sF _ _ hb, trivial, fun o => ?_⟩
            have r3 : Reps K (locked F0 b o ks) (lkAt i ds) vs := by
              rw [el]; exact (Reps.lk hb _ _ r).setAt ev (r2 o)
            have sF3 : Same (locked F0 b o ks) (upd H b (.frz o (.dK ks))) := fun p u y => by
              unfold locked at y
              by_cases e : p = b
              · subst e; rw [upd_same] at y ⊢; exact y
              · rw [upd_ne e] at y ⊢; exact sF _ _ y
            have hl : (lkAt i ds).length = ps.length := by rw [el, List.length_set]; exact z
            have h0 := sta_start (K := K) N rfl hl sF3 r3
            refine ⟨_, _, _, rfl, h0.sta, ?_⟩
            have gr : ∀ {σ' : L2.St} {ε' : Ep} {tmp : Tp} {F' H' : Hp} {fp : List Addr}, StF K ⟨locked F0 b o ks, upd H b (.frz o (.dK ks)), [], []⟩ F' H' σ' ε' tmp fp → F' b = some (.frz o (.dK ks)) ∧ Gr F0 H (upd F' b (.dK ks)) (upd H' b (.dK ks)) := fun h => by
              refine ⟨h.sub0 b _ upd_same, fun p u y => ?_, fun p u y => ?_, fun p u y => ?_, fun p u y => ?_⟩
              · by_cases e : p = b
                · subst e; rw [sF _ _ hb] at y; cases y; exact upd_same
                · rw [upd_ne e]; exact h.keep p u (by show upd H b _ p = _; rw [upd_ne e]; exact y) (by simp)
              · by_cases e : p = b
                · subst e; rw [hb] at y; cases y; exact upd_same
                · rw [upd_ne e]; exact h.sub0 p u (by show locked F0 b o ks p = _; unfold locked; rw [upd_ne e]; exact y)
              · by_cases e : p = b
                · subst e; rw [upd_same] at y ⊢; exact y
                · rw [upd_ne e] at y ⊢; exact h.sub _ _ y
              · by_cases e : p = b
                · subst e; rw [upd_same] at y; cases y; exact .inl hb
                · rw [upd_ne e] at y
                  rcases h.new p u y with y | y | y
                  · left
                    have y : locked F0 b o ks p = some u := y
                    unfold locked at y; rw [upd_ne e] at y; exact y
                  · right
                    have y : upd H b (.frz o (.dK ks)) p = none := y
                    rw [upd_ne e] at y; exact y
                  · cases y
            rcases ho with ⟨ε', eo⟩ | ⟨rfl, ε', eo⟩
            · rw [eo]
              intro v2 σ' H' ⟨F', fp, h'⟩
              obtain ⟨rd, h2⟩ := h'.datum rfl
              obtain ⟨g1, g2⟩ := gr h'
              exact ⟨h'.sub _ _ g1, q v2 _ _ [] g2 (by unfold Own; exact ⟨rfl, rep_flat_ne g1 (fun p e => upd_ne e) fl rd⟩) List.nodup_nil (fun p hp => by cases hp)⟩
            · rw [eo]
              intro σ' H' ⟨F', fp, h'⟩
              obtain ⟨g1, g2⟩ := gr h'
              exact ⟨h'.sub _ _ g1, q .non _ _ [] g2 (by unfold Own; exact ⟨rfl, rep_non⟩) List.nodup_nil (fun p hp => by cases hp)⟩
          · left
            exact plain (by rw [el]; exact r.setAt ev r2)
        · left
          have : lkAt i ds = ds := by
            unfold lkAt
            rw [qi]
            cases d with
            | dct l kvs => exact absurd ⟨l, kvs, rfl⟩ hd
            | _ => rfl
          exact plain (by rw [this]; exact r)
end
end Dv

-- Dv18
namespace Dv
open PySem PySem.Spec PyProof.Rows L2

/-! ### o[i], x = e -/
def pair? : D → Option (D × D)
  | .tup [a, b] => some (a, b)
  | _ => none
theorem pair_some {d a b : D} (h : pair? d = some (a, b)) : d = .tup [a, b] := by
  unfold pair? at h
  split at h
  · cases h; rfl
  · cases h
def sPutT (pl : Pl) (mi : ME) (j : Nat) (me : ME) : MS := bd me fun r => bd (lft (ofO r.toD)) fun d => bd (lft (ofO (pair? d))) fun p => ifOw pl (bd mi fun q => bd (lft (ofO q.toD)) fun i => bd (modP pl (putO i p.1)) fun _ => bd (bindP (.nm j) p.2) fun _ => pr .nx)
section
variable {X : Cx} {E : XK} {fi : List Nat} {o i e : Expr} {pl : Pl} {mi me : ME} {j : Nat} {x : Str} {tpos px pt pos : Pos} {kt : Nat}
theorem ss_putT (hu : X.A.units + 80 < cLine) (hc : X.calm = true) (hN : X.N.Nodup) (hR : SR X o pl) (hi : SP X E false i mi) (he : SP X E false e me) (hp : pl.ok false = true := by rfl)
    (hj : X.N[j]? = some x := by rfl) (hx : Loc X.env.scope x := by first | exact Or.inl rfl | exact Or.inr rfl) (hfi : fi.contains j = false := by rfl) (hf : X.fn x = true ∨ X.env.scope.names.lookup x = some .local := by first | exact .inl rfl | exact .inr rfl)
    (ha : ∀ v, assign (.Subscript o i tpos) X.env v = (do
      let ov ← holding [v] (eval o X.env)
      let iv ← holding [v, ov] (eval i X.env)
      standAt tpos
      holding [v, ov, iv] (setItem ov iv v)
      release [v, ov, iv] []) := by intro _; rfl)
    (h1 : (assignEach (.Subscript o i tpos :: [.Name x px]) X.env).map (·.2) = assign (.Subscript o i tpos) X.env :: (assignEach [.Name x px] X.env).map (·.2) := by rfl)
    (h2 : (assignEach (.Name x px :: []) X.env).map (·.2) = assign (.Name x px) X.env :: (assignEach [] X.env).map (·.2) := by rfl)
    (hn : (assignEach [.Subscript o i tpos, .Name x px] X.env).length = 2 := by rfl) (hst : (assignEach [.Subscript o i tpos, .Name x px] X.env).findIdx? (·.1) = none := by rfl)
    (hs : swapsWithSole [.Tuple [.Subscript o i tpos, .Name x px] kt pt] e pos.line X.env = pure false := by rfl) (hw : swappedStores [.Tuple [.Subscript o i tpos, .Name x px] kt pt] e X.env = pure none := by rfl)
    (h3 : (assignEach [.Tuple [.Subscript o i tpos, .Name x px] kt pt] X.env).map (·.2) = [assign (.Tuple [.Subscript o i tpos, .Name x px] kt pt) X.env] := by rfl) :
    SS X E fi (.Assign [.Tuple [.Subscript o i tpos, .Name x px] kt pt] e pos) (sPutT pl mi j me) :=
  ps_imp (ps_asg he (pg_tup (n := 2) hc (pgs_cons (pg_sub hR hi (set_all hu) ha) (pgs_cons (pg_name hN hj hx hf) pgs_nil h2) h1) hn hst) hs hw h3) fun pins s σ H D I ⟨B, ε, tmp, hfx, h, w⟩ => gex (wiS tmp D) h w fun r v ε1 H1 h1 w1 => by
    obtain ⟨d, t, w1⟩ := (wiS tmp D).ofO w1
    obtain ⟨⟨d0, d1⟩, t2, w1b⟩ := (wiS tmp D).ofO w1
    have e2 := pair_some t2
    subst e2
    obtain ⟨F, fp, hF, rr⟩ := h1.datum rfl t
    obtain ⟨a, ys, rfl, q1, q2⟩ := rep_tupl (Same.refl F) rr
    obtain ⟨v0, v1, rfl, r0, r1⟩ := q2.inv2
    refine ⟨a, _, rfl, SqT.same hF.sub q1, rfl, v0, [v1], rfl, ?_⟩
    have h2 : Sta X.K B H1 σ ε1 ((v0, .dat d0) :: (v1, .dat d1) :: tmp) := ((hF.push r1).push r0).sta
    by_cases z : isOwn (getPl pl ε1) = true
    · have w1 : gS X.K E B tmp D ((bd mi fun q => bd (lft (ofO q.toD)) fun i => bd (modP pl (putO i d0)) fun _ => bd (bindP (.nm j) d1) fun _ => pr .nx) ε1) := by
        have := w1b
        unfold ifOw at this
        rw [if_pos z] at this; exact this
      obtain ⟨a0, p1⟩ := h2.plO z
      refine ⟨.ref a0, p1, B, ε1, _, h2, ?_⟩
      unfold bd at w1
      cases q : mi ε1 with
      | err x ε' => rw [q] at w1; exact fun c dd H' h' => w1 c dd σ H' h'
      | stuck => rw [q] at w1; exact w1.elim
      | ok r2 ε2 =>
        rw [q] at w1
        intro iv H2 h3 pq
        have w2 : gS X.K E B tmp D (bd (lft (ofO r2.toD)) (fun i => bd (modP pl (putO i d0)) fun _ => bd (bindP (.nm j) d1) fun _ => pr .nx) ε2) := w1
        obtain ⟨id, ti, w3⟩ := Wi.ofO (H := H2) (wiS (K := X.K) (E := E) (B := B) (σ := σ) tmp D) w2
        obtain ⟨F3, fp3, h4, ri⟩ := h3.datum rfl ti
        obtain ⟨rd, hF3⟩ := h4.datum rfl
        rcases modP_cases (pl := pl) (g := putO id d0) (ε := ε2) with ⟨ε3, e3⟩ | e3
        · have w4 : gS X.K E B tmp D (bd (bindP (.nm j) d1) (fun _ => pr .nx) ε3) := by
            have := w3
            rw [bd_ok e3] at this; exact this
          refine put_ok hF3 ri rd (p1.keep hp pq) e3 fun H' hS => ?_
          rcases bindP_cases (.nm j) d1 ε3 with ⟨ε4, e4⟩ | e4
          · have w5 : gS X.K E B tmp D (.ok .nx ε4) := by
              have := w4
              rw [bd_ok e4] at this; exact this
            refine ⟨v1, [], rfl, ?_⟩
            have g : gPt X.K (.nm j) v1 σ H' (fun σ' H' => gNil [] σ' H' D.nx) := gpt_ok hS.sta e4 (fun i hi => fx_ne hfx (by
              have : i = j := by simpa [Pt.ix] using hi
              subst this; exact hfi)) fun σ' hs _ => ⟨rfl, w5 σ' H' hs⟩
            exact g
          · rw [bd_st e4] at w4; exact w4.elim
        · have w4 := w3
          rw [bd_st e3] at w4; exact w4.elim
    · have := w1b
      unfold ifOw at this
      rw [if_neg z] at this; exact this.elim
end
/-! ### tuple(range(..)), list(range(..)) -/
def rgT (lo : Int) (n : Nat) : Ot SV := okd (.tup (rgD lo n))
def okRg (i j : Int) : Bool := decide (-1000000000 ≤ i) && (decide (i ≤ 1000000000) && (decide (-1000000000 ≤ j) && (decide (j ≤ 1000000000) && Nat.ble (j - i).toNat 16777216)))
def tupRgO (f : List D → Ot SV) : D → D → Ot SV
  | .int i, .int j => if okRg i j = true then f (rgD i (j - i).toNat) else .stuck
  | _, _ => .stuck
def cRg (f : List D → Ot SV) (a b : ME) : ME := bd a fun r => bd b fun q => bd (lft (ofO r.toD)) fun d => bd (lft (ofO q.toD)) fun d' => lft (tupRgO f d d')
def cRg1 (f : List D → Ot SV) (b : ME) : ME := bd b fun q => bd (lft (ofO q.toD)) fun d' => lft (tupRgO f (.int 0) d')
theorem okRg_ok {i j : Int} (h : okRg i j = true) : RgOk i j := by
  unfold okRg at h
  have h1 := Bool.and_eq_true_iff.mp h
  have h2 := Bool.and_eq_true_iff.mp h1.2
  have h3 := Bool.and_eq_true_iff.mp h2.2
  have h4 := Bool.and_eq_true_iff.mp h3.2
  have a1 := of_decide_eq_true h1.1
  have a2 := of_decide_eq_true h2.1
  have a3 := of_decide_eq_true h3.1
  have a4 := of_decide_eq_true h4.1
  have a5 := Nat.le_of_ble_eq_true h4.2
  exact ⟨by omega, by omega, by omega, by omega, by omega⟩
theorem reps_rg {K : Fg} {F : Hp} (i j : Int) : Reps K F (rgD i (j - i).toNat) (rgV i j) := by
  unfold rgD rgV
  generalize (j - i).toNat = n
  generalize List.range n = l
  induction l with
  | nil => exact .nil
  | cons x r ih => exact .cons rep_int ih
section
variable {X : Cx} {E : XK} {pu : Bool} {a b : Expr} {ma mb : ME} {p p2 pos pos2 : Pos}
theorem sp_tupRg (hc : X.calm = true) (hg : Gl X "tuple") (hm : X.mg "tuple" = none) (hg2 : Gl X "range") (hm2 : X.mg "range" = none) (ha : SP X E pu a ma) (hb : SP X E pu b mb)
    (n1 : starEach [a, b] X.env = (false, eval a X.env) :: starEach [b] X.env := by rfl) (n2 : starEach [b] X.env = (false, eval b X.env) :: starEach [] X.env := by rfl)
    (n3 : (backTo pos2 (starEach [b] X.env)).any (·.1) = false := by rfl)
    (na : starEach [.Call (.Name "range" p2) [a, b] [] pos2] X.env = (false, eval (.Call (.Name "range" p2) [a, b] [] pos2) X.env) :: starEach [] X.env := by rfl) :
    SP X E pu (.Call (.Name "tuple" p) [.Call (.Name "range" p2) [a, b] [] pos2] [] pos) (cRg (fun ds => okd (.tup ds)) ma mb) :=
  pe_imp (pe_tupRg hc hg hm (prg_2 hg2 hm2 ha hb n1 n2 n3) na) fun pins s σ H Q I ⟨B, ε, tmp, h, w⟩ => gex (wiP tmp Q) h w fun r v ε1 H1 h1 w1 => gex (wiP tmp Q) h1 w1 fun r' v' ε2 H2 h2 w2 => by
    obtain ⟨d, t, w2⟩ := (wiP tmp Q).ofO w2
    obtain ⟨d', t', w2⟩ := (wiP tmp Q).ofO w2
    obtain ⟨F, fp, hF, rr, rr'⟩ := h2.data2 rfl t t'
    have w3 := gP_of w2
    cases d with
    | int i =>
      cases d' with
      | int j =>
        unfold tupRgO at w3
        simp only at w3
        by_cases hc : okRg i j = true
        · rw [if_pos hc] at w3
          unfold Rep at rr rr'; subst rr; subst rr'
          exact ⟨i, j, rfl, rfl, okRg_ok hc, w_newT hF (reps_rg i j) w3⟩
        · rw [if_neg hc] at w3; exact w3.elim
      | _ => exact w3.elim
    | _ => cases d' <;> exact w3.elim
theorem sp_listRg1 (hc : X.calm = true) (hg : Gl X "list") (hm : X.mg "list" = none) (hg2 : Gl X "range") (hm2 : X.mg "range" = none) (hb : SP X E pu b mb)
    (n2 : starEach [b] X.env = (false, eval b X.env) :: starEach [] X.env := by rfl)
    (na : starEach [.Call (.Name "range" p2) [b] [] pos2] X.env = (false, eval (.Call (.Name "range" p2) [b] [] pos2) X.env) :: starEach [] X.env := by rfl) :
    SP X E pu (.Call (.Name "list" p) [.Call (.Name "range" p2) [b] [] pos2] [] pos) (cRg1 (fun ds => .ok (.ol ds)) mb) :=
  pe_imp (pe_listRg hc hg hm (prg_1 hg2 hm2 hb n2) na) fun pins s σ H Q I ⟨B, ε, tmp, h, w⟩ => gex (wiP tmp Q) h w fun r' v' ε2 H2 h2 w2 => by
    obtain ⟨d', t', w2⟩ := (wiP tmp Q).ofO w2
    obtain ⟨F, fp, hF, rr'⟩ := h2.datum rfl t'
    have w3 := gP_of w2
    cases d' with
    | int j =>
      unfold tupRgO at w3
      simp only at w3
      by_cases hc : okRg 0 j = true
      · rw [if_pos hc] at w3
        unfold Rep at rr'; subst rr'
        exact ⟨j, rfl, okRg_ok hc, w_newL hF (reps_rg 0 j) w3⟩
      · rw [if_neg hc] at w3; exact w3.elim
    | _ => exact w3.elim
end
end Dv

-- Dv19
namespace Dv
open PySem PySem.Spec PyProof.Rows L2

/-! ### the module's constants, as data -/
mutual
def repB (K : Fg) : D → Value → Bool
  | .non, .none => true
  | .bl b, .bool c => b == c
  | .int i, .int j _ => decide (i = j)
  | .str x, .str y _ => decide (x = y) && Nat.ble x.length 16777216
  | .tup ds, .ref a => match K.lookup a with
    | some ⟨.type c, _, .seq its _, _⟩ => decide (c = "tuple") && (Nat.ble its.size 16777216 && repsB K ds its.toList)
    | _ => false
  | .frl ds, .ref a => match K.lookup a with
    | some ⟨.type c, .none, .seq its _, _⟩ => decide (c = "list") && (Nat.ble its.size 16777216 && repsB K ds its.toList)
    | _ => false
  | _, _ => false
def repsB (K : Fg) : List D → List Value → Bool
  | [], [] => true
  | d :: ds, u :: us => repB K d u && repsB K ds us
  | _, _ => false
end
mutual
theorem repB_ok {K : Fg} : ∀ (d : D) (u : Value), repB K d u = true → ∃ v, RelV v u ∧ ∀ F, Rep K F d v
  | .non, u, h => by
    unfold repB at h
    split at h <;> first | (cases h; done) | skip
    all_goals first | (simp_all; done) | skip
    exact ⟨.non, rfl, fun F => rep_non⟩
  | .bl b, u, h => by
    cases u <;> first | (cases h; done) | skip
    rename_i c
    have e : b = c := eq_of_beq h
    exact ⟨.bl b, e ▸ rfl, fun F => rep_bl⟩
  | .int i, u, h => by
    cases u <;> first | (cases h; done) | skip
    rename_i j t
    have e : i = j := of_decide_eq_true h
    exact ⟨.int i, ⟨t, e ▸ rfl⟩, fun F => rep_int⟩
  | .str x, u, h => by
    cases u <;> first | (cases h; done) | skip
    rename_i y t
    have h' := Bool.and_eq_true_iff.mp h
    have e : x = y := of_decide_eq_true h'.1
    exact ⟨.str x, ⟨t, e ▸ rfl⟩, fun F => rep_str (by rw [sizeLine_eq]; exact Nat.le_of_ble_eq_true h'.2)⟩
  | .tup ds, u, h => by
    cases u <;> first | (cases h; done) | skip
    rename_i a
    unfold repB at h
    split at h
    · rename_i c dd its n sl e
      have h1 := Bool.and_eq_true_iff.mp h
      have h2 := Bool.and_eq_true_iff.mp h1.2
      have ec : c = "tuple" := of_decide_eq_true h1.1
      subst ec
      obtain ⟨vs, rv, rp⟩ := repsB_ok ds its.toList h2.2
      refine ⟨.ref a, rfl, fun F => ?_⟩
      unfold Rep
      exact ⟨a, vs, rfl, .inr ⟨_, its, n, e, rfl, rfl, by rw [sizeLine_eq]; exact Nat.le_of_ble_eq_true h2.1, rv⟩, rp F⟩
    · cases h
  | .frl ds, u, h => by
    cases u <;> first | (cases h; done) | skip
    rename_i a
    unfold repB at h
    split at h
    · rename_i c its n sl e
      have h1 := Bool.and_eq_true_iff.mp h
      have h2 := Bool.and_eq_true_iff.mp h1.2
      have ec : c = "list" := of_decide_eq_true h1.1
      subst ec
      obtain ⟨vs, rv, rp⟩ := repsB_ok ds its.toList h2.2
      refine ⟨.ref a, rfl, fun F => ?_⟩
      unfold Rep
      exact ⟨a, vs, rfl, .inr ⟨_, its, n, e, rfl, rfl, rfl, by rw [sizeLine_eq]; exact Nat.le_of_ble_eq_true h2.1, rv⟩, rp F⟩
    · cases h
  | .lst ds, u, h => by cases u <;> cases h
  | .dct _ ds, u, h => by cases u <;> cases h
  | .obj _ ds, u, h => by cases u <;> cases h
theorem repsB_ok {K : Fg} : ∀ (ds : List D) (us : List Value), repsB K ds us = true → ∃ vs, Vals vs us ∧ ∀ F, Reps K F ds vs
  | [], [], h => ⟨[], .nil, fun F => .nil⟩
  | [], _ :: _, h => by cases h
  | _ :: _, [], h => by cases h
  | d :: ds, u :: us, h => by
    have h1 := Bool.and_eq_true_iff.mp h
    obtain ⟨v, rv, rp⟩ := repB_ok d u h1.1
    obtain ⟨vs, rvs, rps⟩ := repsB_ok ds us h1.2
    exact ⟨v :: vs, .cons rv rvs, fun F => .cons (rp F) (rps F)⟩
end
def cB (K : Fg) (c : Str × D) : Bool := match PySem.W.nsIn K mainGlobals c.1 with
  | some (some u) => repB K c.2 u
  | _ => false
theorem cB_ok {K : Fg} {h : Heap} {mg : Str → Option Value} (X : K.In h) (G : h.Ns mainGlobals mg) {x : Str} {d : D} (c : cB K (x, d) = true) : ∃ u v, mg x = some u ∧ RelV v u ∧ ∀ F, Rep K F d v := by
  unfold cB at c
  split at c
  · rename_i u e
    obtain ⟨v, rv, rp⟩ := repB_ok d u c
    exact ⟨u, v, PySem.W.mg_of X G e, rv, rp⟩
  · cases c
/-! ### the head's hook -/
def obsV (fa : List He.Fa) (fn : List He.DefD) (cs : List (Str × D)) (K : Fg) : He.AlD × Bool := (He.obsD fa fn K, cs.all (cB K))
def SaysV (fa : List He.Fa) (fn : List He.DefD) (cs : List (Str × D)) (K : Fg) : Prop := obsV fa fn cs K = (He.valD fn, true)
def obsVG (n : Nat) (fa : List He.Fa) (fn : List He.DefD) (cs : List (Str × D)) (g : Addr → Option Obj) : He.AlD × Bool := obsV fa fn cs (He.frG g (He.asD g n))
def hookV (n : Nat) (fa : List He.Fa) (fn : List He.DefD) (cs : List (Str × D)) : PySem.W.Hook where
  α := He.AlD × Bool
  obs := fun s => obsVG n fa fn cs s.heap.get?
  val := fun _ => (He.valD fn, true)
  says := fun _ h => ∃ K : Fg, K.In h ∧ SaysV fa fn cs K
  of := fun _ _ e => ⟨_, He.frG_in, e⟩
  keeps := fun _ _ _ ⟨K, hK, c⟩ k => ⟨K, PySem.W.Frag.In.keeps hK k, c⟩
theorem obsVG_eq {n : Nat} {fa : List He.Fa} {fn : List He.DefD} {cs : List (Str × D)} {g : Addr → Option Obj} {s : Shared} (h : ∀ a, g a = s.heap.get? a) : obsVG n fa fn cs g = (hookV n fa fn cs).obs s := by
  have : g = s.heap.get? := funext h
  subst this
  rfl
section
variable {fa : List He.Fa} {fn : List He.DefD} {cs : List (Str × D)} {K : Fg}
theorem SaysV.base (c : SaysV fa fn cs K) : He.SaysD fa fn K := congrArg Prod.fst c
theorem SaysV.con (c : SaysV fa fn cs K) (i : Nat) {x : Str × D} (h : cs[i]? = some x := by rfl) : cB K x = true := by
  have : cs.all (cB K) = true := congrArg Prod.snd c
  exact List.all_eq_true.mp this x (List.mem_of_getElem? h)
end
end Dv

-- Dv20
namespace Dv
open PySem PySem.Spec PyProof.Rows L2

theorem u64 {k : Nat} {A : Around} (h : Room k A) : A.units + 64 < cLine := h.units
theorem u80 {k : Nat} {A : Around} (h : Room k A) : A.units + 80 < cLine := by have := h.un; omega

/-! ### is True, is False -/
def isBO (neg : Bool) : D → D → Option D
  | .bl a, .bl b => some (.bl (decide (a = b) ^^ neg))
  | .non, .bl _ => some (.bl neg)
  | .int _, .bl _ => some (.bl neg)
  | .str _, .bl _ => some (.bl neg)
  | _, _ => none
def oIsB := l2 fun a b => (ofO (isBO false a b)).bd okd
def oNotB := l2 fun a b => (ofO (isBO true a b)).bd okd
section
variable {X : Cx} {E : XK}
theorem op2_isB : Op2 X E (compareOp .Is) oIsB := op2_sc fun pins s σ F H x y u w a b d Q I rx ry sF ra rb e q => by
  unfold isBO at e
  split at e
  · cases e
    unfold Rep at ra rb; subst ra; subst rb
    exact op_isBl pins s σ H _ _ u w Q I rx ry ⟨_, _, rfl, rfl, q _ fun F => by rw [xor_f]; exact rep_bl⟩
  · cases e
    unfold Rep at ra rb; subst ra; subst rb
    cases (show u = Value.none from rx)
    cases (show w = Value.bool _ from ry)
    exact wpAny_is_other rfl (fun z => nomatch z) ⟨.bl false, H, I, rfl, q _ fun F => rep_bl⟩
  · cases e
    unfold Rep at ra rb; subst ra; subst rb
    obtain ⟨t, rfl⟩ := rx
    cases (show w = Value.bool _ from ry)
    exact wpAny_is_other rfl (fun z => nomatch z) ⟨.bl false, H, I, rfl, q _ fun F => rep_bl⟩
  · cases e
    unfold Rep at ra rb; obtain ⟨rfl, _⟩ := ra; subst rb
    obtain ⟨t, rfl⟩ := rx
    cases (show w = Value.bool _ from ry)
    exact wpAny_is_other rfl (fun z => nomatch z) ⟨.bl false, H, I, rfl, q _ fun F => rep_bl⟩
  · cases e
theorem op2_notB : Op2 X E (compareOp .IsNot) oNotB := op2_sc fun pins s σ F H x y u w a b d Q I rx ry sF ra rb e q => by
  unfold isBO at e
  split at e
  · cases e
    unfold Rep at ra rb; subst ra; subst rb
    exact op_notBl pins s σ H _ _ u w Q I rx ry ⟨_, _, rfl, rfl, q _ fun F => by rw [xor_t]; exact rep_bl⟩
  · cases e
    unfold Rep at ra rb; subst ra; subst rb
    cases (show u = Value.none from rx)
    cases (show w = Value.bool _ from ry)
    exact wpAny_isNot_other rfl (fun z => nomatch z) ⟨.bl true, H, I, rfl, q _ fun F => rep_bl⟩
  · cases e
    unfold Rep at ra rb; subst ra; subst rb
    obtain ⟨t, rfl⟩ := rx
    cases (show w = Value.bool _ from ry)
    exact wpAny_isNot_other rfl (fun z => nomatch z) ⟨.bl true, H, I, rfl, q _ fun F => rep_bl⟩
  · cases e
    unfold Rep at ra rb; obtain ⟨rfl, _⟩ := ra; subst rb
    obtain ⟨t, rfl⟩ := rx
    cases (show w = Value.bool _ from ry)
    exact wpAny_isNot_other rfl (fun z => nomatch z) ⟨.bl true, H, I, rfl, q _ fun F => rep_bl⟩
  · cases e
/-! ### a < b < c as a test -/
variable {pu : Bool} {a b c e : Expr} {ma mb mc me : ME} {pos : Pos}
theorem st_chain {op op' : CmpOp} {f g : SV → SV → Ot SV} (ho : Op2 X E (compareOp op) f) (ho' : Op2 X E (compareOp op') g) (ha : SP X E pu a ma) (hb : SP X E pu b mb) (hc : SP X E pu c mc)
    (hm : lastMarks [op, op'] [b, c] = false := by with_unfolding_all rfl) : ST X E pu (.Compare a [op, op'] [b, c] pos) (tL (c3 f g ma mb mc)) := by
  -- the value of the whole is a bool
  refine pt_imp (pt_chain ho ho' ha hb hc hm) fun pins s σ H Q I ⟨B, ε, tmp, h, w⟩ => ?_
  show tChain _ _ _ _ _ σ H _
  have e1 : tL (c3 f g ma mb mc) = bd ma fun x => bd mb fun y => bd (lft (ofO x.toD)) fun dx => bd (lft (ofO y.toD)) fun dy => bd (lft (f (.dat dx) (.dat dy))) fun z => bd (lft (asB z)) fun k => match k with
      | true => bd mc fun u => bd (lft (g (.dat dy) u)) fun r => lft (asB r)
      | false => lft (asB (.dat (.bl false))) := by
    funext ε
    unfold tL c3 bd
    cases ma ε with
    | ok x ε1 =>
      show Rs.bd (Rs.bd (mb ε1) _) _ = Rs.bd (mb ε1) _
      cases mb ε1 with
      | ok y ε2 =>
        show Rs.bd (Rs.bd (lft (ofO x.toD) ε2) _) _ = Rs.bd (lft (ofO x.toD) ε2) _
        cases x.toD with
        | none => rfl
        | some dx =>
          show Rs.bd (Rs.bd (lft (ofO y.toD) ε2) _) _ = Rs.bd (lft (ofO y.toD) ε2) _
          cases y.toD with
          | none => rfl
          | some dy =>
            show Rs.bd (Rs.bd (lft (f (.dat dx) (.dat dy)) ε2) _) _ = Rs.bd (lft (f (.dat dx) (.dat dy)) ε2) _
            cases f (.dat dx) (.dat dy) with
            | ok z =>
              show Rs.bd (Rs.bd (lft (asB z) ε2) _) _ = Rs.bd (lft (asB z) ε2) _
              cases asB z with
              | ok k =>
                cases k with
                | true =>
                  show Rs.bd (Rs.bd (mc ε2) _) _ = Rs.bd (mc ε2) _
                  cases mc ε2 <;> rfl
                | false => rfl
              | err x => rfl
              | stuck => rfl
            | err x => rfl
            | stuck => rfl
      | err x ε2 => rfl
      | stuck => rfl
    | err x ε1 => rfl
    | stuck => rfl
  rw [e1] at w
  refine gex (wiT tmp Q) h w fun r1 v1 ε1 H1 h1 w1 => gex (wiT tmp Q) h1 w1 fun r2 v2 ε2 H2 h2 w2 => ?_
  obtain ⟨d1, q1, w2⟩ := (wiT tmp Q).ofO w2
  obtain ⟨d2, q2, w2⟩ := (wiT tmp Q).ofO w2
  obtain ⟨F, fp, hF, rx, ry⟩ := h2.data2 rfl q1 q2
  have h3 : Sta X.K B H2 σ ε2 ((v2, .dat d2) :: (v1, .dat d1) :: (v2, .dat d2) :: tmp) := (((hF.push ry).push rx).push ry).sta
  refine ⟨B, σ, ε2, _, _, _, h3, ?_⟩
  rcases (wiT tmp Q).lft w2 with ⟨z, q3, w3⟩ | ⟨x, q3, w3⟩
  · rw [q3]
    intro v3 H3 h4 s3
    obtain ⟨k, ek, h5, w4⟩ := gbool (wiT tmp Q) h4 ((wiT tmp Q).wq _ _ _ _ _ (Pq.of s3) w3)
    refine ⟨k, ek, ?_⟩
    cases k with
    | true =>
      rw [if_pos rfl]
      refine gex (wiT tmp Q) h5 w4 fun r3 v4 ε4 H4 h6 w6 => ?_
      refine ⟨B, σ, ε4, tmp, _, r3, h6, ?_⟩
      cases q5 : g (.dat d2) r3 with
      | err e => rw [q5] at w6; exact w6
      | stuck => rw [q5] at w6; exact w6.elim
      | ok r5 =>
        rw [q5] at w6
        intro v5 H5 h7 s5
        have w7 : (wiT (K := X.K) (E := E) (pu := pu) (B := B) (σ := σ) tmp Q).W ε4 H5 (bd (lft (asB r5)) pr ε4) := by
          have w7 := (wiT (K := X.K) (E := E) (pu := pu) (B := B) (σ := σ) tmp Q).wq _ _ _ _ _ (Pq.of (ε := ε4) s5) w6
          have : bd (lft (asB r5)) pr ε4 = lft (asB r5) ε4 := by unfold bd; cases asB r5 <;> rfl
          rw [this]; exact w7
        obtain ⟨c, e, h8, w8⟩ := gbool (wiT tmp Q) h7 w7
        exact ⟨c, e, w8 H5 h8 Pq.refl⟩
    | false =>
      rw [if_neg (by decide)]
      exact ⟨false, rfl, w4 H3 (h5.pop rfl) Pq.refl⟩
  · rw [q3]; exact w3
/-! ### {} -/
theorem sp_dict0 : SP X E pu (.Dict [] [] pos) (pr (.od [])) := pe_imp pe_dnewK fun pins s σ H Q I ⟨B, ε, tmp, ⟨F, fp, h⟩, w⟩ => fun p hp =>
  w _ _ (h.owned hp (by unfold Own; exact ⟨p, [], rfl, rfl, upd_same, .nil⟩)).sta (Pq.of (same_upd hp))
/-! ### a field of the own instance -/
def cFldO (i : Nat) (C x : Str) : ME := fun ε => match getPl (.f i C x) ε with
  | some (.dat d) => .ok (.dat d) ε
  | _ => .stuck
theorem sp_fldO (i : Nat) {C y x : Str} {px : Pos} (hc : Cls X.K (He.ga X.K C)) (hn : NoAttr X.K (He.ga X.K C) x) (hN : X.N[i]? = some y := by rfl) (hv : Vis X.env.scope y := by first | exact Or.inl rfl | exact Or.inr (Or.inl rfl) | exact Or.inr (Or.inr rfl)) (hd : (y == ("__debug__" : Str)) = false := by decide)
    (hcd : (y == ("__classdict__" : Str)) = false := by decide) (hb : attributeBase (.Name y px) x X.env (eval (.Name y px) X.env) = eval (.Name y px) X.env := by rfl) : SP X E pu (.Attribute (.Name y px) x pos) (cFldO i C x) :=
  pe_imp (pe_fld (pe_var hN hv hd hcd) hb) fun pins s σ H Q I ⟨B, ε, tmp, ⟨F, fp, h⟩, w⟩ => by
    unfold cFldO getPl at w
    simp only at w
    cases q : ε[i]? with
    | none => rw [q] at w; exact w.elim
    | some r =>
      rw [q] at w
      cases r with
      | oi C' fs =>
        simp only at w
        by_cases hC : C' = C
        · subst hC
          rw [if_pos rfl] at w
          cases q2 : fs.lookup x with
          | none => rw [q2] at w; exact w.elim
          | some s0 =>
            rw [q2] at w
            cases s0 with
            | dat d =>
              obtain ⟨o0, ft, f1, f0, f2, e1, rfl, h3, h4, h5, h6⟩ := h.slot q
              cases o0 with
              | none => cases h4.1
              | some v0 =>
                have h4 : Own X.K F H (.oi C' fs) v0 f0 := h4
                unfold Own at h4
                obtain ⟨a0, dx, gs, ff, rfl, rfl, k1, k2, k3⟩ := h4
                obtain ⟨v, g1, g, g2, rfl, lk, ow, rep⟩ := OwnF.field k3 q2
                unfold Own at ow
                exact ⟨_, e1, a0, _, dx, gs, v, rfl, k1, hc, hn, lk, w v H (h.pushS ow.2) Pq.refl⟩
            | _ => exact w.elim
        · rw [if_neg hC] at w; exact w.elim
      | _ => exact w.elim
end
end Dv

-- Dv21
namespace Dv
open PySem PySem.Spec PyProof.Rows L2

/-! ### what the head tells of a law's names; defs by their names -/
structure Fx (fa : List He.Fa) (fn : List He.DefD) (cs : List (Str × D)) (K : Fg) (mg : Str → Option Value) (base : Heap) : Prop where
  says : SaysV fa fn cs K
  kin : K.In base
  ns : base.Ns mainGlobals mg
section
variable {fa : List He.Fa} {fn : List He.DefD} {cs : List (Str × D)} {K : Fg} {mg : Str → Option Value} {base : Heap}
theorem Fx.glo (h : Fx fa fn cs K mg base) (i : Nat) {x : Str} (e : fa[i]? = some (.glo x) := by rfl) : mg x = some (.ref (He.ga K x)) := He.glo_ok h.kin h.ns (h.says.base.fact i e)
theorem Fx.free (h : Fx fa fn cs K mg base) (i : Nat) {x : Str} (e : fa[i]? = some (.free x) := by rfl) : mg x = none := He.free_ok h.kin h.ns (h.says.base.fact i e)
theorem Fx.cls (h : Fx fa fn cs K mg base) (i : Nat) {x : Str} (e : fa[i]? = some (.cls x) := by rfl) : Cls K (He.ga K x) := He.cls_ok (h.says.base.fact i e)
theorem Fx.noat (h : Fx fa fn cs K mg base) (i : Nat) {x f : Str} (e : fa[i]? = some (.noat x f) := by rfl) : NoAttr K (He.ga K x) f := He.noat_ok (h.says.base.fact i e)
theorem Fx.meth (h : Fx fa fn cs K mg base) (i : Nat) {x f : Str} (e : fa[i]? = some (.meth x f) := by rfl) : Meth K (He.ga K x) f (He.ma K (He.ga K x) f) := He.meth_ok (h.says.base.fact i e)
theorem Fx.mkr (h : Fx fa fn cs K mg base) (i : Nat) {x : Str} (e : fa[i]? = some (.mkr x) := by rfl) : L2.Mk K (He.ga K x) (He.ma K (He.ga K x) "__init__") := He.mkr_ok (h.says.base.fact i e)
theorem Fx.con (h : Fx fa fn cs K mg base) (i : Nat) {x : Str} {d : D} (e : cs[i]? = some (x, d) := by rfl) : ∃ u v, mg x = some u ∧ RelV v u ∧ ∀ F, Rep K F d v := cB_ok h.kin h.ns (h.says.con i e)
end
/-- the def at p keeps its promise -/
def FnV (P : Program) (w : World) (K : Fg) (mg : Str → Option Value) (base : Heap) (p : Str × Option Str) (k : Nat) (ps : List Str) (sp : Sp) : Prop :=
  ∃ fd, FnOk P w K mg base (L2.CX P w) k (He.fAd K p) fd ps sp ∧ Binds K fd ps [] ∧ PySem.W.keepIn K (.ref (He.fAd K p)) = true
section
variable {X : Cx} {E : XK} {pu : Bool} {e o : Expr} {es : List Expr} {mm : MA} {me : ME} {p pos apos py : Pos} {j k : Nat} {ps : List Str} {g : List D → Ot SV} {gm : SV → List D → Rm} {x y m C : Str} {pl : Sem Bool}
theorem sp_callV (hf : FnV X.prog X.w X.K X.mg X.base (x, none) j ps (spF X.K g)) (hm : X.mg x = some (.ref (He.ga X.K x))) (hr : Room k X.A) (hx : Passes (L2.CX X.prog X.w) X E) (ha : SA X E pu (e :: es) mm) (hjk : j ≤ k := by decide) (hg : Gl X x := by rfl)
    (hdb : (x == ("__debug__" : Str)) = false := by decide) (he : starEach (e :: es) X.env = (false, eval e X.env) :: starEach es X.env := by rfl) (hpl : (backTo pos (starEach es X.env)).any (·.1) = false := by rfl) :
    SP X E pu (.Call (.Name x p) (e :: es) [] pos) (cCall g mm []) := by
  obtain ⟨fd, F, hb, hk⟩ := hf
  exact sp_call F (hr.mono hjk) hg hm hk hb .nil (fun F => .nil) hx ha hdb he hpl
theorem sp_callV0 (hf : FnV X.prog X.w X.K X.mg X.base (x, none) j ps (spF X.K g)) (hm : X.mg x = some (.ref (He.ga X.K x))) (hr : Room k X.A) (hx : Passes (L2.CX X.prog X.w) X E) (hjk : j ≤ k := by decide) (hg : Gl X x := by rfl)
    (hdb : (x == ("__debug__" : Str)) = false := by decide) : SP X E pu (.Call (.Name x p) [] [] pos) (lft (g [])) := by
  obtain ⟨fd, F, hb, hk⟩ := hf
  exact sp_call0 F (hr.mono hjk) hg hm hk hb .nil (fun F => .nil) hx hdb
theorem sp_callMV (i : Nat) (hf : FnV X.prog X.w X.K X.mg X.base (x, none) j ps (spM X.K gm)) (hm : X.mg x = some (.ref (He.ga X.K x))) (hr : Room k X.A) (hx : Passes (L2.CX X.prog X.w) X E) (ha : SA X E false es mm) (hjk : j ≤ k := by decide) (hg : Gl X x := by rfl)
    (hN : X.N[i]? = some y := by rfl) (hv : Vis X.env.scope y := by first | exact Or.inl rfl | exact Or.inr (Or.inl rfl) | exact Or.inr (Or.inr rfl)) (hyd : (y == ("__debug__" : Str)) = false := by decide)
    (hcd : (y == ("__classdict__" : Str)) = false := by decide) (hdb : (x == ("__debug__" : Str)) = false := by decide) (he : starEach ((.Name y py) :: es) X.env = (false, eval (.Name y py) X.env) :: starEach es X.env := by rfl) (hpl : (backTo pos (starEach es X.env)).any (·.1) = false := by rfl) :
    SP X E false (.Call (.Name x p) ((.Name y py) :: es) [] pos) (cCallM i gm mm []) := by
  obtain ⟨fd, F, hb, hk⟩ := hf
  exact sp_callM i F (hr.mono hjk) hg hm hk hb .nil (fun F => .nil) hx ha hN hv hyd hcd hdb he hpl
theorem sp_methV (hf : FnV X.prog X.w X.K X.mg X.base (C, some m) j ps (spF X.K g)) (c : Cls X.K (He.ga X.K C)) (hm : Meth X.K (He.ga X.K C) m (He.ma X.K (He.ga X.K C) m)) (hr : Room k X.A) (hx : Passes (L2.CX X.prog X.w) X E) (ho : SP X E pu o me) (ha : SA X E pu (e :: es) mm) (hjk : j ≤ k := by decide)
    (hst : starEach (e :: es) X.env = (false, eval e X.env) :: starEach es X.env := by rfl) (hpl : (backTo pos (starEach es X.env)).any (·.1) = false := by rfl)
    (ht : eval (.Call (.Attribute o m apos) (e :: es) [] pos) X.env = (do
      let ov ← eval o X.env
      standAt apos.atName
      let (f, first) ← holding [ov] (getMethod ov m pl)
      callWith pos f first (backTo pos (starEach (e :: es) X.env)) (backToKw pos (keywordEach [] X.env))) := by rfl) :
    SP X E pu (.Call (.Attribute o m apos) (e :: es) [] pos) (cMeth C m g me mm []) := by
  obtain ⟨fd, F, hb, hk⟩ := hf
  exact sp_meth c hm F (hr.mono hjk) hb .nil (fun F => .nil) hx ho ha hst hpl ht
theorem sp_methV0 (hf : FnV X.prog X.w X.K X.mg X.base (C, some m) j ps (spF X.K g)) (c : Cls X.K (He.ga X.K C)) (hm : Meth X.K (He.ga X.K C) m (He.ma X.K (He.ga X.K C) m)) (hr : Room k X.A) (hx : Passes (L2.CX X.prog X.w) X E) (ho : SP X E pu o me) (hjk : j ≤ k := by decide)
    (ht : eval (.Call (.Attribute o m apos) [] [] pos) X.env = (do
      let ov ← eval o X.env
      standAt apos.atName
      let (f, first) ← holding [ov] (getMethod ov m pl)
      callWith pos f first (backTo pos (starEach [] X.env)) (backToKw pos (keywordEach [] X.env))) := by rfl) :
    SP X E pu (.Call (.Attribute o m apos) [] [] pos) (cMeth C m g me aN []) := by
  obtain ⟨fd, F, hb, hk⟩ := hf
  exact sp_meth0 c hm F (hr.mono hjk) hb .nil (fun F => .nil) hx ho ht
theorem sp_makeV (hf : FnV X.prog X.w X.K X.mg X.base (C, some "__init__") j ps (spM X.K gm)) (M : L2.Mk X.K (He.ga X.K C) (He.ma X.K (He.ga X.K C) "__init__")) (hm : X.mg C = some (.ref (He.ga X.K C))) (hr : Room k X.A) (hx : Passes (L2.CX X.prog X.w) X E) (ha : SA X E pu (e :: es) mm) (hjk : j + 1 ≤ k := by decide) (hg : Gl X C := by rfl)
    (hdb : (C == ("__debug__" : Str)) = false := by decide) (he : starEach (e :: es) X.env = (false, eval e X.env) :: starEach es X.env := by rfl) (hpl : (backTo pos (starEach es X.env)).any (·.1) = false := by rfl) :
    SP X E pu (.Call (.Name C p) (e :: es) [] pos) (cMake C gm mm []) := by
  obtain ⟨fd, F, hb, hk⟩ := hf
  exact sp_make M F (hr.mono hjk) hg hm hb .nil (fun F => .nil) hx ha hdb he hpl
end
/-! ### where defs stand -/
def clsBody : Stmt → List Stmt
  | .ClassDef _ _ _ b _ _ _ _ _ _ _ => b
  | _ => []
end Dv

-- Dv22
namespace Dv
open PySem PySem.Spec PyProof.Rows L2

/-! ### {k: v} -/
def cDisp1 (mk mv : ME) : ME := bd mk fun y => bd (lft (ofO (y.toD.bind keyOf?))) fun k => bd mv fun x => bd (lft (ofO x.toD)) fun d => pr (.od [(k, d)])
section
variable {X : Cx} {E : XK} {pu : Bool} {a b e : Expr} {es : List Expr} {ma mb me : ME} {mm : MA} {p pos : Pos}
theorem StF.extra {K : Fg} {B : Bs} {F H : Hp} {σ : L2.St} {ε : Ep} {tmp : Tp} {fp : List Addr} {q : Addr} {o : HO} (h : StF K B F H σ ε tmp fp) (hq : H q = none) : StF K B F (upd H q o) σ ε tmp fp := h.same (same_upd hq)
/-- a wish told from where it began -/
def wiAbs {K : Fg} {B : Bs} {σ : L2.St} (tmp : Tp) (Q : VK) (ε0 : Ep) (H0 : Hp) : Wi K E pu B σ SV where
  W := fun _ _ o => gP K E pu B σ tmp Q ε0 H0 o
  we := fun _ _ _ _ w => w
  ws := fun _ _ w => w
  wq := fun _ _ _ _ _ _ w => w
theorem sp_disp1 (ha : SP X E pu a ma) (hb : SP X E pu b mb) : SP X E pu (.Dict [some a] [b] pos) (cDisp1 ma mb) :=
  pe_imp (pe_disp (pps_cons ha hb pps_nil) (by rfl) (by rfl) (by simp) (by simp)) fun pins s σ H Q I ⟨B, ε, tmp, ⟨F, fp, h⟩, w⟩ => fun q hq => by
    -- the empty dict stands as a pending thing of ours
    have h0 : StF X.K B F (upd H q (.dK [])) σ ε ((.ref q, .od []) :: tmp) (q :: fp) := h.owned hq (by unfold Own; exact ⟨q, [], rfl, rfl, upd_same, .nil⟩)
    have w0 : (wiAbs (K := X.K) (E := E) (pu := pu) (B := B) (σ := σ) tmp Q ε H).W ε (upd H q (.dK [])) (cDisp1 ma mb ε) := w
    show tP X.K E pu ma σ (upd H q (.dK [])) _
    refine gexq (wiAbs tmp Q ε H) h0.sta w0 fun r v ε1 H1 h1 p1 w1 => ?_
    obtain ⟨k, t, w2⟩ := (wiAbs tmp Q ε H).ofO w1
    obtain ⟨rfl, ko, h2⟩ := h1.key t
    refine gexq (wiAbs tmp Q ε H) h2 w2 fun r2 v2 ε2 H2 h3 p2 w3 => ?_
    obtain ⟨d, t2, w4⟩ := (wiAbs tmp Q ε H).ofO w3
    obtain ⟨F2, fp2, h4, rd⟩ := h3.datum rfl t2
    obtain ⟨f1, f2, e2, o2, _⟩ := h4.pop rfl
    have o2' : Own X.K F2 H2 (.od []) (.ref q) f1 := o2
    unfold Own at o2'
    obtain ⟨q', vs', eq, rfl, hq2, r0⟩ := o2'
    cases eq
    have : vs' = [] := by unfold RepK at r0; exact r0
    subst this
    refine ⟨hq2, [(k, v2)], rfl, by simp, ?_⟩
    have h5 := h4.growD (ys := [(k, d)]) (ws := [(k, v2)]) (.cons ko rd .nil)
    have eqm : mergeK [] [(k, v2)] = [(k, v2)] := rfl
    rw [eqm]
    refine w4 _ _ h5.sta fun z => ?_
    obtain ⟨rfl, s1⟩ := p1 z
    obtain ⟨rfl, s2⟩ := p2 z
    refine ⟨rfl, fun p u y => ?_⟩
    have e : p ≠ q := fun e => by subst e; rw [hq] at y; cases y
    rw [upd_ne e]
    exact s2 _ _ (s1 _ _ (by rw [upd_ne e]; exact y))
end
/-! ### a def that changes its first parameter, called with a thing just made -/
def cCallT (m0 : ME) (g : SV → List D → Rm) (mm : MA) : ME := bd m0 fun s => bd mm fun rs => bd (lft (ofO (toDs rs))) fun ds => fun ε => if s.own? = true then (match g s ds with
  | .ok r _ => .ok r ε
  | .err x _ => .err x ε
  | .stuck => .stuck) else .stuck
section
variable {X : Cx} {E : XK} {e0 : Expr} {es : List Expr} {m0 : ME} {mm : MA} {p pos : Pos} {j k : Nat} {ps : List Str} {gm : SV → List D → Rm} {x : Str}
theorem w_callT {K : Fg} {B : Bs} {F : Hp} {fp : List Addr} {σ : L2.St} {ε : Ep} {tmp : Tp} {H : Hp} {Q : VK} {v0 : V} {s : SV} {vs : List V} {ds : List D} (h : StF K B F H σ ε ((v0, s) :: tmp) fp) (r : Reps K F ds vs) (hs : s.own? = true)
    (w2 : gP K E false B σ tmp Q ε H (match gm s ds with
      | .ok r _ => .ok r ε
      | .err x _ => .err x ε
      | .stuck => .stuck)) : spM K gm (v0 :: vs) H Q E := by
  obtain ⟨f0, f2, rfl, h4, h2⟩ := h.pop rfl
  have h4 : Own K F H s v0 f0 := h4
  obtain ⟨a, rfl⟩ := own_ref h4 hs
  have nd := List.nodup_append.mp h.nd
  refine ⟨F, s, f0, a, vs, ds, rfl, h.sub, h4, nd.1, fun p hp => h.out p (by simp [hp]), r, ?_⟩
  have a3 : ∀ q ∈ f2, q ∉ f0 := fun q hq z => nd.2.2 q z q hq rfl
  have key : ∀ (tmpR : Tp) (fr : List Addr) (F' H' : Hp) , GrM f0 F H F' H' → OwnL K F' H' (tmpR.map (fun t => (some t.1, t.2))) fr → fr.Nodup → (∀ p ∈ fr, F' p = none ∧ (p ∈ f0 ∨ H p = none)) →
      StF K B F' H' σ ε (tmpR ++ tmp) (fr ++ f2) := by
    intro tmpR fr F' H' gr orr nd' hf
    have hk : ∀ p ∈ f2, H' p = H p := fun p hp => by
      obtain ⟨u, hu⟩ := h.trk p (by simp [hp])
      rw [hu]; exact gr.keep p u hu (a3 p hp)
    refine h.rebuild gr.le gr.sub (fun q o a b => gr.keep q o a fun z => b (by simp [z])) gr.there (fun p o q => ?_) h.len ?_ ?_ (fun p hp => ?_) (fun p hp => ?_) h.fix
    · rcases gr.new p o q with z | z | z
      · exact .inl z
      · exact .inr (.inl z)
      · exact .inr (.inr (by simp [z]))
    · show OwnL K F' H' ((tmpR ++ tmp).map (fun t => (some t.1, t.2)) ++ σ.zip ε) _
      rw [List.map_append, List.append_assoc]
      exact OwnL.join orr (h2.own.mono gr.le fun p hp => hk p hp)
    · refine List.nodup_append.mpr ⟨nd', nd.2.1, fun x hx y hy e => ?_⟩
      subst e
      rcases (hf x hx).2 with z | z
      · exact a3 x hy z
      · obtain ⟨u, hu⟩ := h.trk x (by simp [hy])
        rw [z] at hu; cases hu
    · rcases List.mem_append.mp hp with z | z
      · exact (hf p z).1
      · cases qq : F' p with
        | none => rfl
        | some u =>
          rcases gr.new p u qq with y | y | y
          · rw [h.out p (by simp [z])] at y; cases y
          · obtain ⟨u', hu⟩ := h.trk p (by simp [z])
            rw [y] at hu; cases hu
          · exact absurd y (a3 p z)
    · rcases List.mem_append.mp hp with z | z
      · rcases (hf p z).2 with y | y
        · exact .inl (by simp [y])
        · exact .inr y
      · exact .inl (by simp [z])
  cases q2 : gm s ds with
  | stuck => rw [q2] at w2; exact w2.elim
  | ok r s' =>
    rw [q2] at w2
    intro v F' H' f f' gr orr os nd' hf
    have := key [(v, r)] f F' H' gr ⟨f, [], by simp, orr, rfl⟩ (List.nodup_append.mp nd').1 (fun p hp => hf p (by simp [hp]))
    exact w2 v H' ⟨F', _, this⟩ (fun z => by cases z)
  | err x s' =>
    rw [q2] at w2
    intro c dd F' H' f' gr os nd' hf ec xf
    have := key [] [] F' H' gr rfl List.nodup_nil (fun p hp => by cases hp)
    obtain ⟨fp', h'⟩ := this.dropAll
    exact w2 c dd H' ⟨F', fp', h', ec, xf⟩
theorem sp_callTV (hf : FnV X.prog X.w X.K X.mg X.base (x, none) j ps (spM X.K gm)) (hm : X.mg x = some (.ref (He.ga X.K x))) (hr : Room k X.A) (hx : Passes (L2.CX X.prog X.w) X E) (h0 : SP X E false e0 m0) (ha : SA X E false es mm) (hjk : j ≤ k := by decide) (hg : Gl X x := by rfl)
    (hdb : (x == ("__debug__" : Str)) = false := by decide) (he : starEach (e0 :: es) X.env = (false, eval e0 X.env) :: starEach es X.env := by rfl) (hpl : (backTo pos (starEach es X.env)).any (·.1) = false := by rfl) :
    SP X E false (.Call (.Name x p) (e0 :: es) [] pos) (cCallT m0 gm mm) := by
  obtain ⟨fd, F, hb, hk⟩ := hf
  refine pe_imp (pe_call F (hr.mono hjk) hg hm hk hb .nil hx (pa_cons h0 ha he) hdb he hpl) fun pins s σ H Q I ⟨B, ε, tmp, h, w⟩ => gex (wiP tmp Q) h w fun r v ε1 H1 h1 w1 => ?_
  refine gar (wiP tmp Q) (tmp := (v, r) :: tmp) h1 w1 fun rs vs ε2 H2 hl h2 w2 => ?_
  obtain ⟨ds, q, w3⟩ := (wiP tmp Q).ofO w2
  obtain ⟨F', fp', h3, rr⟩ := h2.datas hl q
  have w3 : gP X.K E false B σ tmp Q ε2 H2 (if r.own? = true then (match gm r ds with
    | .ok r _ => .ok r ε2
    | .err x _ => .err x ε2
    | .stuck => .stuck) else .stuck) := w3
  by_cases z : r.own? = true
  · rw [if_pos z] at w3
    show spM X.K gm (v :: vs ++ []) H2 Q E
    rw [List.append_nil]
    exact w_callT h3 rr z w3
  · rw [if_neg z] at w3; exact w3.elim
end
section
variable {P : Program} {w : World} {K : Fg} {mg : Str → Option Value} {base : Heap} {x qual : Str} {params : Arguments} {body : List Stmt} {scope : Scope} {dvs : List V} {kws : List (Str × V)} {f : Addr} {fd : FuncData} {N ps : List Str} {k : Nat}
/-- nothing is promised -/
theorem fn_none (F : FunD K x qual params body scope dvs kws f fd) (S : FnScope N ps scope) : FnOk P w K mg base (L2.CX P w) (k + 1) f fd ps (spF K fun _ => .stuck) :=
  fn_body F S (fun vs H Q E h => by obtain ⟨_, _, _, _, q⟩ := h; exact q.elim) (fun cdv A outer s H vs Q E hr h => by obtain ⟨_, _, _, _, q⟩ := h; exact q.elim)
end
end Dv

-- Dv23
namespace Dv
open PySem PySem.Spec PyProof.Rows L2
/-- the walk's end, where defs may let out exceptions (they are told with the world) -/
theorem walk_ofV {l : PySem.W.OpenLaw} {n k : Nat} {q : Program} {loose : List Str} {XP : (Str → Option Value) → Heap → Prop} {YP : World → Heap → Prop} {d : DefRec} {x : Str}
    (hn : l.most = some n) (hn2 : n ≤ sizeLine) (hdf : d.params.defaults = []) (hr : Room k callerA)
    (F : ∀ (w : World) (mg : Str → Option Value) (fa : Addr) (h : Heap), YP w h → h.Ns mainGlobals mg → mg d.name = some (.ref fa) →
      ∃ (K : PySem.W.Frag) (fd : FuncData) (sp : Sp), K.In h ∧ (∀ (s : Shared) (u : Value), BindsTo s fd ⟨[u], []⟩ [(x, u)]) ∧
        (∀ (H : Hp) (a : Addr) (ns : List Int), ns.length ≤ n → SqL K H a (ns.map V.int) → sp [.ref a] H (fun v _ => v = .bl true) fun _ _ _ => False) ∧
        ∀ base : Heap, K.In base → base.Ns mainGlobals mg → FnOk l.prog w K mg base (L2.CX l.prog w) k fa fd [x] sp) :
    PySem.W.WalkO q loose XP YP l.row.toRowW d [] (fun f vs => PySem.call f vs) := by
  refine Att.attach_call hn hdf fun w s₀ s₁ mg mb fa o pm cd doc a vs ns G Y ho hd hcd hmg hobj hints hlen hg => ?_
  obtain ⟨K, fd, sp, KX, hb, hsp, hF⟩ := F w mg fa _ Y G.T.g hmg
  exact law_callG KX G.T.g G.T.b G.T.builtins G.T.nolimit hg hobj hints (Nat.le_trans hlen hn2) hr hF hb (fun H hO hS => hsp H a ns hlen hS) fun H e s' c => by
    obtain ⟨a, B, H', cls, d, _, _, _, _, _, _, _, hE⟩ := c
    exact hE
end Dv

-- Dv24
namespace Dv
open PySem PySem.Spec PyProof.Rows L2

/-! ### reckoning with the semantic functions -/
theorem bd_eq {α β : Type} {m : M α} {k : α → M β} {ε ε' : Ep} {a : α} {o : Rs β} (e : m ε = .ok a ε') (h : k a ε' = o) : bd m k ε = o := by rw [bd_ok e]; exact h
theorem sSeq_eq {a b : MS} {ε ε' : Ep} {o : Rs Fl} (e : a ε = .ok .nx ε') (h : b ε' = o) : sSeq a b ε = o := bd_eq e h
theorem sSeq_rt {a b : MS} {ε ε' : Ep} {r : SV} (e : a ε = .ok (.rt r) ε') : sSeq a b ε = .ok (.rt r) ε' := bd_eq e rfl
theorem sSeq_bk {a b : MS} {ε ε' : Ep} (e : a ε = .ok .bk ε') : sSeq a b ε = .ok .bk ε' := bd_eq e rfl
theorem sSeq_ct {a b : MS} {ε ε' : Ep} (e : a ε = .ok .ct ε') : sSeq a b ε = .ok .ct ε' := bd_eq e rfl
theorem sIf_t {t : MT} {a b : MS} {ε ε' : Ep} {o : Rs Fl} (e : t ε = .ok true ε') (h : a ε' = o) : sIf t a b ε = o := bd_eq e h
theorem sIf_f {t : MT} {a b : MS} {ε ε' : Ep} {o : Rs Fl} (e : t ε = .ok false ε') (h : b ε' = o) : sIf t a b ε = o := bd_eq e h
theorem sSet_eq {i : Nat} {m : ME} {ε ε' : Ep} {r : SV} (e : m ε = .ok r ε') : sSet i m ε = .ok .nx (ε'.set i r) := bd_eq e rfl
theorem sRet_eq {m : ME} {ε ε' : Ep} {r : SV} (e : m ε = .ok r ε') : sRet m ε = .ok (.rt r) ε' := bd_eq e rfl
theorem sExp_eq {m : ME} {ε ε' : Ep} {r : SV} (e : m ε = .ok r ε') : sExp m ε = .ok .nx ε' := bd_eq e rfl
theorem sFor_eq {mi : MI} {pt : Pt} {body : MS} {ε ε' : Ep} {items : List D} {o : Rs Fl} (e : mi ε = .ok items ε') (h : forL pt body items ε' = o) : sFor mi pt body ε = o := bd_eq e h
theorem fnS_eq {n len : Nat} {m : MS} {ds : List D} {ε : Ep} {r : SV} (hl : ds.length = n) (h : m (ds.map .dat ++ List.replicate (len - n) .un) = .ok (.rt r) ε) : fnS n len m ds = .ok r := by
  unfold fnS; rw [if_pos hl, h]; rfl
/-- a loop, each turn of which goes on -/
theorem forL_fold {pt : Pt} {body : MS} {S : Type} (enc : S → Ep) (step : S → D → S) : ∀ (items : List D) (s : S), (∀ s, ∀ d ∈ items, (bd (bindP pt d) fun _ => body) (enc s) = .ok .nx (enc (step s d)) ∨ (bd (bindP pt d) fun _ => body) (enc s) = .ok .ct (enc (step s d))) →
    forL pt body items (enc s) = .ok .nx (enc (items.foldl step s))
  | [], s, _ => rfl
  | d :: r, s, h => by
    have ih := forL_fold enc step r (step s d) fun s' d' hd' => h s' d' (List.mem_cons_of_mem _ hd')
    rcases h s d List.mem_cons_self with e | e
    all_goals
      unfold bd at e
      unfold forL
      cases q : bindP pt d (enc s) with
      | err x ε' => rw [q] at e; cases e
      | stuck => rw [q] at e; cases e
      | ok u ε1 =>
        rw [q] at e
        rw [bd_ok q]
        have e : body ε1 = _ := e
        rw [bd_ok e]
        exact ih
/-- a turn, then the others -/
theorem forL_cons {pt : Pt} {body : MS} {d : D} {r : List D} {ε ε1 ε2 : Ep} {o : Rs Fl} (e : bindP pt d ε = .ok () ε1) (h : body ε1 = .ok .nx ε2) (hr : forL pt body r ε2 = o) : forL pt body (d :: r) ε = o := by
  unfold forL
  rw [bd_ok e, bd_ok h]
  exact hr
theorem forL_rt {pt : Pt} {body : MS} {d : D} {r : List D} {ε ε1 ε2 : Ep} {v : SV} (e : bindP pt d ε = .ok () ε1) (h : body ε1 = .ok (.rt v) ε2) : forL pt body (d :: r) ε = .ok (.rt v) ε2 := by
  unfold forL
  rw [bd_ok e, bd_ok h]
  rfl
theorem forL_bk {pt : Pt} {body : MS} {d : D} {r : List D} {ε ε1 ε2 : Ep} (e : bindP pt d ε = .ok () ε1) (h : body ε1 = .ok .bk ε2) : forL pt body (d :: r) ε = .ok .nx ε2 := by
  unfold forL
  rw [bd_ok e, bd_ok h]
  rfl
/-- a comprehension that leaves the slots as they are -/
theorem lcL_map {pt : Pt} {mt : MT} {me : ME} {vs : List Nat} {ε : Ep} {α : Type} (en : α → D) (p : α → Bool) (f : α → D) : ∀ (items : List α) (acc : List D),
    (∀ a ∈ items, ∃ ε', bindP pt (en a) ε = .ok () ε' ∧ mt ε' = .ok (p a) ε' ∧ (p a = true → ∃ r, me ε' = .ok r ε' ∧ r.toD = some (f a)) ∧ wipE ε' vs = ε) →
    lcL pt mt me vs (items.map en) acc ε = .ok (acc ++ (items.filter p).map f) ε
  | [], acc, _ => by simp [lcL, pr]
  | a :: r, acc, h => by
    obtain ⟨ε', e1, e2, e3, e4⟩ := h a List.mem_cons_self
    have ih := fun acc => lcL_map en p f r acc fun b hb => h b (List.mem_cons_of_mem _ hb)
    rw [List.map_cons]
    unfold lcL
    rw [bd_ok e1, bd_ok e2]
    cases q : p a with
    | true =>
      obtain ⟨x, e5, e6⟩ := e3 q
      have ew : wipM vs ε' = .ok () ε := by unfold wipM; rw [e4]
      show bd me _ ε' = _
      rw [bd_ok e5]
      show bd (lft (ofO x.toD)) _ ε' = _
      rw [e6]
      show bd (wipM vs) (fun _ => lcL pt mt me vs (r.map en) (acc ++ [f a])) ε' = _
      rw [bd_ok ew, ih, List.filter_cons_of_pos q, List.map_cons, List.append_assoc]
      rfl
    | false =>
      have ew : wipM vs ε' = .ok () ε := by unfold wipM; rw [e4]
      show bd (wipM vs) (fun _ => lcL pt mt me vs (r.map en) acc) ε' = _
      rw [bd_ok ew, ih, List.filter_cons_of_neg (by rw [q]; decide)]
theorem cLc_eq {mi : MI} {pt : Pt} {mt : MT} {me : ME} {vs : List Nat} {ε ε1 : Ep} {α : Type} {items : List α} (en : α → D) (p : α → Bool) (f : α → D) (e : mi ε = .ok (items.map en) ε1) (hl : items.length ≤ 16777216)
    (h : ∀ a ∈ items, ∃ ε', bindP pt (en a) (wipE ε1 vs) = .ok () ε' ∧ mt ε' = .ok (p a) ε' ∧ (p a = true → ∃ r, me ε' = .ok r ε' ∧ r.toD = some (f a)) ∧ wipE ε' vs = wipE ε1 vs)
    (hr : resE ε1 vs (wipE ε1 vs) = ε1) : cLc mi pt mt me vs ε = .ok (.ol ((items.filter p).map f)) ε1 := by
  unfold cLc
  rw [bd_ok e]
  rw [if_pos (by rw [List.length_map]; exact Nat.ble_eq_true_of_le hl)]
  rw [lcL_map en p f items [] h]
  show Rs.ok (SV.ol ([] ++ (items.filter p).map f)) (resE ε1 vs (wipE ε1 vs)) = _
  rw [hr, List.nil_append]
/-! ### lists of ints as data -/
def dI (xs : List Int) : List D := xs.map .int
theorem pls_dI : ∀ xs : List Int, pls (dI xs) = true
  | [] => rfl
  | x :: r => by show (D.pl (.int x) && pls (dI r)) = true; rw [pls_dI r]; rfl
theorem deps_dI : ∀ xs : List Int, deps (dI xs) = 0
  | [] => rfl
  | x :: r => by show max (D.dep (.int x)) (deps (dI r)) = 0; rw [deps_dI r]; rfl
theorem eqvs_dI : ∀ xs ys : List Int, eqvs (dI xs) (dI ys) = decide (xs = ys)
  | [], [] => rfl
  | [], y :: ys => rfl
  | x :: xs, [] => rfl
  | x :: xs, y :: ys => by
    show ((x == y) && eqvs (dI xs) (dI ys)) = _
    rw [eqvs_dI xs ys]
    by_cases h : x = y
    · subst h; simp
    · simp [h]
theorem inDs_dI (c : Int) : ∀ xs : List Int, inDs (.int c) (dI xs) = decide (c ∈ xs)
  | [] => rfl
  | x :: xs => by
    show ((x == c) || inDs (.int c) (dI xs)) = _
    rw [inDs_dI c xs]
    by_cases h : x = c
    · subst h; simp
    · have : ¬ c = x := fun e => h e.symm
      simp [h, this]
theorem ints_dI (xs : List Int) : ints? (dI xs) = some xs := ints_map xs
theorem len_dI (xs : List Int) : (dI xs).length = xs.length := by unfold dI; simp
theorem atI_map {α β : Type} (f : α → β) (xs : List α) (i : Int) : atI (xs.map f) i = (atI xs i).map f := by
  unfold atI
  rw [List.length_map]
  cases ixN xs.length i with
  | none => rfl
  | some j => show (xs.map f)[j]? = (xs[j]?).map f; rw [List.getElem?_map]
end Dv

-- Dv25
namespace Dv
open PySem PySem.Spec PyProof.Rows L2
/-! ### <, >, <=, >= of plain data of one kind -/
def cmpO (f : PyData → PyData → Bool) (a b : D) : Option D := if (a.pl && (b.pl && (PySem.W.alike a.py b.py && (!a.isN && decide (min a.dep b.dep ≤ 60))))) = true then some (.bl (f a.py b.py)) else none
theorem cmpO_some {f : PyData → PyData → Bool} {a b d : D} (h : cmpO f a b = some d) : a.pl = true ∧ b.pl = true ∧ PySem.W.alike a.py b.py = true ∧ a.isN = false ∧ min a.dep b.dep ≤ 60 ∧ d = .bl (f a.py b.py) := by
  unfold cmpO at h
  split at h
  · rename_i z
    simp only [Bool.and_eq_true, decide_eq_true_eq] at z
    cases h; exact ⟨z.1, z.2.1, z.2.2.1, by simpa using z.2.2.2.1, z.2.2.2.2, rfl⟩
  · cases h
def oLtA := l2 fun a b => (ofO (cmpO (fun x y => PySem.W.dataLt x y) a b)).bd okd
def oGtA := l2 fun a b => (ofO (cmpO (fun x y => PySem.W.dataLt y x) a b)).bd okd
def oLeA := l2 fun a b => (ofO (cmpO (fun x y => !PySem.W.dataLt y x) a b)).bd okd
def oGeA := l2 fun a b => (ofO (cmpO (fun x y => !PySem.W.dataLt x y) a b)).bd okd
theorem py_notN {a : D} (h : a.isN = false) : a.py ≠ .none := by
  intro e
  cases a <;> first | (cases h; done) | (unfold D.py at e; cases e; done)
section
variable {X : Cx} {E : XK}
theorem op2_ltA (hu : X.A.units + 64 < cLine) : Op2 X E (compareOp .Lt) oLtA := op2_sc fun pins s σ F H x y u w a b d Q I rx ry sF ra rb e q => by
  obtain ⟨pa, pb, al, hn, hd, rfl⟩ := cmpO_some e
  obtain ⟨as, r1⟩ := reads_of I a x u pa (Rep.mono sF _ _ ra) rx
  obtain ⟨bs, r2⟩ := reads_of I b y w pb (Rep.mono sF _ _ rb) ry
  refine PySem.W.lt_data r1 r2 al (py_notN hn) ?_ ?_
  · have := dep_py a
    have := dep_py b
    omega
  · exact ⟨.bl _, H, I, rfl, q _ fun F => rep_bl⟩
theorem op2_gtA (hu : X.A.units + 64 < cLine) : Op2 X E (compareOp .Gt) oGtA := op2_sc fun pins s σ F H x y u w a b d Q I rx ry sF ra rb e q => by
  obtain ⟨pa, pb, al, hn, hd, rfl⟩ := cmpO_some e
  obtain ⟨as, r1⟩ := reads_of I a x u pa (Rep.mono sF _ _ ra) rx
  obtain ⟨bs, r2⟩ := reads_of I b y w pb (Rep.mono sF _ _ rb) ry
  refine PySem.W.gt_data r1 r2 al (py_notN hn) ?_ ?_
  · have := dep_py a
    have := dep_py b
    omega
  · exact ⟨.bl _, H, I, rfl, q _ fun F => rep_bl⟩
theorem op2_leA (hu : X.A.units + 64 < cLine) : Op2 X E (compareOp .LtE) oLeA := op2_sc fun pins s σ F H x y u w a b d Q I rx ry sF ra rb e q => by
  obtain ⟨pa, pb, al, hn, hd, rfl⟩ := cmpO_some e
  obtain ⟨as, r1⟩ := reads_of I a x u pa (Rep.mono sF _ _ ra) rx
  obtain ⟨bs, r2⟩ := reads_of I b y w pb (Rep.mono sF _ _ rb) ry
  refine PySem.W.le_data r1 r2 al (py_notN hn) ?_ ?_
  · have := dep_py a
    have := dep_py b
    omega
  · exact ⟨.bl _, H, I, rfl, q _ fun F => rep_bl⟩
theorem op2_geA (hu : X.A.units + 64 < cLine) : Op2 X E (compareOp .GtE) oGeA := op2_sc fun pins s σ F H x y u w a b d Q I rx ry sF ra rb e q => by
  obtain ⟨pa, pb, al, hn, hd, rfl⟩ := cmpO_some e
  obtain ⟨as, r1⟩ := reads_of I a x u pa (Rep.mono sF _ _ ra) rx
  obtain ⟨bs, r2⟩ := reads_of I b y w pb (Rep.mono sF _ _ rb) ry
  refine PySem.W.ge_data r1 r2 al (py_notN hn) ?_ ?_
  · have := dep_py a
    have := dep_py b
    omega
  · exact ⟨.bl _, H, I, rfl, q _ fun F => rep_bl⟩
end
/-! reckoned -/
theorem cmp_int (f : PyData → PyData → Bool) (i j : Int) : cmpO f (.int i) (.int j) = some (.bl (f (.int i) (.int j))) := by
  unfold cmpO
  rw [if_pos]; · rfl
  show (true && (true && (PySem.W.alike (.int i) (.int j) && (true && decide (min 0 0 ≤ 60))))) = true
  simp [PySem.W.alike]
theorem cmp_ii (f : PyData → PyData → Bool) (x y x' y' : Int) : cmpO f (.tup [.int x, .int y]) (.tup [.int x', .int y']) = some (.bl (f (.tuple [.int x, .int y]) (.tuple [.int x', .int y']))) := by
  unfold cmpO
  rw [if_pos]; · simp [D.py, pys]
  simp [D.pl, pls, D.py, pys, PySem.W.alike, PySem.W.alikeAll, D.isN, D.dep, deps]
theorem l2_cmp (f : PyData → PyData → Bool) (a b : D) : (l2 fun a b => (ofO (cmpO f a b)).bd okd) (.dat a) (.dat b) = (ofO (cmpO f a b)).bd okd := rfl
section
variable (i j : Int)
@[simp] theorem rk_ltA : oLtA (.dat (.int i)) (.dat (.int j)) = okd (.bl (decide (i < j))) := by
  refine (l2_cmp _ _ _).trans ?_
  rw [cmp_int, PySem.W.dataLt_int]; rfl
@[simp] theorem rk_leA : oLeA (.dat (.int i)) (.dat (.int j)) = okd (.bl (decide (i ≤ j))) := by
  refine (l2_cmp _ _ _).trans ?_
  rw [cmp_int, PySem.W.dataLt_int]
  have : (!decide (j < i)) = decide (i ≤ j) := by rw [Bool.eq_iff_iff]; simp
  rw [this]; rfl
@[simp] theorem rk_gtA : oGtA (.dat (.int i)) (.dat (.int j)) = okd (.bl (decide (j < i))) := by
  refine (l2_cmp _ _ _).trans ?_
  rw [cmp_int, PySem.W.dataLt_int]; rfl
@[simp] theorem rk_geA : oGeA (.dat (.int i)) (.dat (.int j)) = okd (.bl (decide (j ≤ i))) := by
  refine (l2_cmp _ _ _).trans ?_
  rw [cmp_int, PySem.W.dataLt_int]
  have : (!decide (i < j)) = decide (j ≤ i) := by rw [Bool.eq_iff_iff]; simp
  rw [this]; rfl
theorem rk_ltA2 (x y x' y' : Int) : oLtA (.dat (.tup [.int x, .int y])) (.dat (.tup [.int x', .int y'])) = okd (.bl (decide (x < x' ∨ (x = x' ∧ y < y')))) := by
  refine (l2_cmp _ _ _).trans ?_
  rw [cmp_ii, PySem.W.dataLt_ii]; rfl
end
end Dv

-- Dv26
namespace Dv
open PySem PySem.Spec PyProof.Rows L2
/-! ### repr of plain data -/
mutual
theorem pl_noDict : ∀ d : D, d.pl = true → d.py.hasDict = false
  | .non, _ => by unfold D.py PyData.hasDict; rfl
  | .bl _, _ => by unfold D.py PyData.hasDict; rfl
  | .int _, _ => by unfold D.py PyData.hasDict; rfl
  | .str _, _ => by unfold D.py PyData.hasDict; rfl
  | .lst xs, h => by unfold D.pl at h; unfold D.py PyData.hasDict; exact pls_noDict xs h
  | .frl xs, h => by unfold D.pl at h; unfold D.py PyData.hasDict; exact pls_noDict xs h
  | .tup xs, h => by unfold D.pl at h; unfold D.py PyData.hasDict; exact pls_noDict xs h
  | .dct _ _, h => by unfold D.pl at h; cases h
  | .obj _ _, h => by unfold D.pl at h; cases h
theorem pls_noDict : ∀ ds : List D, pls ds = true → PyData.hasDictAll (pys ds) = false
  | [], _ => by unfold pys PyData.hasDictAll; rfl
  | d :: ds, h => by
    unfold pls at h
    have h1 := Bool.and_eq_true_iff.mp h
    unfold pys PyData.hasDictAll
    rw [pl_noDict d h1.1, pls_noDict ds h1.2]; rfl
end
def showOk (d : D) : Bool := d.pl && (d.py.showable && (decide (d.dep ≤ 60) && lenOk d.py.shown.length))
def kPy : Key → PyData
  | .inl i => .int i
  | .inr x => .str x
def kvPy (kvs : List (Key × D)) : List (PyData × PyData) := kvs.map fun kv => (kPy kv.1, kv.2.py)
/-- a dict of plain things, none of which is a list -/
def D.sc : D → Bool
  | .non | .bl _ | .int _ | .str _ => true
  | _ => false
def showKv (kvs : List (Key × D)) : Bool := (kvs.all fun kv => kv.2.sc) && ((PyData.dict (kvPy kvs)).showable && lenOk (PyData.dict (kvPy kvs)).shown.length)
def reprO : List D → Ot SV
  | [.dct _ kvs] => if showKv kvs = true then okd (.str (PyData.dict (kvPy kvs)).shown) else .stuck
  | [d] => if showOk d = true then okd (.str d.py.shown) else .stuck
  | _ => .stuck
section
variable {X : Cx} {E : XK} {k : Nat}
theorem sc_reads {K : Fg} {F : Hp} {h : Heap} {d : D} {v : V} {u : Value} (hs : d.sc = true) (r : Rep K F d v) (rv : RelV v u) : Reads h u d.py [] := by
  cases d <;> first | (cases hs; done) | skip
  · unfold Rep at r; subst r; cases rv; exact .none
  · unfold Rep at r; subst r; cases rv; exact .bool _
  · unfold Rep at r; subst r; obtain ⟨t, rfl⟩ := rv; exact .int _ t
  · unfold Rep at r; obtain ⟨rfl, _⟩ := r; obtain ⟨t, rfl⟩ := rv; exact .str _ t
theorem key_reads {h : Heap} {k : Key} {u : Value} (e : keyIs k u = true) : Reads h u (kPy k) [] := by
  rcases keyIs_shape e with ⟨i, t, rfl, rfl⟩ | ⟨x, t, rfl, rfl⟩
  · exact .int i t
  · exact .str x t
theorem kv_reads {P : Program} {w : World} {K : Fg} {F : Hp} {h : Heap} : ∀ {kvs : List (Key × D)} {ys : List (Key × V)} {vs : List (Key × Value)} {es : List DictEntry}, (kvs.all fun kv => kv.2.sc) = true → RepK K F kvs ys → KV ys vs → Pairs (mixKind P w) es vs →
    ReadsAll h (es.map (·.key)) ((kvPy kvs).map (·.1)) [] ∧ ReadsAll h (es.map (·.val)) ((kvPy kvs).map (·.2)) []
  | [], ys, vs, es, _, r, q, p => by
    unfold RepK at r; subst r
    cases q; cases p
    exact ⟨.nil, .nil⟩
  | (k, d) :: r, ys, vs, es, hs, rk, q, p => by
    unfold RepK at rk
    obtain ⟨v, yr, rfl, _, r1, r2⟩ := rk
    cases q with
    | cons q1 q2 =>
      cases p with
      | cons p1 p2 p3 =>
        have hs' : (d.sc && r.all fun kv => kv.2.sc) = true := hs
        have hs2 := Bool.and_eq_true_iff.mp hs'
        obtain ⟨i1, i2⟩ := kv_reads (h := h) hs2.2 r2 q2 p3
        have e1 := q1.1
        dsimp only at e1
        rw [← e1] at p1
        have kr : Reads h _ (kPy k) [] := key_reads p1
        have vr := sc_reads (h := h) hs2.1 r1 q1.2
        rw [← p2] at vr
        exact ⟨.cons kr i1, .cons vr i2⟩
theorem opc_repr (hr : Room k X.A) : OpC X E (.builtin "repr") reprO := opc_gen fun pins s σ σ' B ε tmp F H fp vs us ds Q I r hF rr w => by
  have hu := hr.un
  unfold reprO at w
  split at w
  · rename_i lk kvs
    split at w
    · rename_i z
      obtain ⟨v, rfl, h⟩ := rr.inv1
      obtain ⟨a, ys, rfl, h1, h2⟩ := rep_dict hF.sub h
      obtain ⟨u, rfl, ru⟩ := vals1 r
      cases (show u = Value.ref a from ru)
      unfold showKv at z
      obtain ⟨z1, z0⟩ := Bool.and_eq_true_iff.mp z
      obtain ⟨z2, z3⟩ := Bool.and_eq_true_iff.mp z0
      have z5 := lenOk_le z3
      obtain ⟨_, hsys, vs, rel, o, es, ep, e1, e2, e3, _, e4, _⟩ := dk_rd I.hok h1
      obtain ⟨k1, k2⟩ := kv_reads (h := s.heap) z1 h2 rel e4
      have rd : Reads s.heap (.ref a) (.dict (kvPy kvs)) (a :: [] ++ []) := .dict e1 e2.1 e3 k1 k2
      have dep1 : (PyData.dict (kvPy kvs)).depth ≤ 1 := by
        unfold PyData.depth
        have : ∀ (l : List (Key × D)), (l.all fun kv => kv.2.sc) = true → PyData.depthKv (kvPy l) = 0 := by
          intro l
          induction l with
          | nil => intro _; unfold kvPy PyData.depthKv; rfl
          | cons kv r ih =>
            intro hl
            have hl' : (kv.2.sc && r.all fun kv => kv.2.sc) = true := hl
            have hl2 := Bool.and_eq_true_iff.mp hl'
            have i := ih hl2.2
            have dk : (kPy kv.1).depth = 0 := by cases kv.1 <;> rfl
            have dv : kv.2.py.depth = 0 := by
              have := hl2.1
              cases q : kv.2 <;> rw [q] at this <;> first | (cases this; done) | rfl
            show PyData.depthKv ((kPy kv.1, kv.2.py) :: kvPy r) = 0
            unfold PyData.depthKv
            rw [i, dk, dv]; rfl
        rw [this kvs z1]; exact Nat.le_refl _
      exact repr_of_reads' (h₀ := s.heap) rd z2 (fun _ hm => by
        have : sysModules = a := by simpa using hm
        rw [this] at hsys
        simp at hsys) hr.gd (by omega) (fun _ _ e => e) (fun h' t tk hk => ⟨.str _, H, I.kept hk, ⟨_, rfl⟩, w_val hF (rep_str z5) w⟩) z5
    · exact w.elim
  · rename_i d hnd
    split at w
    · rename_i z
      obtain ⟨v, rfl, h⟩ := rr.inv1
      obtain ⟨u, rfl, ru⟩ := vals1 r
      simp only [showOk, Bool.and_eq_true, decide_eq_true_eq] at z
      obtain ⟨z1, z2, z3, z4⟩ := z
      have z5 := lenOk_le z4
      have dp := dep_py d
      have fin : ∀ (h' : Heap) (t tk : Nat), (∀ b o, s.heap.get? b = some o → h'.get? b = some o) → EP X pins σ Q (.str d.py.shown t) { s with heap := h', toks := tk } := fun h' t tk hk =>
        ⟨.str d.py.shown, H, I.kept hk, ⟨_, rfl⟩, w_val hF (rep_str z5) w⟩
      obtain ⟨as, rd⟩ := reads_of I d v u z1 (Rep.mono hF.sub _ _ h) ru
      have big : ∀ a, u = .ref a → wpAny (model X.prog X.w) X.A (call (.builtin "repr") [u]) (EP X pins σ Q) X.xe s := fun a e => by
        subst e
        exact repr_of_reads' (h₀ := s.heap) rd z2 (PyData.noDict_hsm (pl_noDict d z1)) hr.gd (by omega) (fun _ _ e => e) (fun h' t tk hk => fin h' t tk hk) z5
      cases d with
      | non =>
        cases rd
        exact PySem.P.repr_of_none (fin s.heap s.toks (s.toks + 1) fun _ _ e => e)
      | bl b =>
        cases rd
        exact PySem.P.repr_of_bool (fin s.heap s.toks (s.toks + 1) fun _ _ e => e)
      | int i =>
        cases rd
        exact PySem.P.repr_of_int (by simpa [D.py, PyData.showable] using z2) (fin s.heap s.toks (s.toks + 1) fun _ _ e => e)
      | str x =>
        cases rd
        exact PySem.P.repr_of_str (fin s.heap s.toks (s.toks + 1) fun _ _ e => e) (by simpa only [D.py, PyData.shown] using z5)
      | lst xs => cases rd with | list => exact big _ rfl
      | frl xs => cases rd with | list => exact big _ rfl
      | tup xs => cases rd with | tuple => exact big _ rfl
      | dct lk kvs => exact absurd rfl (hnd lk kvs)
      | obj C fs => cases z1
    · exact w.elim
  · exact w.elim
end
end Dv

-- Dv27
namespace Dv
open PySem PySem.Spec PyProof.Rows L2
/-! ### f(k = v, ..), all by name -/
def perm {α : Type} (d : α) (π : List Nat) (xs : List α) : List α := π.map fun i => xs.getD i d
theorem perm_vals {zs : List V} {ws : List Value} (r : Vals zs ws) : ∀ {π : List Nat}, (∀ i ∈ π, i < zs.length) → Vals (perm .non π zs) (perm .none π ws)
  | [], _ => .nil
  | i :: π, h => by
    have hi := h i List.mem_cons_self
    have hw : i < ws.length := by rw [← r.length]; exact hi
    obtain ⟨u, hu, ru⟩ := r.get (List.getElem?_eq_getElem hi)
    have e1 : zs.getD i .non = zs[i] := by simp [hi]
    have e2 : ws.getD i .none = u := by simp [hu]
    refine .cons ?_ (perm_vals r fun j hj => h j (List.mem_cons_of_mem _ hj))
    show RelV (zs.getD i .non) (ws.getD i .none)
    rw [e1, e2]; exact ru
theorem perm_reps {K : Fg} {F : Hp} {ds : List D} {vs : List V} (r : Reps K F ds vs) : ∀ {π : List Nat}, (∀ i ∈ π, i < ds.length) → Reps K F (perm .non π ds) (perm .non π vs)
  | [], _ => .nil
  | i :: π, h => by
    have hi := h i List.mem_cons_self
    obtain ⟨v, hv, rv⟩ := r.get' (List.getElem?_eq_getElem hi)
    have e1 : ds.getD i .non = ds[i] := by simp [hi]
    have e2 : vs.getD i .non = v := by simp [hv]
    refine .cons ?_ (perm_reps r fun j hj => h j (List.mem_cons_of_mem _ hj))
    show Rep K F (ds.getD i .non) (vs.getD i .non)
    rw [e1, e2]; exact rv
structure KwB (fd : FuncData) (ps ks : List Str) (π : List Nat) : Prop where
  len : π.length = ps.length
  lt : ∀ i ∈ π, i < ks.length
  to : ∀ (s : Shared) (ws : List Value), ws.length = ks.length → BindsTo s fd ⟨[], ks.zip ws⟩ (ps.zip (perm .none π ws))
/-- a def's binding by names, where it has no defaults -/
theorem kwb_of {K : Fg} {x qual : Str} {params : Arguments} {body : List Stmt} {scope : Scope} {f : Addr} {fd : FuncData} {ps ks : List Str} {π : List Nat} (F : FunD K x qual params body scope [] [] f fd) (len : π.length = ps.length) (lt : ∀ i ∈ π, i < ks.length)
    (h : ∀ (kV doc pm : Value) (an : Option Addr) (cdv ct : Value) (ws : List Value), ws.length = ks.length → bindArgs (PySem.W.fnOf x qual params body scope .none kV doc pm an cdv ct) ⟨[], ks.zip ws⟩ = pure (ps.zip (perm .none π ws))) : KwB fd ps ks π where
  len := len
  lt := lt
  to := fun s ws hl => by
    obtain ⟨oc, od, dV, kV, doc, pm, an, cdv, ct, osl, rfl, lk, hcd, hD, hK⟩ := F.ex
    rcases hD with ⟨_, rfl⟩ | ⟨e, _⟩
    · exact .of_eq (h kV doc pm an cdv ct ws hl)
    · exact absurd rfl e
section
variable {X : Cx} {E : XK} {pu : Bool} {e : Expr} {kws : List Keyword} {mm : MA} {me : ME} {p pos kpos : Pos} {k : Nat} {f : Addr} {fd : FuncData} {ps ks : List Str} {π : List Nat} {g : List D → Ot SV} {x : Str} {sp : Sp} {CX : CXT} {tk : TA} {nm : Option Str}
theorem kw_call (F : FnOk X.prog X.w X.K X.mg X.base CX k f fd ps sp) (hr : Room k X.A) (hb : KwB fd ps ks π) (hx : Passes CX X E) {pins : List (Addr × Obj)} {s : Shared} {σ : L2.St} {H : Hp} {zs : List V} {ws : List Value} {Q : VK} (I : Inv X pins σ H s) (r : Vals zs ws) (hl : zs.length = ks.length) (h : sp (perm .non π zs) H Q E) :
    wpAny (model X.prog X.w) X.A (call (.ref f) [] (ks.zip ws)) (EP X pins σ Q) X.xe s := by
  have rr := perm_vals r (π := π) fun i hi => by rw [hl]; exact hb.lt i hi
  refine wpAny_call (codeAny_mono (F.goes X.A X.stack s H ⟨[], ks.zip ws⟩ _ _ Q E hr I.env0 (hb.to s ws (r.length.symm.trans hl)) rr h) fun res s' hq => ?_)
  match res, hq with
  | .error e, hq => exact hx pins σ H s e s' I hq
  | .ok (.ret u), hq => exact I.after hq
  | .ok .next, hq => exact False.elim hq
  | .ok .brk, hq => exact False.elim hq
  | .ok .cont, hq => exact False.elim hq
theorem pe_callKw (F : FnOk X.prog X.w X.K X.mg X.base CX k f fd ps sp) (hr : Room k X.A) (hg : Gl X x) (hm : X.mg x = some (.ref f)) (hk : PySem.W.keepIn X.K (.ref f) = true) (hb : KwB fd ps ks π) (hx : Passes CX X E) (hkw : PK X kws tk)
    (hall : (backToKw pos (keywordEach kws X.env)).all (·.1.isSome) = true := by rfl) (hks : (backToKw pos (keywordEach kws X.env)).filterMap (·.1) = ks := by rfl) (hdb : (x == ("__debug__" : Str)) = false := by decide)
    (hpl : ((backTo pos (starEach [] X.env)).any (·.1) || (backToKw pos (keywordEach kws X.env)).any (·.1.isNone)) = false := by rfl) :
    PE X (.Call (.Name x p) [] kws pos) (fun σ H Q => tk σ H fun zs H2 => zs.length = ks.length ∧ sp (perm .non π zs) H2 Q E) where
  run := fun pins s σ H Q I h => wpAny_Call_Name_kw (ld_glob I hg hm (PySem.W.callWith_KW0 (h₀ := X.base) I.ok.mod.kin hk hall (thn (hkw.run pos pins s σ H _ I h) fun ws s2 ⟨zs, H2, I2, rz, hl, q⟩ => ⟨I2.kIn, by rw [hks]; exact kw_call F hr hb hx I2 rz hl q⟩) hpl) hdb)
def SK (X : Cx) (E : XK) (pu : Bool) (kws : List Keyword) (m : MA) : Prop := PK X kws (tA X.K E pu m)
theorem pk_imp {t t' : TA} (h : PK X kws t) (i : ∀ (pins : List (Addr × Obj)) (s : Shared) (σ : L2.St) (H : Hp) (Q : List V → Hp → Prop), Inv X pins σ H s → t' σ H Q → t σ H Q) : PK X kws t' where
  run := fun pos pins s σ H Q I q => h.run pos pins s σ H Q I (i pins s σ H Q I q)
theorem sk_nil : SK X E pu [] aN := pk_imp pk_nil fun pins s σ H Q I ⟨B, ε, tmp, h, w⟩ => w [] H rfl h Pq.refl
theorem sk_cons (he : SP X E pu e me) (hr : SK X E pu kws mm) : SK X E pu (⟨nm, e, kpos⟩ :: kws) (aC me mm) :=
  pk_imp (pk_cons he hr) fun pins s σ H Q I ⟨B, ε, tmp, h, w⟩ => gex (wiA tmp Q) h w fun r v ε1 H1 h1 w1 => gar (wiA tmp Q) h1 w1 fun rs vs ε2 H2 hl h2 w2 => by
    refine w2 (v :: vs) H2 (by simp [hl]) ?_ Pq.refl
    show Sta X.K B H2 σ ε2 ((zipR vs rs ++ [(v, r)]) ++ tmp)
    rw [List.append_assoc]; exact h2
def kwO (n : Nat) (π : List Nat) (g : List D → Ot SV) : List D → Ot SV := fun ds => if ds.length = n then g (perm .non π ds) else .stuck
def cCallK (n : Nat) (π : List Nat) (g : List D → Ot SV) (mm : MA) : ME := cA (kwO n π g) mm
theorem sp_callK (F : FnOk X.prog X.w X.K X.mg X.base (L2.CX X.prog X.w) k f fd ps (spF X.K g)) (hr : Room k X.A) (hg : Gl X x) (hm : X.mg x = some (.ref f)) (hk : PySem.W.keepIn X.K (.ref f) = true) (hb : KwB fd ps ks π) (hx : Passes (L2.CX X.prog X.w) X E) (ha : SK X E pu kws mm)
    (hall : (backToKw pos (keywordEach kws X.env)).all (·.1.isSome) = true := by rfl) (hks : (backToKw pos (keywordEach kws X.env)).filterMap (·.1) = ks := by rfl) (hdb : (x == ("__debug__" : Str)) = false := by decide)
    (hpl : ((backTo pos (starEach [] X.env)).any (·.1) || (backToKw pos (keywordEach kws X.env)).any (·.1.isNone)) = false := by rfl) :
    SP X E pu (.Call (.Name x p) [] kws pos) (cCallK ks.length π g mm) :=
  pe_imp (pe_callKw F hr hg hm hk hb hx ha hall hks hdb hpl) fun pins s σ H Q I ⟨B, ε, tmp, h, w⟩ => gcA h w fun ds vs ε' H' F fp hF r w2 => by
    unfold kwO at w2
    split at w2
    · rename_i hl
      refine ⟨r.length.trans hl, ?_⟩
      have := w_call (g := g) (dvs := []) (df := []) (ds := perm .non π ds) (vs := perm .non π vs) (fun F => .nil) hF (perm_reps r fun i hi => by rw [hl]; exact hb.lt i hi) (by rw [List.append_nil]; exact w2)
      rw [List.append_nil] at this
      exact this
    · exact w2.elim
end
/-- the same with the law's names told -/
def FnK (P : Program) (w : World) (K : Fg) (mg : Str → Option Value) (base : Heap) (p : Str × Option Str) (k : Nat) (ps ks : List Str) (π : List Nat) (sp : Sp) : Prop :=
  ∃ fd, FnOk P w K mg base (L2.CX P w) k (He.fAd K p) fd ps sp ∧ KwB fd ps ks π ∧ PySem.W.keepIn K (.ref (He.fAd K p)) = true
section
variable {X : Cx} {E : XK} {pu : Bool} {kws : List Keyword} {mm : MA} {p pos : Pos} {j k : Nat} {ps ks : List Str} {π : List Nat} {g : List D → Ot SV} {x : Str}
theorem sp_callKV (hf : FnK X.prog X.w X.K X.mg X.base (x, none) j ps ks π (spF X.K g)) (hm : X.mg x = some (.ref (He.ga X.K x))) (hr : Room k X.A) (hx : Passes (L2.CX X.prog X.w) X E) (ha : SK X E pu kws mm) (hjk : j ≤ k := by decide) (hg : Gl X x := by rfl)
    (hall : (backToKw pos (keywordEach kws X.env)).all (·.1.isSome) = true := by rfl) (hks : (backToKw pos (keywordEach kws X.env)).filterMap (·.1) = ks := by rfl) (hdb : (x == ("__debug__" : Str)) = false := by decide)
    (hpl : ((backTo pos (starEach [] X.env)).any (·.1) || (backToKw pos (keywordEach kws X.env)).any (·.1.isNone)) = false := by rfl) :
    SP X E pu (.Call (.Name x p) [] kws pos) (cCallK ks.length π g mm) := by
  obtain ⟨fd, F, hb, hk⟩ := hf
  exact sp_callK F (hr.mono hjk) hg hm hk hb hx ha hall hks hdb hpl
end
end Dv

-- Dv28
namespace Dv
open PySem PySem.SeqAt PySem.W PyProof.Rows
/-! ### sorted of tuples, the first of which is empty -/
section
variable {prog : Program} {w : World} {A : Around} {E : Value → Shared → Prop} {s : Shared}
theorem call_tup_lt {Q : Value → Shared → Prop} {l b : Addr} {items items2 : Array Value} {e r : Nat → Bool} (hl : s.heap.IsTuple l items) (hb : s.heap.IsTuple b items2) (he : ∀ j (h1 : j < items.size) (h2 : j < items2.size), EqAt A.in1 s items[j] items2[j] (e j))
    (hr : ∀ j (h1 : j < items.size) (h2 : j < items2.size), e j = false → RcLt A.in1 s items[j] items2[j] (r j)) (h : Q (.bool (firstLt e r (decide (items.size < items2.size)) (List.range (min items.size items2.size)))) s) : wpAny (model prog w) A (call (.builtin "tuple.__lt__") [.ref l, .ref b]) Q E s := by
  obtain ⟨⟨_, _, _, _⟩, o1, q1, _, d1⟩ := id hl
  obtain ⟨⟨_, _, _, _⟩, o2, q2, _, d2⟩ := id hb
  dsimp only at q1 d1 q2 d2
  subst q1; subst d1; subst q2; subst d2
  exact call_meets F.slot_tuple_lt ⟨_, o1, rfl⟩ F.entry_tuple_lt (F.args_tuple_lt_2 _ _) (tuple_ltAt _ _ _ _ _ _ _ _ _ _ e r) ⟨o1, o2, he, hr, h⟩
/-- x < y of tuples as list.sort asks it when all are of one class -/
theorem oneLt_tups {xs ys : List PyData} {a b : Value} {as bs : List Addr} {Q : Bool → Shared → Prop} (ra : Reads s.heap a (.tuple xs) as) (rb : Reads s.heap b (.tuple ys) bs) (al : alikeAll xs ys = true) (hu : A.units + min (PyData.tuple xs).depth (PyData.tuple ys).depth < cLine)
    (hq : Q (dataLt (.tuple xs) (.tuple ys)) s) : wpAny (model prog w) A (oneLt' true a b) Q E s := by
  cases ra with
  | @tuple l o vs n _ _ h1 h2 h3 h4 =>
    cases rb with
    | @tuple l' o' vs' n' _ _ k1 k2 k3 k4 =>
      have n1 : vs.size = xs.length := by simpa using ReadsAll.length _ _ _ h4
      have n2 : vs'.size = ys.length := by simpa using ReadsAll.length _ _ _ k4
      rw [dataLt_tuple, ← firstLt_toks xs ys al, ← n1, ← n2] at hq
      rw [oneLt'_eq]
      simp only [if_true]
      refine wpAny_bind (wpAny_cRoomFor (room_here hu) (wpAny_bind (wpAny_callSpecialIfBound?_slot (T := "tuple") ⟨_, h1, h2⟩ F.slot_tuple_lt
        (call_tup_lt (e := pairEq xs ys) (r := fun j => dataLt (xs.getD j .none) (ys.getD j .none)) ⟨_, h1, h2, _, h3⟩ ⟨_, k1, k2, _, k3⟩ (fun j j1 j2 => ?_) (fun j j1 j2 hj => ?_) ?_))))
      · have q := eqAt_alikeAll xs ys A.in1 s vs.toList vs'.toList _ _ h4 k4 al (room_in hu) j (by simpa using j1) (by simpa using j2)
        simpa using q
      · have q := rcLt_alikeAll xs ys A.in1 s vs.toList vs'.toList _ _ h4 k4 al (room_in hu) j (by simpa using j1) (by simpa using j2) hj
        simpa using q
      · exact wpAny_truthy_bool hq
theorem first_tup {M : Model} {v : Value} {xs : List PyData} {as : List Addr} {Q : Option Value → Shared → Prop} (r : Reads s.heap v (.tuple xs) as) (h : ∀ f, (xs = [] → f = none) → Q f s) : wpAny M A (firstOfTuple' v) Q E s := by
  cases r with
  | @tuple a o vs n _ _ h1 h2 h3 h4 =>
    rw [kas_first_eq]
    refine wpAny_bind (Looks.here (show Looks M s.heap (typeOf (.ref a)) o.cls from (Looks.ld h1).andThen .now) ?_)
    rw [h2, if_neg (by first | decide | simp)]
    refine wpAny_bind (listItems_at h1 h3 (wpAny_pure (h _ fun e => ?_)))
    subst e
    have hl : vs.toList.length = 0 := ReadsAll.length _ _ _ h4
    have : vs.size = 0 := by simpa using hl
    simp [this]
theorem firsts_tup {M : Model} : ∀ {vs : List Value} {ds : List PyData} {Q : List (Option Value) → Shared → Prop}, EachIs (fun v d => ∃ as, Reads s.heap v d as) vs ds → (∀ d ∈ ds, ∃ xs, d = .tuple xs) → (∀ fs : List (Option Value), fs.length = vs.length → (ds.head? = some (.tuple []) → fs.head? = some none) → Q fs s) → wpAny M A (vs.mapM firstOfTuple') Q E s
  | [], [], Q, .nil, _, h => by rw [List.mapM_nil]; exact wpAny_pure (h [] rfl fun z => by cases z)
  | v :: vs, d :: ds, Q, .cons ⟨as, r⟩ t, ht, h => by
    obtain ⟨xs, rfl⟩ := ht d List.mem_cons_self
    rw [List.mapM_cons]
    refine wpAny_bind (first_tup r fun f hf => wpAny_bind (firsts_tup (Q := fun bs s' => wpAny M A (pure (f :: bs)) Q E s') t (fun d hd => ht d (List.mem_cons_of_mem _ hd)) fun fs hl _ => wpAny_pure (h (f :: fs) (by simp [hl]) fun z => ?_)))
    have : xs = [] := by simpa using z
    rw [hf this]; rfl
theorem tup_kind {M : Model} {vs : List Value} {ds : List PyData} {Q : SortKind → Shared → Prop} (e : EachIs (fun v d => ∃ as, Reads s.heap v d as) vs ds) (ht : ∀ d ∈ ds, ∃ xs, d = .tuple xs) (h0 : ds.head? = some (.tuple [])) (h : Q oneType' s) : wpAny M A (keyKind' vs.toArray) Q E s := by
  have hne : vs ≠ [] := fun z => by subst z; cases e; cases h0
  rw [keyKind'_eq, List.mapM_toArray, map_eq_pure_bind]
  refine wpAny_bind (wpAny_bind (firsts_tup e ht fun fs hl hf => wpAny_pure ?_))
  have hf := hf h0
  obtain ⟨fr, rfl⟩ : ∃ fr, fs = none :: fr := by
    cases fs with
    | nil => cases hf
    | cons a r => exact ⟨r, by simpa using hf⟩
  rw [if_neg (by simp), if_neg (by simp), oneTypeOnly'_eq, List.mapM_toArray, map_eq_pure_bind]
  refine wpAny_bind (wpAny_bind (wpAny_bind (kas_mapM (r := Value.type "tuple") _ (fun v hv Q' hq => ?_) (wpAny_pure ?_))))
  · obtain ⟨d, hd, as, r⟩ := e.left v hv
    obtain ⟨xs, rfl⟩ := ht d hd
    exact (looks_reads r).here hq
  · cases vs with
    | nil => exact absurd rfl hne
    | cons v rest =>
      have hall : ((List.map (fun _ => Value.type "tuple") (v :: rest)).toArray.all fun x => x == Value.type "tuple") = true := by
        simp only [List.all_toArray, List.all_map, List.all_eq_true]
        intro _ _
        exact beq_self_eq_true _
      have h0 : (List.map (fun _ => Value.type "tuple") (v :: rest)).toArray[0]? = some (Value.type "tuple") := by simp
      rw [h0]
      simp only [hall, if_true]
      exact wpAny_pure (wpAny_pure h)
theorem sorts_tups {vs : List Value} {ds : List PyData} (e : EachIs (fun v d => ∃ as, Reads s.heap v d as) vs ds) (hal : AllAlike ds) (ht : ∀ d ∈ ds, ∃ xs, d = .tuple xs) (h0 : ds.head? = some (.tuple [])) (hu : ∀ d, d ∈ ds → A.units + d.depth < cLine) : SortsAt prog w A s (dataKind s.heap ds) vs where
  keys := fun v hv => by
    obtain ⟨d, hd, as, r⟩ := e.left v hv
    exact ⟨_, dataKind_some hal hd r⟩
  kind := by
    refine ⟨oneType', ?_, fun _ E Q hq => tup_kind e ht h0 hq⟩
    intro E x y a b Q ha hb hq
    obtain ⟨d, as, hd, ra, rfl⟩ := dataKind_inv ha
    obtain ⟨d', as', hd', rb, rfl⟩ := dataKind_inv hb
    have hdd := hal d hd d' hd'
    have hud := hu d hd
    obtain ⟨xs, rfl⟩ := ht d hd
    obtain ⟨ys, rfl⟩ := ht d' hd'
    rw [keyLt'_oneType]
    exact oneLt_tups ra rb (by simpa [alike] using hdd) (Nat.lt_of_le_of_lt (Nat.add_le_add_left (Nat.min_le_left _ _) _) hud) hq
end
section
variable {prog : Program} {w : World} {A : Around} {E : Value → Shared → Prop} {s : Shared} {β : Type} {vs : List Value} {bs : List β} {enc : β → PyData} {R : Value → β → Prop}
theorem sorted_tups {l : Addr} {Q : Value → Shared → Prop} (hl : s.heap.IsList l vs.toArray) (e : EachIs R vs bs) (er : EachIs (fun v b => ∃ as, Reads s.heap v (enc b) as) vs bs) (hal : AllAlike (bs.map enc)) (ht : ∀ d ∈ bs.map enc, ∃ xs, d = .tuple xs) (h0 : (bs.map enc).head? = some (.tuple [])) (hL : bs.length ≤ sizeLine)
    (hu : ∀ b, b ∈ bs → A.units + 2 + (enc b).depth < cLine) (h : ∀ out, out.length = bs.length → EachIs R out (bs.mergeSort (dataLe false enc)) → Q (.ref (s.heap.objs.size + 1)) { s with heap := sortedAll s.heap vs (List.toArray out) }) :
    wpAny (model prog w) A (call (.builtin "sorted") [.ref l]) Q E s := by
  have er2 : EachIs (fun v b => ∃ as, Reads (sortingHeap (copyHeap s.heap vs) (s.heap.objs.size + 1) vs) v (enc b) as) vs bs := er.mono fun _ _ ⟨as, r⟩ => ⟨as, PyProof.Rows.Reads.keeps (fun _ _ => sorting_copy_old) r⟩
  have em := each_map (R := fun v d => ∃ as, Reads (sortingHeap (copyHeap s.heap vs) (s.heap.objs.size + 1) vs) v d as) enc er2
  refine sorted_vals hl (sorts_tups (s := { s with heap := sortingHeap (copyHeap s.heap vs) (s.heap.objs.size + 1) vs }) em hal ht h0 fun d hd => ?_) (by rw [e.length]; exact hL) (h _ (by rw [sortVals_length false rfl]; exact e.length) (sortVals_data false e er2 hal))
  obtain ⟨b, hb, rfl⟩ := List.mem_map.mp hd
  exact hu b hb
end
end Dv

-- Dv29
namespace Dv
open PySem PySem.Spec PyProof.Rows L2
/-! ### sorted of plain data of one kind -/
def leD (a b : D) : Bool := !PySem.W.dataLt b.py a.py
def sortD (xs : List D) : List D := xs.mergeSort leD
def isTupP : PyData → Bool
  | .tuple _ => true
  | _ => false
def isTup1 : PyData → Bool
  | .tuple (_ :: _) => true
  | _ => false
def isNonP : PyData → Bool
  | .none => true
  | _ => false
def hd0 : List PyData → Bool
  | .tuple [] :: _ => true
  | _ => false
def sortKindOk (ps : List PyData) : Bool := ps.all isTup1 || (ps.all (fun p => !isTupP p && !isNonP p) || (ps.all isTupP && hd0 ps))
def sortOk (xs : List D) : Bool := pls xs && (lenOk xs.length && ((xs.all fun a => xs.all fun b => PySem.W.alike a.py b.py) && ((xs.all fun a => decide (a.dep ≤ 60)) && sortKindOk (xs.map D.py))))
def sortedA : List D → Ot SV
  | [.dct _ kvs] => (ofO (keyInts? kvs)).bd fun ns => if Nat.blt ns.length 64 = true then .ok (.ol ((srtI ns).map .int)) else .stuck
  | [d] => (ofO d.items?).bd fun xs => if sortOk xs = true then .ok (.ol (sortD xs)) else .stuck
  | _ => .stuck
theorem pls_memA : ∀ {xs : List D}, pls xs = true → ∀ x ∈ xs, x.pl = true
  | d :: ds, h, x, hx => by
    unfold pls at h
    have h1 := Bool.and_eq_true_iff.mp h
    rcases List.mem_cons.mp hx with rfl | hx
    · exact h1.1
    · exact pls_memA h1.2 x hx
theorem each_of {K : Fg} {F : Hp} : ∀ {xs : List D} {ys : List V} {us : List Value}, Reps K F xs ys → Vals ys us → PySem.W.EachIs (fun u d => ∃ v, RelV v u ∧ Rep K F d v) us xs
  | [], ys, us, r, q => by unfold Reps at r; subst r; cases q; exact .nil
  | d :: ds, ys, us, r, q => by
    unfold Reps at r
    obtain ⟨v, r, rfl, h1, h2⟩ := r
    cases q with
    | cons q1 q2 => exact .cons ⟨v, q1, h1⟩ (each_of h2 q2)
theorem of_each {K : Fg} {F : Hp} : ∀ {xs : List D} {us : List Value}, PySem.W.EachIs (fun u d => ∃ v, RelV v u ∧ Rep K F d v) us xs → ∃ ys, Reps K F xs ys ∧ Vals ys us
  | [], _, .nil => ⟨[], .nil, .nil⟩
  | d :: ds, _, .cons ⟨v, q1, h1⟩ t => by
    obtain ⟨ys, r, q⟩ := of_each t
    exact ⟨v :: ys, .cons h1 r, .cons q1 q⟩
section
variable {X : Cx} {E : XK} {k : Nat}
theorem opc_sortedA (hr : Room k X.A) (hc : X.calm = true) : OpC X E (.builtin "sorted") sortedA := opc_gen fun pins s σ σ' B ε tmp F H fp vs us ds Q I r hF rr w => by
  have hu := hr.un
  unfold sortedA at w
  split at w
  · obtain ⟨ns, e, w2⟩ := wP_ofO w
    obtain ⟨v, rfl, h⟩ := rr.inv1
    obtain ⟨a, ys, rfl, h1, h2⟩ := rep_dict hF.sub h
    split at w2
    · rename_i hl
      refine call_sortedDI hc pins s σ H _ us Q I r ⟨a, ys, ns, rfl, h1, repK_ints h2 e, Nat.le_of_ble_eq_true hl, fun zs p hp hs hq => ?_⟩
      rw [srtI_uniq hp hs]
      exact w_newL hF (reps_of_ints _) w2 p hq
    · exact w2.elim
  · obtain ⟨xs, e, w2⟩ := wP_ofO w
    obtain ⟨v, rfl, h⟩ := rr.inv1
    split at w2
    · rename_i hz
      obtain ⟨a, ys, rfl, h1, h2⟩ := rep_list hF.sub h e
      obtain ⟨its, rv, hl, hlen⟩ := I.list h1
      rw [Vals.ref1 r]
      simp only [sortOk, Bool.and_eq_true] at hz
      obtain ⟨z1, z2, z3, z4, z5⟩ := hz
      have zl := lenOk_le z2
      have ei := each_of h2 rv
      have er : PySem.W.EachIs (fun u d => ∃ as, Reads s.heap u (D.py d) as) its xs := (PySem.W.each_mem ei).mono fun u d ⟨⟨v, q1, q2⟩, hm⟩ => reads_of I d v u (pls_memA z1 d hm) (Rep.mono hF.sub _ _ q2) q1
      have hal : PySem.W.AllAlike (xs.map D.py) := fun p hp p' hp' => by
        obtain ⟨x, hx, rfl⟩ := List.mem_map.mp hp
        obtain ⟨x', hx', rfl⟩ := List.mem_map.mp hp'
        exact List.all_eq_true.mp (List.all_eq_true.mp z3 x hx) x' hx'
      have dep : ∀ d ∈ xs, X.A.units + 2 + (D.py d).depth < cLine := fun d hd => by
        have := of_decide_eq_true (List.all_eq_true.mp z4 d hd)
        have := dep_py d
        omega
      have fin : ∀ out : List Value, out.length = xs.length → PySem.W.EachIs (fun u d => ∃ v, RelV v u ∧ Rep X.K F d v) out (xs.mergeSort (PySem.W.dataLe false D.py)) → EP X pins σ Q (.ref (s.heap.objs.size + 1)) { s with heap := PyProof.Rows.sortedAll s.heap its (List.toArray out) } := fun out ho eo => by
        have el : xs.mergeSort (PySem.W.dataLe false D.py) = sortD xs := by
          rw [PySem.W.dataLe_eq]; rfl
        rw [el] at eo
        obtain ⟨zs, r1, r2⟩ := of_each eo
        obtain ⟨ep, he⟩ := PyProof.Rows.sortedAll_at s.heap its out.toArray
        refine ⟨.ref _, upd H (s.heap.objs.size + 1) (.lst zs), I.laid (t' := s.toks) (fun _ _ => PyProof.Rows.sortedAll_old) (Nat.le_succ _) ⟨by rw [r2.length, ho]; exact zl, out, ep, r2, he⟩, rfl, w_newL hF r1 w2 _ (I.hok.fresh (Nat.le_succ _))⟩
      unfold sortKindOk at z5
      rcases Bool.or_eq_true_iff.mp z5 with z | z
      · exact PySem.W.sorted_data hl.isList ei er hal (.inl fun p hp => by
          have q := List.all_eq_true.mp z p hp
          unfold isTup1 at q
          split at q
          · exact ⟨_, _, rfl⟩
          · cases q) zl dep fin
      · rcases Bool.or_eq_true_iff.mp z with z | z
        · exact PySem.W.sorted_data hl.isList ei er hal (.inr fun p hp => by
            have q := List.all_eq_true.mp z p hp
            have q2 := Bool.and_eq_true_iff.mp q
            refine ⟨fun e => ?_, fun xs e => ?_⟩
            · subst e; exact absurd q2.2 (by decide)
            · subst e; exact absurd q2.1 (by simp [isTupP])) zl dep fin
        · obtain ⟨q1, q2⟩ := Bool.and_eq_true_iff.mp z
          exact sorted_tups hl.isList ei er hal (fun p hp => by
            have q := List.all_eq_true.mp q1 p hp
            unfold isTupP at q
            split at q
            · exact ⟨_, rfl⟩
            · cases q) (by
            unfold hd0 at q2
            split at q2
            · rename_i e; rw [e]; rfl
            · cases q2) zl dep fin
    · exact w2.elim
  · exact w.elim
end
/-! reckoned -/
theorem leD_int (i j : Int) : leD (.int i) (.int j) = decide (i ≤ j) := by
  show (!PySem.W.dataLt (.int j) (.int i)) = _
  rw [PySem.W.dataLt_int, Bool.eq_iff_iff]; simp
theorem leD_2 (x y x' y' : Int) : leD (.tup [.int x, .int y]) (.tup [.int x', .int y']) = decide (x < x' ∨ (x = x' ∧ y ≤ y')) := by
  show (!PySem.W.dataLt (.tuple [.int x', .int y']) (.tuple [.int x, .int y])) = _
  rw [PySem.W.dataLt_ii, Bool.eq_iff_iff]; simp; omega
theorem leD_ints (xs ys : List Int) : leD (.tup (xs.map .int)) (.tup (ys.map .int)) = !decide (ys < xs) := by
  have e : ∀ l : List Int, (D.tup (l.map .int)).py = .tuple (l.map .int) := fun l => by
    unfold D.py
    congr 1
    induction l with
    | nil => unfold pys; rfl
    | cons a r ih => show pys (.int a :: r.map .int) = _; unfold pys; rw [ih]; rfl
  show (!PySem.W.dataLt (D.tup (ys.map .int)).py (D.tup (xs.map .int)).py) = _
  rw [e, e, PySem.W.dataLt_tuple]
  exact congrArg _ (PySem.W.dataLt_ints ys xs)
end Dv
namespace Dv
open PySem PySem.Spec PyProof.Rows L2
/-- ints (a dict's too) as before; else the general one -/
def sortedB (ds : List D) : Ot SV := match sortedO ds with
  | .ok r => .ok r
  | .err x => .err x
  | .stuck => sortedA ds
theorem opc_sortedB {X : Cx} {E : XK} {k : Nat} (hr : Room k X.A) (hc : X.calm = true) : OpC X E (.builtin "sorted") sortedB := by
  intro pins s σ H xs us Q I r ⟨B, σ', ε, tmp, F, fp, ds, hF, rr, w⟩
  unfold sortedB at w
  cases q : sortedO ds with
  | stuck =>
    rw [q] at w
    exact opc_sortedA hr hc pins s σ H xs us Q I r ⟨B, σ', ε, tmp, F, fp, ds, hF, rr, w⟩
  | ok v =>
    rw [q] at w
    exact opc_sorted (E := E) hc pins s σ H xs us Q I r ⟨B, σ', ε, tmp, F, fp, ds, hF, rr, by rw [q]; exact w⟩
  | err x =>
    rw [q] at w
    exact opc_sorted (E := E) hc pins s σ H xs us Q I r ⟨B, σ', ε, tmp, F, fp, ds, hF, rr, by rw [q]; exact w⟩
end Dv
namespace Dv
open PySem PySem.Spec PyProof.Rows L2
/-! ### a test of what is lent -/
def lendRT (ε : Ep) : Rs Bool → Rs Bool
  | .ok b _ => .ok b ε
  | _ => .stuck
def lendT (i : Nat) (m : MT) : MT := fun ε => match ε[i]? with
  | some s => match s.toD with
    | some d => lendRT ε (m (ε.set i (.dat d)))
    | none => .stuck
  | none => .stuck
theorem st_lend {X : Cx} {E : XK} {pu : Bool} {e : Expr} {m : MT} (i : Nat) (h : ST X E true e m) : ST X E pu e (Dv.lendT i m) := pt_imp h fun pins s σ H Q I ⟨B, ε, tmp, h, w⟩ => by
  unfold Dv.lendT at w
  cases q : ε[i]? with
  | none => rw [q] at w; exact w.elim
  | some s =>
    rw [q] at w
    simp only at w
    cases t : s.toD with
    | none => rw [t] at w; exact w.elim
    | some d =>
      rw [t] at w
      simp only at w
      obtain ⟨F, fp, h⟩ := h
      obtain ⟨B1, h1, bk⟩ := h.lend q t
      refine ⟨B1, _, _, h1, ?_⟩
      cases q2 : m (ε.set i (.dat d)) with
      | err x ε' => rw [q2] at w; exact w.elim
      | stuck => rw [q2] at w; exact w.elim
      | ok r ε' =>
        rw [q2] at w
        unfold lendRT at w
        simp only at w
        intro H' h' p
        obtain ⟨rfl, sH⟩ := p rfl
        have h2 := bk H' .non (.dat .non) (h'.push fun F => rep_non) sH rfl
        exact w H' (h2.subT (List.sublist_cons_self _ _)) (Pq.of sH)
end Dv

-- GD_k79
namespace Wk
open PySem PySem.Spec PyProof.Rows L2 Dv
def top (i : Nat) : Stmt := PySem.Challenge.pw_hiddenmines_k79_whole_ranks_of_layings.main.body.getD i (.Pass ⟨0, 0, 0, 0⟩)
abbrev st_is_integer : Stmt := top 9
abbrev st_is_count : Stmt := top 10
abbrev st_is_below : Stmt := top 11
abbrev st_is_row : Stmt := top 12
abbrev st_is_rising : Stmt := top 13
abbrev st_want_at_most : Stmt := top 14
abbrev st_is_size : Stmt := top 25
abbrev st_are_ties : Stmt := top 26
abbrev st_is_board_of : Stmt := top 27
abbrev st_size_of : Stmt := top 28
abbrev st_place_of : Stmt := top 29
abbrev st_beside_of : Stmt := top 30
abbrev st_all_beside : Stmt := top 31
abbrev st_is_total : Stmt := top 38
abbrev st_is_field_of : Stmt := top 39
abbrev st_signed : Stmt := top 40
abbrev st_covered_of : Stmt := top 41
abbrev st_numbers_of : Stmt := top 42
abbrev st_known_of : Stmt := top 43
abbrev st_want_field : Stmt := top 44
abbrev st_Bonds___init__ : Stmt := (clsBody (top 48)).getD 0 (.Pass ⟨0, 0, 0, 0⟩)
abbrev st_Bonds_cells : Stmt := (clsBody (top 48)).getD 1 (.Pass ⟨0, 0, 0, 0⟩)
abbrev st_Bonds_rim : Stmt := (clsBody (top 48)).getD 2 (.Pass ⟨0, 0, 0, 0⟩)
abbrev st_Bonds_far : Stmt := (clsBody (top 48)).getD 3 (.Pass ⟨0, 0, 0, 0⟩)
abbrev st_Bonds_opened : Stmt := (clsBody (top 48)).getD 4 (.Pass ⟨0, 0, 0, 0⟩)
abbrev st_Bonds_near : Stmt := (clsBody (top 48)).getD 5 (.Pass ⟨0, 0, 0, 0⟩)
abbrev st_Bonds_need : Stmt := (clsBody (top 48)).getD 6 (.Pass ⟨0, 0, 0, 0⟩)
abbrev st_Bonds_total : Stmt := (clsBody (top 48)).getD 7 (.Pass ⟨0, 0, 0, 0⟩)
abbrev st_Bonds_is_broken : Stmt := (clsBody (top 48)).getD 8 (.Pass ⟨0, 0, 0, 0⟩)
abbrev st_Bonds_broken_number : Stmt := (clsBody (top 48)).getD 9 (.Pass ⟨0, 0, 0, 0⟩)
abbrev st_Bonds_is_total_broken : Stmt := (clsBody (top 48)).getD 10 (.Pass ⟨0, 0, 0, 0⟩)
abbrev st_Bonds_broken : Stmt := (clsBody (top 48)).getD 11 (.Pass ⟨0, 0, 0, 0⟩)
abbrev st_Bonds_next_cell : Stmt := (clsBody (top 48)).getD 12 (.Pass ⟨0, 0, 0, 0⟩)
abbrev st_is_laying_of : Stmt := top 49
abbrev st_are_guesses_of : Stmt := top 50
abbrev st_want_rim : Stmt := top 51
abbrev st_want_guesses : Stmt := top 52
abbrev st_choices : Stmt := top 54
abbrev st_far_choices : Stmt := top 55
abbrev st_with_guess : Stmt := top 57
abbrev st_many_by : Stmt := top 56
abbrev st_goes_with : Stmt := top 58
abbrev st_with_cells : Stmt := top 59
abbrev st_many_with : Stmt := top 60
abbrev st_ends_at : Stmt := top 61
abbrev st_next_many : Stmt := top 62
abbrev st_behind_of : Stmt := top 63
abbrev st_rank_by : Stmt := top 64
abbrev st_laying_by : Stmt := top 65
abbrev st_want_both : Stmt := top 66
abbrev st_many_layings : Stmt := top 67
abbrev st_laying_at : Stmt := top 68
abbrev st_rank_of : Stmt := top 69
abbrev st__law_pot : Stmt := top 71
abbrev st__law_draw : Stmt := top 72
abbrev st__law_pick : Stmt := top 73
abbrev st__law_board : Stmt := top 74
abbrev st__law_size : Stmt := top 75
abbrev st__law_beside : Stmt := top 76
abbrev st__law_numbered : Stmt := top 77
abbrev st__law_field : Stmt := top 78
abbrev st__law_covered : Stmt := top 79
abbrev st__law_fits : Stmt := top 80
abbrev st__law_layings : Stmt := top 81
abbrev st__law_right : Stmt := top 82
abbrev st_law : Stmt := top 83
/-! constants -/
def k_MOST_TIES : D := .int (120)
def k_MOST_DEGREE : D := .int (9)
def k_SQUARES : D := .str "squares"
def k_HEXES : D := .str "hexes"
def k_MOST_SIZE : D := .int (8)
def k_WEB : D := .str "web"
def k_MOST_CELLS : D := .int (40)
def k_SQUARE_STEPS : D := .tup [.tup [.int (-1), .int (-1)], .tup [.int (-1), .int (0)], .tup [.int (-1), .int (1)], .tup [.int (0), .int (-1)], .tup [.int (0), .int (1)], .tup [.int (1), .int (-1)], .tup [.int (1), .int (0)], .tup [.int (1), .int (1)]]
def k_HEX_STEPS : D := .tup [.tup [.int (-1), .int (0)], .tup [.int (-1), .int (1)], .tup [.int (0), .int (-1)], .tup [.int (0), .int (1)], .tup [.int (1), .int (-1)], .tup [.int (1), .int (0)]]
def k_FIELD : D := .str "field"
def k_SIGNS : D := .str "#*0123456789"
def k_COVERED : D := .str "#"
def k_DIGITS : D := .str "0123456789"
def k_MINE : D := .str "*"
def k_TOTAL : D := .str "total"
def k_MOST_RIM : D := .int (20)
def cs : List (Str × D) := [("MOST_TIES", k_MOST_TIES), ("MOST_DEGREE", k_MOST_DEGREE), ("SQUARES", k_SQUARES), ("HEXES", k_HEXES), ("MOST_SIZE", k_MOST_SIZE), ("WEB", k_WEB), ("MOST_CELLS", k_MOST_CELLS), ("SQUARE_STEPS", k_SQUARE_STEPS), ("HEX_STEPS", k_HEX_STEPS), ("FIELD", k_FIELD), ("SIGNS", k_SIGNS), ("COVERED", k_COVERED), ("DIGITS", k_DIGITS), ("MINE", k_MINE), ("TOTAL", k_TOTAL), ("MOST_RIM", k_MOST_RIM)]
def d_is_integer : He.DefD := ⟨("is_integer", none), "is_integer", "is_integer", defArgs st_is_integer, defBody st_is_integer, defScope st_is_integer, [], []⟩
def d_is_count : He.DefD := ⟨("is_count", none), "is_count", "is_count", defArgs st_is_count, defBody st_is_count, defScope st_is_count, [], []⟩
def d_is_below : He.DefD := ⟨("is_below", none), "is_below", "is_below", defArgs st_is_below, defBody st_is_below, defScope st_is_below, [], []⟩
def d_is_row : He.DefD := ⟨("is_row", none), "is_row", "is_row", defArgs st_is_row, defBody st_is_row, defScope st_is_row, [], []⟩
def d_is_rising : He.DefD := ⟨("is_rising", none), "is_rising", "is_rising", defArgs st_is_rising, defBody st_is_rising, defScope st_is_rising, [], []⟩
def d_want_at_most : He.DefD := ⟨("want_at_most", none), "want_at_most", "want_at_most", defArgs st_want_at_most, defBody st_want_at_most, defScope st_want_at_most, [], []⟩
def d_is_size : He.DefD := ⟨("is_size", none), "is_size", "is_size", defArgs st_is_size, defBody st_is_size, defScope st_is_size, [], []⟩
def d_are_ties : He.DefD := ⟨("are_ties", none), "are_ties", "are_ties", defArgs st_are_ties, defBody st_are_ties, defScope st_are_ties, [], []⟩
def d_is_board_of : He.DefD := ⟨("is_board_of", none), "is_board_of", "is_board_of", defArgs st_is_board_of, defBody st_is_board_of, defScope st_is_board_of, [], []⟩
def d_size_of : He.DefD := ⟨("size_of", none), "size_of", "size_of", defArgs st_size_of, defBody st_size_of, defScope st_size_of, [], []⟩
def d_place_of : He.DefD := ⟨("place_of", none), "place_of", "place_of", defArgs st_place_of, defBody st_place_of, defScope st_place_of, [], []⟩
def d_beside_of : He.DefD := ⟨("beside_of", none), "beside_of", "beside_of", defArgs st_beside_of, defBody st_beside_of, defScope st_beside_of, [], []⟩
def d_all_beside : He.DefD := ⟨("all_beside", none), "all_beside", "all_beside", defArgs st_all_beside, defBody st_all_beside, defScope st_all_beside, [], []⟩
def d_is_total : He.DefD := ⟨("is_total", none), "is_total", "is_total", defArgs st_is_total, defBody st_is_total, defScope st_is_total, [], []⟩
def d_is_field_of : He.DefD := ⟨("is_field_of", none), "is_field_of", "is_field_of", defArgs st_is_field_of, defBody st_is_field_of, defScope st_is_field_of, [], []⟩
def d_signed : He.DefD := ⟨("signed", none), "signed", "signed", defArgs st_signed, defBody st_signed, defScope st_signed, [], []⟩
def d_covered_of : He.DefD := ⟨("covered_of", none), "covered_of", "covered_of", defArgs st_covered_of, defBody st_covered_of, defScope st_covered_of, [], []⟩
def d_numbers_of : He.DefD := ⟨("numbers_of", none), "numbers_of", "numbers_of", defArgs st_numbers_of, defBody st_numbers_of, defScope st_numbers_of, [], []⟩
def d_known_of : He.DefD := ⟨("known_of", none), "known_of", "known_of", defArgs st_known_of, defBody st_known_of, defScope st_known_of, [], []⟩
def d_want_field : He.DefD := ⟨("want_field", none), "want_field", "want_field", defArgs st_want_field, defBody st_want_field, defScope st_want_field, [], []⟩
def d_Bonds___init__ : He.DefD := ⟨("Bonds", some "__init__"), "__init__", "Bonds.__init__", defArgs st_Bonds___init__, defBody st_Bonds___init__, defScope st_Bonds___init__, [], []⟩
def d_Bonds_cells : He.DefD := ⟨("Bonds", some "cells"), "cells", "Bonds.cells", defArgs st_Bonds_cells, defBody st_Bonds_cells, defScope st_Bonds_cells, [], []⟩
def d_Bonds_rim : He.DefD := ⟨("Bonds", some "rim"), "rim", "Bonds.rim", defArgs st_Bonds_rim, defBody st_Bonds_rim, defScope st_Bonds_rim, [], []⟩
def d_Bonds_far : He.DefD := ⟨("Bonds", some "far"), "far", "Bonds.far", defArgs st_Bonds_far, defBody st_Bonds_far, defScope st_Bonds_far, [], []⟩
def d_Bonds_opened : He.DefD := ⟨("Bonds", some "opened"), "opened", "Bonds.opened", defArgs st_Bonds_opened, defBody st_Bonds_opened, defScope st_Bonds_opened, [], []⟩
def d_Bonds_near : He.DefD := ⟨("Bonds", some "near"), "near", "Bonds.near", defArgs st_Bonds_near, defBody st_Bonds_near, defScope st_Bonds_near, [], []⟩
def d_Bonds_need : He.DefD := ⟨("Bonds", some "need"), "need", "Bonds.need", defArgs st_Bonds_need, defBody st_Bonds_need, defScope st_Bonds_need, [], []⟩
def d_Bonds_total : He.DefD := ⟨("Bonds", some "total"), "total", "Bonds.total", defArgs st_Bonds_total, defBody st_Bonds_total, defScope st_Bonds_total, [], []⟩
def d_Bonds_is_broken : He.DefD := ⟨("Bonds", some "is_broken"), "is_broken", "Bonds.is_broken", defArgs st_Bonds_is_broken, defBody st_Bonds_is_broken, defScope st_Bonds_is_broken, [], []⟩
def d_Bonds_broken_number : He.DefD := ⟨("Bonds", some "broken_number"), "broken_number", "Bonds.broken_number", defArgs st_Bonds_broken_number, defBody st_Bonds_broken_number, defScope st_Bonds_broken_number, [], []⟩
def d_Bonds_is_total_broken : He.DefD := ⟨("Bonds", some "is_total_broken"), "is_total_broken", "Bonds.is_total_broken", defArgs st_Bonds_is_total_broken, defBody st_Bonds_is_total_broken, defScope st_Bonds_is_total_broken, [], []⟩
def d_Bonds_broken : He.DefD := ⟨("Bonds", some "broken"), "broken", "Bonds.broken", defArgs st_Bonds_broken, defBody st_Bonds_broken, defScope st_Bonds_broken, [], []⟩
def d_Bonds_next_cell : He.DefD := ⟨("Bonds", some "next_cell"), "next_cell", "Bonds.next_cell", defArgs st_Bonds_next_cell, defBody st_Bonds_next_cell, defScope st_Bonds_next_cell, [], []⟩
def d_is_laying_of : He.DefD := ⟨("is_laying_of", none), "is_laying_of", "is_laying_of", defArgs st_is_laying_of, defBody st_is_laying_of, defScope st_is_laying_of, [], []⟩
def d_are_guesses_of : He.DefD := ⟨("are_guesses_of", none), "are_guesses_of", "are_guesses_of", defArgs st_are_guesses_of, defBody st_are_guesses_of, defScope st_are_guesses_of, [], []⟩
def d_want_rim : He.DefD := ⟨("want_rim", none), "want_rim", "want_rim", defArgs st_want_rim, defBody st_want_rim, defScope st_want_rim, [], []⟩
def d_want_guesses : He.DefD := ⟨("want_guesses", none), "want_guesses", "want_guesses", defArgs st_want_guesses, defBody st_want_guesses, defScope st_want_guesses, [], []⟩
def d_choices : He.DefD := ⟨("choices", none), "choices", "choices", defArgs st_choices, defBody st_choices, defScope st_choices, [], []⟩
def d_far_choices : He.DefD := ⟨("far_choices", none), "far_choices", "far_choices", defArgs st_far_choices, defBody st_far_choices, defScope st_far_choices, [], []⟩
def d_with_guess : He.DefD := ⟨("with_guess", none), "with_guess", "with_guess", defArgs st_with_guess, defBody st_with_guess, defScope st_with_guess, [], []⟩
def d_many_by : He.DefD := ⟨("many_by", none), "many_by", "many_by", defArgs st_many_by, defBody st_many_by, defScope st_many_by, [], []⟩
def d_goes_with : He.DefD := ⟨("goes_with", none), "goes_with", "goes_with", defArgs st_goes_with, defBody st_goes_with, defScope st_goes_with, [], []⟩
def d_with_cells : He.DefD := ⟨("with_cells", none), "with_cells", "with_cells", defArgs st_with_cells, defBody st_with_cells, defScope st_with_cells, [], []⟩
def d_many_with : He.DefD := ⟨("many_with", none), "many_with", "many_with", defArgs st_many_with, defBody st_many_with, defScope st_many_with, [], []⟩
def d_ends_at : He.DefD := ⟨("ends_at", none), "ends_at", "ends_at", defArgs st_ends_at, defBody st_ends_at, defScope st_ends_at, [], []⟩
def d_next_many : He.DefD := ⟨("next_many", none), "next_many", "next_many", defArgs st_next_many, defBody st_next_many, defScope st_next_many, [], []⟩
def d_behind_of : He.DefD := ⟨("behind_of", none), "behind_of", "behind_of", defArgs st_behind_of, defBody st_behind_of, defScope st_behind_of, [], []⟩
def d_rank_by : He.DefD := ⟨("rank_by", none), "rank_by", "rank_by", defArgs st_rank_by, defBody st_rank_by, defScope st_rank_by, [], []⟩
def d_laying_by : He.DefD := ⟨("laying_by", none), "laying_by", "laying_by", defArgs st_laying_by, defBody st_laying_by, defScope st_laying_by, [], []⟩
def d_want_both : He.DefD := ⟨("want_both", none), "want_both", "want_both", defArgs st_want_both, defBody st_want_both, defScope st_want_both, [], []⟩
def d_many_layings : He.DefD := ⟨("many_layings", none), "many_layings", "many_layings", defArgs st_many_layings, defBody st_many_layings, defScope st_many_layings, [], []⟩
def d_laying_at : He.DefD := ⟨("laying_at", none), "laying_at", "laying_at", defArgs st_laying_at, defBody st_laying_at, defScope st_laying_at, [], []⟩
def d_rank_of : He.DefD := ⟨("rank_of", none), "rank_of", "rank_of", defArgs st_rank_of, defBody st_rank_of, defScope st_rank_of, [], []⟩
def d__law_pot : He.DefD := ⟨("_law_pot", none), "_law_pot", "_law_pot", defArgs st__law_pot, defBody st__law_pot, defScope st__law_pot, [], []⟩
def d__law_draw : He.DefD := ⟨("_law_draw", none), "_law_draw", "_law_draw", defArgs st__law_draw, defBody st__law_draw, defScope st__law_draw, [], []⟩
def d__law_pick : He.DefD := ⟨("_law_pick", none), "_law_pick", "_law_pick", defArgs st__law_pick, defBody st__law_pick, defScope st__law_pick, [], []⟩
def d__law_board : He.DefD := ⟨("_law_board", none), "_law_board", "_law_board", defArgs st__law_board, defBody st__law_board, defScope st__law_board, [], []⟩
def d__law_size : He.DefD := ⟨("_law_size", none), "_law_size", "_law_size", defArgs st__law_size, defBody st__law_size, defScope st__law_size, [], []⟩
def d__law_beside : He.DefD := ⟨("_law_beside", none), "_law_beside", "_law_beside", defArgs st__law_beside, defBody st__law_beside, defScope st__law_beside, [], []⟩
def d__law_numbered : He.DefD := ⟨("_law_numbered", none), "_law_numbered", "_law_numbered", defArgs st__law_numbered, defBody st__law_numbered, defScope st__law_numbered, [], []⟩
def d__law_field : He.DefD := ⟨("_law_field", none), "_law_field", "_law_field", defArgs st__law_field, defBody st__law_field, defScope st__law_field, [], []⟩
def d__law_covered : He.DefD := ⟨("_law_covered", none), "_law_covered", "_law_covered", defArgs st__law_covered, defBody st__law_covered, defScope st__law_covered, [], []⟩
def d__law_fits : He.DefD := ⟨("_law_fits", none), "_law_fits", "_law_fits", defArgs st__law_fits, defBody st__law_fits, defScope st__law_fits, [], []⟩
def d__law_layings : He.DefD := ⟨("_law_layings", none), "_law_layings", "_law_layings", defArgs st__law_layings, defBody st__law_layings, defScope st__law_layings, [], []⟩
def d__law_right : He.DefD := ⟨("_law_right", none), "_law_right", "_law_right", defArgs st__law_right, defBody st__law_right, defScope st__law_right, [], []⟩
def d_law : He.DefD := ⟨("law", none), "law", "law", defArgs st_law, defBody st_law, defScope st_law, [], []⟩
def fn0 : List He.DefD := [d_is_integer, d_is_count, d_is_below, d_is_row, d_is_rising, d_want_at_most, d_is_size, d_are_ties, d_is_board_of, d_size_of, d_place_of, d_beside_of]
def fn1 : List He.DefD := [d_all_beside, d_is_total, d_is_field_of, d_signed, d_covered_of, d_numbers_of, d_known_of, d_want_field, d_Bonds___init__, d_Bonds_cells, d_Bonds_rim, d_Bonds_far]
def fn2 : List He.DefD := [d_Bonds_opened, d_Bonds_near, d_Bonds_need, d_Bonds_total, d_Bonds_is_broken, d_Bonds_broken_number, d_Bonds_is_total_broken, d_Bonds_broken, d_Bonds_next_cell, d_is_laying_of, d_are_guesses_of, d_want_rim]
def fn3 : List He.DefD := [d_want_guesses, d_choices, d_far_choices, d_with_guess, d_many_by, d_goes_with, d_with_cells, d_many_with, d_ends_at, d_next_many, d_behind_of, d_rank_by]
def fn4 : List He.DefD := [d_laying_by, d_want_both, d_many_layings, d_laying_at, d_rank_of, d__law_pot, d__law_draw, d__law_pick, d__law_board, d__law_size, d__law_beside, d__law_numbered]
def fn5 : List He.DefD := [d__law_field, d__law_covered, d__law_fits, d__law_layings, d__law_right, d_law]
def fn : List He.DefD := fn0 ++ fn1 ++ fn2 ++ fn3 ++ fn4 ++ fn5
def fa0 : List He.Fa := [.free "isinstance", .free "int", .free "bool", .glo "is_integer", .glo "is_count", .free "tuple", .free "len", .free "zip", .free "all", .glo "is_row", .glo "is_below", .glo "is_rising"]
def fa1 : List He.Fa := [.free "range", .free "str", .glo "is_size", .glo "are_ties", .free "sorted", .glo "place_of", .glo "size_of", .glo "beside_of", .glo "is_board_of", .glo "is_total", .free "enumerate", .glo "signed"]
def fa2 : List He.Fa := [.glo "is_field_of", .glo "all_beside", .glo "covered_of", .cls "Bonds", .noat "Bonds" "own_cells", .noat "Bonds" "own_near", .noat "Bonds" "own_needs", .glo "numbers_of", .glo "known_of", .noat "Bonds" "own_total", .free "any", .noat "Bonds" "own_rim"]
def fa3 : List He.Fa := [.meth "Bonds" "opened", .meth "Bonds" "is_broken", .meth "Bonds" "near", .meth "Bonds" "need", .meth "Bonds" "broken_number", .meth "Bonds" "is_total_broken", .glo "Bonds", .mkr "Bonds", .meth "Bonds" "cells", .meth "Bonds" "broken", .free "dict", .glo "want_at_most"]
def fa4 : List He.Fa := [.meth "Bonds" "rim", .glo "are_guesses_of", .meth "Bonds" "far", .meth "Bonds" "total", .glo "choices", .meth "Bonds" "next_cell", .glo "far_choices", .glo "many_by", .glo "with_guess", .glo "with_cells", .glo "many_with", .glo "ends_at"]
def fa5 : List He.Fa := [.glo "behind_of", .glo "next_many", .glo "want_guesses", .glo "want_field", .glo "want_rim", .glo "want_both", .glo "laying_by", .glo "is_laying_of", .glo "goes_with", .glo "rank_by", .free "abs", .free "max"]
def fa6 : List He.Fa := [.free "divmod", .glo "_law_draw", .free "min", .glo "_law_size", .glo "_law_beside", .free "list", .glo "_law_numbered", .glo "_law_pick", .glo "_law_covered", .glo "_law_fits", .glo "_law_field", .glo "_law_board"]
def fa7 : List He.Fa := [.glo "_law_layings", .free "repr", .glo "many_layings", .glo "laying_at", .glo "rank_of", .glo "_law_pot", .glo "_law_right", .glo "law"]
def fa : List He.Fa := fa0 ++ fa1 ++ fa2 ++ fa3 ++ fa4 ++ fa5 ++ fa6 ++ fa7
/-! what the defs do -/
def N_is_integer : List Str := [("value" : Str)]
noncomputable def m_is_integer : MS := (sRet (cAn (c1 (l1 (isiO "int")) (cV 0)) (cNt (c1 (l1 (isiO "bool")) (cV 0)))))
noncomputable def g_is_integer : List D → Ot SV := fnS 1 1 m_is_integer
def N_is_count : List Str := [("value" : Str)]
noncomputable def m_is_count : MS := (sRet (cAn (cCall g_is_integer (aC (cV 0) aN) []) (c2 oGeA (cV 0) (cC (.int 0)))))
noncomputable def g_is_count : List D → Ot SV := fnS 1 1 m_is_count
def N_is_below : List Str := [("value" : Str), ("many" : Str)]
noncomputable def m_is_below : MS := (sRet (cAn (cCall g_is_count (aC (cV 0) aN) []) (c2 oLtA (cV 0) (cV 1))))
noncomputable def g_is_below : List D → Ot SV := fnS 2 2 m_is_below
def N_is_row : List Str := [("value" : Str), ("many" : Str)]
noncomputable def m_is_row : MS := (sRet (cAn (c1 (l1 (isiO "tuple")) (cV 0)) (c2 oEq (cA lenO (aC (cV 0) aN)) (cV 1))))
noncomputable def g_is_row : List D → Ot SV := fnS 2 2 m_is_row
def N_is_rising : List Str := [("items" : Str), ("near" : Str), ("far" : Str)]
noncomputable def m_is_rising : MS := (sRet (cA allO (aC (cLc (iZi (cV 0) (cSl (cV 0) (oS (cC (.int 1))) oN)) (.tp [1, 2]) (pr true) (c2 oLtA (cV 1) (cV 2)) [1, 2]) aN)))
noncomputable def g_is_rising : List D → Ot SV := fnS 1 3 m_is_rising
def N_want_at_most : List Str := [("what" : Str), ("limit" : Str), ("number" : Str)]
noncomputable def m_want_at_most : MS := (sIf (tL (c2 oGtA (cV 2) (cV 1))) sNev sNil)
noncomputable def g_want_at_most : List D → Ot SV := fnS 3 3 m_want_at_most
def N_is_size : List Str := [("value" : Str), ("most" : Str)]
noncomputable def m_is_size : MS := (sRet (cAn (cCall g_is_integer (aC (cV 0) aN) []) (c3 oLeA oLeA (cC (.int 1)) (cV 0) (cV 1))))
noncomputable def g_is_size : List D → Ot SV := fnS 2 2 m_is_size
def N_are_ties : List Str := [("many" : Str), ("value" : Str), ("ends" : Str), ("tie" : Str), ("cell" : Str)]
noncomputable def m_are_ties : MS := (sSeq (sIf (tOo (tNt (tB (c1 (l1 (isiO "tuple")) (cV 1)))) (tL (c2 oGtA (cA lenO (aC (cV 1) aN)) (cC k_MOST_TIES)))) (sRet (cC (.bl false))) sNil) (sSeq (sIf (tNt (tB (cA allO (aC (cLc (iAny (cV 1)) (.nm 3) (pr true) (cAn (cCall g_is_row (aC (cV 3) (aC (cC (.int 2)) aN)) []) (cAn (cCall g_is_below (aC (cIx (cV 3) (cC (.int 0))) (aC (cV 0) aN)) []) (cCall g_is_below (aC (cIx (cV 3) (cC (.int 1))) (aC (cV 0) aN)) []))) [3]) aN)))) (sRet (cC (.bl false))) sNil) (sSeq (sIf (tOo (tNt (tB (cA allO (aC (cLc (iAny (cV 1)) (.nm 3) (pr true) (c2 oLtA (cIx (cV 3) (cC (.int 0))) (cIx (cV 3) (cC (.int 1)))) [3]) aN)))) (tNt (tB (cCall g_is_rising (aC (cV 1) aN) [])))) (sRet (cC (.bl false))) sNil) (sSeq (sSet 2 (cFz (c2 oAdd (cLc (iAny (cV 1)) (.nm 3) (pr true) (cIx (cV 3) (cC (.int 0))) [3]) (cLc (iAny (cV 1)) (.nm 3) (pr true) (cIx (cV 3) (cC (.int 1))) [3])))) (sRet (cA allO (aC (cLc (iRg1 (cV 0)) (.nm 4) (pr true) (c2 oLeA (cM "list" countO (cV 2) (aC (cV 4) aN)) (cC k_MOST_DEGREE)) [4]) aN)))))))
noncomputable def g_are_ties : List D → Ot SV := fnS 2 5 m_are_ties
def N_is_board_of : List Str := [("value" : Str)]
noncomputable def m_is_board_of : MS := (sSeq (sIf (tOo (tNt (tB (cCall g_is_row (aC (cV 0) (aC (cC (.int 3)) aN)) []))) (tNt (tB (c1 (l1 (isiO "str")) (cIx (cV 0) (cC (.int 0))))))) (sRet (cC (.bl false))) sNil) (sSeq (sIf (tL (c2 oIn (cIx (cV 0) (cC (.int 0))) (cTup (aC (cC k_SQUARES) (aC (cC k_HEXES) aN))))) (sRet (cAn (cCall g_is_size (aC (cIx (cV 0) (cC (.int 1))) (aC (cC k_MOST_SIZE) aN)) []) (cCall g_is_size (aC (cIx (cV 0) (cC (.int 2))) (aC (cC k_MOST_SIZE) aN)) []))) sNil) (sRet (cAn (c2 oEq (cIx (cV 0) (cC (.int 0))) (cC k_WEB)) (cAn (cCall g_is_size (aC (cIx (cV 0) (cC (.int 1))) (aC (cC k_MOST_CELLS) aN)) []) (cCall g_are_ties (aC (cIx (cV 0) (cC (.int 1))) (aC (cIx (cV 0) (cC (.int 2))) aN)) []))))))
noncomputable def g_is_board_of : List D → Ot SV := fnS 1 1 m_is_board_of
def N_size_of : List Str := [("board" : Str)]
noncomputable def m_size_of : MS := (sRet (cIf (tL (c2 oEq (cIx (cV 0) (cC (.int 0))) (cC k_WEB))) (cIx (cV 0) (cC (.int 1))) (c2 (l2 mul2O) (cIx (cV 0) (cC (.int 1))) (cIx (cV 0) (cC (.int 2))))))
noncomputable def g_size_of : List D → Ot SV := fnS 1 1 m_size_of
def N_place_of : List Str := [("board" : Str), ("cell" : Str)]
noncomputable def m_place_of : MS := (sRet (cIf (tL (c2 oEq (cIx (cV 0) (cC (.int 0))) (cC k_WEB))) (cTup (aC (cC (.int 0)) (aC (cV 1) aN))) (cTup (aC (c2 oFdiv (cV 1) (cIx (cV 0) (cC (.int 2)))) (aC (c2 oMod (cV 1) (cIx (cV 0) (cC (.int 2)))) aN)))))
noncomputable def g_place_of : List D → Ot SV := fnS 2 2 m_place_of
def N_beside_of : List Str := [("board" : Str), ("cell" : Str), ("near" : Str), ("row" : Str), ("column" : Str), ("found" : Str), ("down" : Str), ("right" : Str), ("one" : Str), ("other" : Str)]
noncomputable def m_beside_of : MS := (sSeq (sIf (tL (c2 oEq (cIx (cV 0) (cC (.int 0))) (cC k_WEB))) (sSeq (sSet 2 (cLc (iAny (cIx (cV 0) (cC (.int 2)))) (.tp [8, 9]) (tL (c2 oEq (cV 8) (cV 1))) (cV 9) [8, 9])) (bd (fzS 2) fun _ => (sRet (cA sortedB (aC (c2 oAdd (cV 2) (cLc (iAny (cIx (cV 0) (cC (.int 2)))) (.tp [8, 9]) (tL (c2 oEq (cV 9) (cV 1))) (cV 8) [8, 9])) aN))))) sNil) (sSeq (sUnp (.tp [3, 4]) (cCall g_place_of (aC (cV 0) (aC (cV 1) aN)) [])) (sSeq (sSet 5 (cLst aN)) (sSeq (sFor (iAny (cIf (tL (c2 oEq (cIx (cV 0) (cC (.int 0))) (cC k_SQUARES))) (cC k_SQUARE_STEPS) (cC k_HEX_STEPS))) (.tp [6, 7]) (sIf (tAn (tL (c3 oLeA oLtA (cC (.int 0)) (c2 oAdd (cV 3) (cV 6)) (cIx (cV 0) (cC (.int 1))))) (tL (c3 oLeA oLtA (cC (.int 0)) (c2 oAdd (cV 4) (cV 7)) (cIx (cV 0) (cC (.int 2)))))) (sExp (cApp (.s 5) (c2 oAdd (c2 oAdd (c2 (l2 mul2O) (c2 oAdd (cV 3) (cV 6)) (cIx (cV 0) (cC (.int 2)))) (cV 4)) (cV 7)))) sNil)) (sRet (lend 5 (cA sortedB (aC (cV 5) aN))))))))
noncomputable def g_beside_of : List D → Ot SV := fnS 2 10 m_beside_of
def N_all_beside : List Str := [("board" : Str), ("cell" : Str)]
noncomputable def m_all_beside : MS := (sRet (cLc (iRg1 (cCall g_size_of (aC (cV 0) aN) [])) (.nm 1) (pr true) (cCall g_beside_of (aC (cV 0) (aC (cV 1) aN)) []) [1]))
noncomputable def g_all_beside : List D → Ot SV := fnS 1 2 m_all_beside
def N_is_total : List Str := [("value" : Str)]
noncomputable def m_is_total : MS := (sRet (cOo (c2 oIsN (cV 0) (cC .non)) (cCall g_is_count (aC (cV 0) aN) [])))
noncomputable def g_is_total : List D → Ot SV := fnS 1 1 m_is_total
def N_is_field_of : List Str := [("value" : Str), ("sign" : Str)]
noncomputable def m_is_field_of : MS := (sSeq (sIf (tOo (tNt (tB (cCall g_is_row (aC (cV 0) (aC (cC (.int 4)) aN)) []))) (tOo (tNt (tB (c1 (l1 (isiO "str")) (cIx (cV 0) (cC (.int 0)))))) (tOo (tL (c2 oNe (cIx (cV 0) (cC (.int 0))) (cC k_FIELD))) (tNt (tB (cCall g_is_board_of (aC (cIx (cV 0) (cC (.int 1))) aN) [])))))) (sRet (cC (.bl false))) sNil) (sSeq (sIf (tOo (tNt (tB (c1 (l1 (isiO "str")) (cIx (cV 0) (cC (.int 2)))))) (tL (c2 oNe (cA lenO (aC (cIx (cV 0) (cC (.int 2))) aN)) (cCall g_size_of (aC (cIx (cV 0) (cC (.int 1))) aN) [])))) (sRet (cC (.bl false))) sNil) (sRet (cAn (cA allO (aC (cLc (iAny (cIx (cV 0) (cC (.int 2)))) (.nm 1) (pr true) (c2 oIn (cV 1) (cC k_SIGNS)) [1]) aN)) (cCall g_is_total (aC (cIx (cV 0) (cC (.int 3))) aN) [])))))
noncomputable def g_is_field_of : List D → Ot SV := fnS 1 2 m_is_field_of
def N_signed : List Str := [("field" : Str), ("sign" : Str), ("cell" : Str), ("one" : Str)]
noncomputable def m_signed : MS := (sRet (cLc (iEnu (cIx (cV 0) (cC (.int 2)))) (.tp [2, 3]) (tL (c2 oEq (cV 3) (cV 1))) (cV 2) [2, 3]))
noncomputable def g_signed : List D → Ot SV := fnS 2 4 m_signed
def N_covered_of : List Str := [("field" : Str)]
noncomputable def m_covered_of : MS := (sRet (cCall g_signed (aC (cV 0) (aC (cC k_COVERED) aN)) []))
noncomputable def g_covered_of : List D → Ot SV := fnS 1 1 m_covered_of
def N_numbers_of : List Str := [("field" : Str), ("cell" : Str), ("sign" : Str)]
noncomputable def m_numbers_of : MS := (sRet (cLc (iEnu (cIx (cV 0) (cC (.int 2)))) (.tp [1, 2]) (tL (c2 oIn (cV 2) (cC k_DIGITS))) (cTup (aC (cV 1) (aC (cM "str" sindexO (cC k_DIGITS) (aC (cV 2) aN)) aN))) [1, 2]))
noncomputable def g_numbers_of : List D → Ot SV := fnS 1 3 m_numbers_of
def N_known_of : List Str := [("field" : Str)]
noncomputable def m_known_of : MS := (sRet (cA lenO (aC (cCall g_signed (aC (cV 0) (aC (cC k_MINE) aN)) []) aN)))
noncomputable def g_known_of : List D → Ot SV := fnS 1 1 m_known_of
def N_want_field : List Str := [("value" : Str)]
noncomputable def m_want_field : MS := (sSeq (sIf (tNt (tB (cCall g_is_field_of (aC (cV 0) aN) []))) sNev sNil) (sRet (cV 0)))
noncomputable def g_want_field : List D → Ot SV := fnS 1 1 m_want_field
def N_Bonds___init__ : List Str := [("self" : Str), ("field" : Str), ("near" : Str), ("cell" : Str), ("number" : Str), ("one" : Str), ("some" : Str)]
noncomputable def m_Bonds___init__ : MS := (sSeq (sSet 2 (cFz (cCall g_all_beside (aC (cIx (cV 1) (cC (.int 1))) aN) []))) (sSeq (sFld 0 ("Bonds" : Str) ("own_cells" : Str) (cFz (cCall g_covered_of (aC (cV 1) aN) []))) (sSeq (sFld 0 ("Bonds" : Str) ("own_near" : Str) (pr (.od []))) (sSeq (sFld 0 ("Bonds" : Str) ("own_needs" : Str) (pr (.od []))) (sSeq (sFor (iAny (cCall g_numbers_of (aC (cV 1) aN) [])) (.tp [3, 4]) (sSeq (sPut (.f 0 ("Bonds" : Str) ("own_near" : Str)) (cV 3) (cLc (iAny (cIx (cV 2) (cV 3))) (.nm 5) (tL (c2 oEq (cIx (cIx (cV 1) (cC (.int 2))) (cV 5)) (cC k_COVERED))) (cV 5) [5])) (sPut (.f 0 ("Bonds" : Str) ("own_needs" : Str)) (cV 3) (c2 oSub (cV 4) (cA lenO (aC (cLc (iAny (cIx (cV 2) (cV 3))) (.nm 5) (tL (c2 oEq (cIx (cIx (cV 1) (cC (.int 2))) (cV 5)) (cC k_MINE))) (cV 5) [5]) aN)))))) (sSeq (sFld 0 ("Bonds" : Str) ("own_total" : Str) (cIf (tL (c2 oIsN (cIx (cV 1) (cC (.int 3))) (cC .non))) (cC .non) (c2 oSub (cIx (cV 1) (cC (.int 3))) (cCall g_known_of (aC (cV 1) aN) [])))) (sFld 0 ("Bonds" : Str) ("own_rim" : Str) (cFz (cLc (iAny (cFldO 0 ("Bonds" : Str) ("own_cells" : Str))) (.nm 3) (tB (lend 0 (lockE 0 (some ("own_near" : Str)) (cA anyO (aC (cLc (iVal (c1 (objF ("Bonds" : Str) ("own_near" : Str)) (cV 0))) (.nm 6) (pr true) (c2 oIn (cV 3) (cV 6)) [6]) aN))))) (cV 3) [3])))))))))
noncomputable def g_Bonds___init__ : SV → List D → Rm := fnM 2 7 m_Bonds___init__
def N_Bonds_cells : List Str := [("self" : Str)]
noncomputable def m_Bonds_cells : MS := (sRet (c1 (objF ("Bonds" : Str) ("own_cells" : Str)) (cV 0)))
noncomputable def g_Bonds_cells : List D → Ot SV := fnS 1 1 m_Bonds_cells
def N_Bonds_rim : List Str := [("self" : Str)]
noncomputable def m_Bonds_rim : MS := (sRet (c1 (objF ("Bonds" : Str) ("own_rim" : Str)) (cV 0)))
noncomputable def g_Bonds_rim : List D → Ot SV := fnS 1 1 m_Bonds_rim
def N_Bonds_far : List Str := [("self" : Str), ("cell" : Str)]
noncomputable def m_Bonds_far : MS := (sRet (cLc (iAny (c1 (objF ("Bonds" : Str) ("own_cells" : Str)) (cV 0))) (.nm 1) (tL (c2 oNin (cV 1) (c1 (objF ("Bonds" : Str) ("own_rim" : Str)) (cV 0)))) (cV 1) [1]))
noncomputable def g_Bonds_far : List D → Ot SV := fnS 1 2 m_Bonds_far
def N_Bonds_opened : List Str := [("self" : Str)]
noncomputable def m_Bonds_opened : MS := (sRet (cA sortedB (aC (c1 (objF ("Bonds" : Str) ("own_near" : Str)) (cV 0)) aN)))
noncomputable def g_Bonds_opened : List D → Ot SV := fnS 1 1 m_Bonds_opened
def N_Bonds_near : List Str := [("self" : Str), ("cell" : Str)]
noncomputable def m_Bonds_near : MS := (sRet (cIx (c1 (objF ("Bonds" : Str) ("own_near" : Str)) (cV 0)) (cV 1)))
noncomputable def g_Bonds_near : List D → Ot SV := fnS 2 2 m_Bonds_near
def N_Bonds_need : List Str := [("self" : Str), ("cell" : Str)]
noncomputable def m_Bonds_need : MS := (sRet (cIx (c1 (objF ("Bonds" : Str) ("own_needs" : Str)) (cV 0)) (cV 1)))
noncomputable def g_Bonds_need : List D → Ot SV := fnS 2 2 m_Bonds_need
def N_Bonds_total : List Str := [("self" : Str)]
noncomputable def m_Bonds_total : MS := (sRet (c1 (objF ("Bonds" : Str) ("own_total" : Str)) (cV 0)))
noncomputable def g_Bonds_total : List D → Ot SV := fnS 1 1 m_Bonds_total
def N_Bonds_is_broken : List Str := [("self" : Str), ("cells" : Str), ("need" : Str), ("guesses" : Str), ("mines" : Str), ("untold" : Str), ("one" : Str)]
noncomputable def m_Bonds_is_broken : MS := (sSeq (sSet 4 (cA lenO (aC (cLc (iAny (cV 1)) (.nm 6) (tL (c2 oIsB (cGet1 (cV 3) (cV 6)) (cC (.bl true)))) (cV 6) [6]) aN))) (sSeq (sSet 5 (cA lenO (aC (cLc (iAny (cV 1)) (.nm 6) (tL (c2 oNin (cV 6) (cV 3))) (cV 6) [6]) aN))) (sRet (cOo (c2 oGtA (cV 4) (cV 2)) (c2 oLtA (c2 oAdd (cV 4) (cV 5)) (cV 2))))))
noncomputable def g_Bonds_is_broken : List D → Ot SV := fnS 4 7 m_Bonds_is_broken
def N_Bonds_broken_number : List Str := [("self" : Str), ("guesses" : Str), ("cell" : Str)]
noncomputable def m_Bonds_broken_number : MS := (sSeq (sFor (iAny (cMeth ("Bonds" : Str) ("opened" : Str) g_Bonds_opened (cV 0) aN [])) (.nm 2) (sIf (tB (cMeth ("Bonds" : Str) ("is_broken" : Str) g_Bonds_is_broken (cV 0) (aC (cMeth ("Bonds" : Str) ("near" : Str) g_Bonds_near (cV 0) (aC (cV 2) aN) []) (aC (cMeth ("Bonds" : Str) ("need" : Str) g_Bonds_need (cV 0) (aC (cV 2) aN) []) (aC (cV 1) aN))) [])) (sRet (cV 2)) sNil)) (sRet (cC .non)))
noncomputable def g_Bonds_broken_number : List D → Ot SV := fnS 2 3 m_Bonds_broken_number
def N_Bonds_is_total_broken : List Str := [("self" : Str), ("guesses" : Str)]
noncomputable def m_Bonds_is_total_broken : MS := (sRet (cAn (c2 oNotN (c1 (objF ("Bonds" : Str) ("own_total" : Str)) (cV 0)) (cC .non)) (cMeth ("Bonds" : Str) ("is_broken" : Str) g_Bonds_is_broken (cV 0) (aC (c1 (objF ("Bonds" : Str) ("own_cells" : Str)) (cV 0)) (aC (c1 (objF ("Bonds" : Str) ("own_total" : Str)) (cV 0)) (aC (cV 1) aN))) [])))
noncomputable def g_Bonds_is_total_broken : List D → Ot SV := fnS 2 2 m_Bonds_is_total_broken
def N_Bonds_broken : List Str := [("self" : Str), ("guesses" : Str), ("cell" : Str)]
noncomputable def m_Bonds_broken : MS := (sSeq (sSet 2 (cFz (cMeth ("Bonds" : Str) ("broken_number" : Str) g_Bonds_broken_number (cV 0) (aC (cV 1) aN) []))) (sSeq (sIf (tL (c2 oNotN (cV 2) (cC .non))) (sRet (cV 2)) sNil) (sRet (cIf (tB (cMeth ("Bonds" : Str) ("is_total_broken" : Str) g_Bonds_is_total_broken (cV 0) (aC (cV 1) aN) [])) (cC k_TOTAL) (cC .non)))))
noncomputable def g_Bonds_broken : List D → Ot SV := fnS 2 3 m_Bonds_broken
def N_Bonds_next_cell : List Str := [("self" : Str), ("guesses" : Str), ("best" : Str), ("cell" : Str), ("untold" : Str), ("one" : Str)]
noncomputable def m_Bonds_next_cell : MS := (sSeq (sSet 2 (cC .non)) (sSeq (sFor (iAny (cMeth ("Bonds" : Str) ("opened" : Str) g_Bonds_opened (cV 0) aN [])) (.nm 3) (sSeq (sSet 4 (cLc (iAny (cMeth ("Bonds" : Str) ("near" : Str) g_Bonds_near (cV 0) (aC (cV 3) aN) [])) (.nm 5) (tL (c2 oNin (cV 5) (cV 1))) (cV 5) [5])) (bd (fzS 4) fun _ => (sIf (tAn (tL (c2 oNe (cV 4) (cLst aN))) (tOo (tL (c2 oIsN (cV 2) (cC .non))) (tL (c2 oLtA (cA lenO (aC (cV 4) aN)) (cA lenO (aC (cV 2) aN)))))) (sSet 2 (cV 4)) sNil)))) (sRet (cIf (tL (c2 oIsN (cV 2) (cC .non))) (cC .non) (cIx (cV 2) (cC (.int 0)))))))
noncomputable def g_Bonds_next_cell : List D → Ot SV := fnS 2 6 m_Bonds_next_cell
def N_is_laying_of : List Str := [("field" : Str), ("value" : Str), ("bonds" : Str), ("cell" : Str)]
noncomputable def m_is_laying_of : MS := (sSeq (sSet 2 (cFz (cMake ("Bonds" : Str) g_Bonds___init__ (aC (cV 0) aN) []))) (sSeq (sIf (tNt (tB (c1 (l1 (isiO "tuple")) (cV 1)))) (sRet (cC (.bl false))) sNil) (sSeq (sIf (tNt (tB (cA allO (aC (cLc (iAny (cV 1)) (.nm 3) (pr true) (cAn (c1 (l1 (isiO "int")) (cV 3)) (cAn (cNt (c1 (l1 (isiO "bool")) (cV 3))) (c2 oIn (cV 3) (cMeth ("Bonds" : Str) ("cells" : Str) g_Bonds_cells (cV 2) aN [])))) [3]) aN)))) (sRet (cC (.bl false))) sNil) (sSeq (sIf (tNt (tB (cCall g_is_rising (aC (cV 1) aN) []))) (sRet (cC (.bl false))) sNil) (sRet (c2 oIsN (cMeth ("Bonds" : Str) ("broken" : Str) g_Bonds_broken (cV 2) (aC (cDc (iAny (cMeth ("Bonds" : Str) ("cells" : Str) g_Bonds_cells (cV 2) aN [])) (.nm 3) (pr true) (cV 3) (c2 oIn (cV 3) (cV 1)) [3]) aN) []) (cC .non)))))))
noncomputable def g_is_laying_of : List D → Ot SV := fnS 2 4 m_is_laying_of
def N_are_guesses_of : List Str := [("field" : Str), ("value" : Str), ("cells" : Str), ("cell" : Str)]
noncomputable def m_are_guesses_of : MS := (sSeq (sIf (tNt (tB (c1 (l1 (isiO "dict")) (cV 1)))) (sRet (cC (.bl false))) sNil) (sSeq (sSet 2 (cFz (cCall g_covered_of (aC (cV 0) aN) []))) (sSeq (sFor (iAny (cV 1)) (.nm 3) (sSeq (sIf (tOo (tNt (tB (c1 (l1 (isiO "int")) (cV 3)))) (tOo (tB (c1 (l1 (isiO "bool")) (cV 3))) (tL (c2 oNin (cV 3) (cV 2))))) (sRet (cC (.bl false))) sNil) (sIf (tNt (tB (c1 (l1 (isiO "bool")) (cIx (cV 1) (cV 3))))) (sRet (cC (.bl false))) sNil))) (sRet (cC (.bl true))))))
noncomputable def g_are_guesses_of : List D → Ot SV := fnL 1 2 4 m_are_guesses_of
def N_want_rim : List Str := [("field" : Str)]
noncomputable def m_want_rim : MS := (sExp (cCall g_want_at_most (aC (cC (.str "rim")) (aC (cC k_MOST_RIM) (aC (cA lenO (aC (cMeth ("Bonds" : Str) ("rim" : Str) g_Bonds_rim (cFz (cMake ("Bonds" : Str) g_Bonds___init__ (aC (cV 0) aN) [])) aN []) aN)) aN))) []))
noncomputable def g_want_rim : List D → Ot SV := fnS 1 1 m_want_rim
def N_want_guesses : List Str := [("field" : Str), ("value" : Str)]
noncomputable def m_want_guesses : MS := (sSeq (sIf (tNt (tB (cCall g_are_guesses_of (aC (cV 0) (aC (cV 1) aN)) []))) sNev sNil) (sRet (cV 1)))
noncomputable def g_want_guesses : List D → Ot SV := fnS 2 2 m_want_guesses
def N_choices : List Str := [("many" : Str), ("some" : Str), ("found" : Str), ("at" : Str)]
noncomputable def m_choices : MS := (sSeq (sIf (tOo (tL (c2 oLtA (cV 1) (cC (.int 0)))) (tL (c2 oGtA (cV 1) (cV 0)))) (sRet (cC (.int 0))) sNil) (sSeq (sSet 2 (cC (.int 1))) (sSeq (sFor (iRg1 (cV 1)) (.nm 3) (sSet 2 (c2 oFdiv (c2 (l2 mul2O) (cV 2) (c2 oSub (cV 0) (cV 3))) (c2 oAdd (cV 3) (cC (.int 1)))))) (sRet (cV 2)))))
noncomputable def g_choices : List D → Ot SV := fnS 2 4 m_choices
def N_far_choices : List Str := [("bonds" : Str), ("guesses" : Str), ("untold" : Str), ("found" : Str), ("turn" : Str), ("mines" : Str), ("cell" : Str)]
noncomputable def m_far_choices : MS := (sSeq (sSet 2 (cA lenO (aC (cLc (iAny (cMeth ("Bonds" : Str) ("far" : Str) g_Bonds_far (cV 0) aN [])) (.nm 6) (tL (c2 oNin (cV 6) (cV 1))) (cV 6) [6]) aN))) (sSeq (sIf (tL (c2 oIsN (cMeth ("Bonds" : Str) ("total" : Str) g_Bonds_total (cV 0) aN []) (cC .non))) (sSeq (sSet 3 (cC (.int 1))) (sSeq (sFor (iRg1 (cV 2)) (.nm 4) (sSet 3 (c2 (l2 mul2O) (cC (.int 2)) (cV 3)))) (sRet (cV 3)))) sNil) (sSeq (sSet 5 (lockE 1 none (cA lenO (aC (cLc (iAny (cV 1)) (.nm 6) (tB (cIx (cV 1) (cV 6))) (cV 6) [6]) aN)))) (sRet (cCall g_choices (aC (cV 2) (aC (c2 oSub (cMeth ("Bonds" : Str) ("total" : Str) g_Bonds_total (cV 0) aN []) (cV 5)) aN)) [])))))
noncomputable def g_far_choices : List D → Ot SV := fnS 2 7 m_far_choices
def N_with_guess : List Str := [("guesses" : Str), ("cell" : Str), ("is_mined" : Str), ("found" : Str)]
noncomputable def m_with_guess : MS := (sSeq (sSet 3 (cA dictO (aC (cV 0) aN))) (sSeq (sPut (.s 3) (cV 1) (cV 2)) (sRetV 3)))
noncomputable def g_with_guess : List D → Ot SV := fnS 3 4 m_with_guess
def N_many_by : List Str := [("bonds" : Str), ("guesses" : Str), ("cell" : Str)]
noncomputable def m_many_by (gr : List D → Ot SV) : MS := (sSeq (sIf (tL (c2 oNotN (cMeth ("Bonds" : Str) ("broken" : Str) g_Bonds_broken (cV 0) (aC (cV 1) aN) []) (cC .non))) (sRet (cC (.int 0))) sNil) (sSeq (sSet 2 (cFz (cMeth ("Bonds" : Str) ("next_cell" : Str) g_Bonds_next_cell (cV 0) (aC (cV 1) aN) []))) (sSeq (sIf (tL (c2 oIsN (cV 2) (cC .non))) (sRet (cCall g_far_choices (aC (cV 0) (aC (cV 1) aN)) [])) sNil) (sRet (c2 oAdd (cCall (gr) (aC (cV 0) (aC (cCall g_with_guess (aC (cV 1) (aC (cV 2) (aC (cC (.bl true)) aN))) []) aN)) []) (cCall (gr) (aC (cV 0) (aC (cCall g_with_guess (aC (cV 1) (aC (cV 2) (aC (cC (.bl false)) aN))) []) aN)) []))))))
noncomputable def gn_many_by : Nat → List D → Ot SV
  | 0 => fun _ => .stuck
  | n + 1 => fnS 2 3 (m_many_by (gn_many_by n))
noncomputable def g_many_by : List D → Ot SV := gn_many_by 70
def N_goes_with : List Str := [("laying" : Str), ("guesses" : Str), ("cell" : Str)]
noncomputable def m_goes_with : MS := (sRet (lockE 1 none (cA allO (aC (cLc (iAny (cV 1)) (.nm 2) (pr true) (c2 oEq (c2 oIn (cV 2) (cV 0)) (cIx (cV 1) (cV 2))) [2]) aN))))
noncomputable def g_goes_with : List D → Ot SV := fnS 2 3 m_goes_with
def N_with_cells : List Str := [("guesses" : Str), ("cells" : Str), ("is_mined" : Str), ("found" : Str), ("cell" : Str)]
noncomputable def m_with_cells : MS := (sSeq (sSet 3 (cA dictO (aC (cV 0) aN))) (sSeq (sFor (iAny (cV 1)) (.nm 4) (sSeq (sIf (tL (c2 oNe (lend 3 (cGet2 (cV 3) (cV 4) (cV 2))) (cV 2))) (sRet (cC .non)) sNil) (sPut (.s 3) (cV 4) (cV 2)))) (sRetV 3)))
noncomputable def g_with_cells : List D → Ot SV := fnS 3 5 m_with_cells
def N_many_with : List Str := [("bonds" : Str), ("guesses" : Str)]
noncomputable def m_many_with : MS := (sRet (cIf (tL (c2 oIsN (cV 1) (cC .non))) (cC (.int 0)) (cCall g_many_by (aC (cV 0) (aC (cV 1) aN)) [])))
noncomputable def g_many_with : List D → Ot SV := fnS 2 2 m_many_with
def N_ends_at : List Str := [("bonds" : Str), ("guesses" : Str), ("mines" : Str), ("rest" : Str), ("late" : Str), ("cell" : Str)]
noncomputable def m_ends_at : MS := (sSeq (sSet 3 (cLc (iAny (cMeth ("Bonds" : Str) ("cells" : Str) g_Bonds_cells (cV 0) aN [])) (.nm 5) (tL (c2 oNin (cV 5) (cV 2))) (cV 5) [5])) (bd (fzS 3) fun _ => (sSeq (sSet 4 (cFz (cCall g_with_cells (aC (cV 1) (aC (cV 2) (aC (cC (.bl true)) aN))) []))) (sRet (cCall g_many_with (aC (cV 0) (aC (cIf (tL (c2 oIsN (cV 4) (cC .non))) (cC .non) (cCall g_with_cells (aC (cV 4) (aC (cV 3) (aC (cC (.bl false)) aN))) [])) aN)) [])))))
noncomputable def g_ends_at : List D → Ot SV := fnS 3 6 m_ends_at
def N_next_many : List Str := [("bonds" : Str), ("guesses" : Str), ("mines" : Str), ("cell" : Str), ("ahead" : Str), ("late" : Str), ("one" : Str)]
noncomputable def m_next_many : MS := (sSeq (sSet 4 (cLc (iAny (cMeth ("Bonds" : Str) ("cells" : Str) g_Bonds_cells (cV 0) aN [])) (.nm 6) (tAn (tL (c2 oLtA (cV 6) (cV 3))) (tL (c2 oNin (cV 6) (cV 2)))) (cV 6) [6])) (bd (fzS 4) fun _ => (sSeq (sSet 5 (cFz (cCall g_with_cells (aC (cV 1) (aC (c2 oAdd (cV 2) (cLst (aC (cV 3) aN))) (aC (cC (.bl true)) aN))) []))) (sRet (cCall g_many_with (aC (cV 0) (aC (cIf (tL (c2 oIsN (cV 5) (cC .non))) (cC .non) (cCall g_with_cells (aC (cV 5) (aC (cV 4) (aC (cC (.bl false)) aN))) [])) aN)) [])))))
noncomputable def g_next_many : List D → Ot SV := fnS 4 7 m_next_many
def N_behind_of : List Str := [("bonds" : Str), ("mines" : Str), ("cell" : Str)]
noncomputable def m_behind_of : MS := (sRet (cLc (iAny (cMeth ("Bonds" : Str) ("cells" : Str) g_Bonds_cells (cV 0) aN [])) (.nm 2) (tOo (tL (c2 oEq (cV 1) (cLst aN))) (tL (c2 oGtA (cV 2) (cIx (cV 1) (c1 (l1 negO) (cC (.int 1))))))) (cV 2) [2]))
noncomputable def g_behind_of : List D → Ot SV := fnS 2 3 m_behind_of
def N_rank_by : List Str := [("bonds" : Str), ("guesses" : Str), ("laying" : Str), ("found" : Str), ("mines" : Str), ("mine" : Str), ("cell" : Str)]
noncomputable def m_rank_by : MS := (sSeq (sPar [3, 4] (aC (cC (.int 0)) (aC (cLst aN) aN))) (sSeq (sFor (iAny (cV 2)) (.nm 5) (sSeq (sAug 3 (l2 fun a b => (ofO (i2 (fun i j => .int (i + j)) a b)).bd okd) (lend 4 (cCall g_ends_at (aC (cV 0) (aC (cV 1) (aC (cV 4) aN))) []))) (sSeq (sFor (iAny (lend 4 (cCall g_behind_of (aC (cV 0) (aC (cV 4) aN)) []))) (.nm 6) (sIf (tL (c2 oLtA (cV 6) (cV 5))) (sAug 3 (l2 fun a b => (ofO (i2 (fun i j => .int (i + j)) a b)).bd okd) (lend 4 (cCall g_next_many (aC (cV 0) (aC (cV 1) (aC (cV 4) (aC (cV 6) aN)))) []))) sNil)) (sExp (cApp (.s 4) (cV 5)))))) (sRet (cV 3))))
noncomputable def g_rank_by : List D → Ot SV := fnS 3 7 m_rank_by
def N_laying_by : List Str := [("bonds" : Str), ("guesses" : Str), ("rank" : Str), ("mines" : Str), ("left" : Str), ("here" : Str), ("cell" : Str), ("many" : Str)]
noncomputable def m_laying_by : MS := (sSeq (sPar [3, 4] (aC (cLst aN) (aC (cV 2) aN))) (sWh (tB (cC (.bl true))) (sSeq (sSet 5 (lend 3 (cCall g_ends_at (aC (cV 0) (aC (cV 1) (aC (cV 3) aN))) []))) (sSeq (sIf (tL (c2 oLtA (cV 4) (cV 5))) (sRet (cA tupleO (aC (cVF 3) aN))) sNil) (sSeq (sAug 4 oSub (cV 5)) (sFor (iAny (lend 3 (cCall g_behind_of (aC (cV 0) (aC (cV 3) aN)) []))) (.nm 6) (sSeq (sSet 7 (lend 3 (cCall g_next_many (aC (cV 0) (aC (cV 1) (aC (cV 3) (aC (cV 6) aN)))) []))) (sSeq (sIf (tL (c2 oLtA (cV 4) (cV 7))) (sSeq (sExp (cApp (.s 3) (cV 6))) (pr .bk)) sNil) (sAug 4 oSub (cV 7))))))))))
noncomputable def g_laying_by : List D → Ot SV := fnS 3 8 m_laying_by
def N_want_both : List Str := [("field" : Str), ("guesses" : Str)]
noncomputable def m_want_both : MS := (sSeq (sExp (cCall g_want_guesses (aC (cCall g_want_field (aC (cV 0) aN) []) (aC (cV 1) aN)) [])) (sSeq (sExp (cCall g_want_rim (aC (cV 0) aN) [])) (sRet (cMake ("Bonds" : Str) g_Bonds___init__ (aC (cV 0) aN) []))))
noncomputable def g_want_both : List D → Ot SV := fnS 2 2 m_want_both
def N_many_layings : List Str := [("field" : Str), ("guesses" : Str)]
noncomputable def m_many_layings : MS := (sRet (cCall g_many_by (aC (cCall g_want_both (aC (cV 0) (aC (cV 1) aN)) []) (aC (cV 1) aN)) []))
noncomputable def g_many_layings : List D → Ot SV := fnS 2 2 m_many_layings
def N_laying_at : List Str := [("field" : Str), ("guesses" : Str), ("rank" : Str), ("bonds" : Str)]
noncomputable def m_laying_at : MS := (sSeq (sSet 3 (cFz (cCall g_want_both (aC (cV 0) (aC (cV 1) aN)) []))) (sSeq (sIf (tNt (tB (cCall g_is_below (aC (cV 2) (aC (cCall g_many_by (aC (cV 3) (aC (cV 1) aN)) []) aN)) []))) sNev sNil) (sRet (cCall g_laying_by (aC (cV 3) (aC (cV 1) (aC (cV 2) aN))) []))))
noncomputable def g_laying_at : List D → Ot SV := fnS 3 4 m_laying_at
def N_rank_of : List Str := [("field" : Str), ("guesses" : Str), ("laying" : Str), ("bonds" : Str)]
noncomputable def m_rank_of : MS := (sSeq (sSet 3 (cFz (cCall g_want_both (aC (cV 0) (aC (cV 1) aN)) []))) (sSeq (sIf (tOo (tNt (tB (cCall g_is_laying_of (aC (cV 0) (aC (cV 2) aN)) []))) (tNt (tB (cCall g_goes_with (aC (cV 2) (aC (cV 1) aN)) [])))) sNev sNil) (sRet (cCall g_rank_by (aC (cV 3) (aC (cV 1) (aC (cV 2) aN))) []))))
noncomputable def g_rank_of : List D → Ot SV := fnS 3 4 m_rank_of
def N__law_pot : List Str := [("script" : Str), ("k" : Str), ("cell" : Str)]
noncomputable def m__law_pot : MS := (sSeq (sSet 2 (cIf (tL (c2 oLtA (cV 1) (cA lenO (aC (cV 0) aN)))) (cA absO (aC (cIx (cV 0) (cV 1)) aN)) (c2 oAdd (c2 (l2 mul2O) (cC (.int 3673)) (cV 1)) (cC (.int 2171))))) (sRet (cLst (aC (cA maxO (aC (cC (.int 0)) (aC (c2 oSub (cV 2) (c2 oPow (cC (.int 10)) (cC (.int 18)))) aN))) (aC (c2 oAdd (c2 oMod (cA intO (aC (c2 oAdd (c2 oAdd (c2 (l2 mul2O) (c2 oMod (cA intO (aC (cV 2) aN)) (cC (.int 2147483549))) (cC (.int 41999))) (c2 (l2 mul2O) (cC (.int 2171)) (cV 1))) (cC (.int 723))) aN)) (cC (.int 2147483563))) (cC (.int 1))) aN)))))
noncomputable def g__law_pot : List D → Ot SV := fnS 2 3 m__law_pot
def N__law_draw : List Str := [("pot" : Str), ("many" : Str), ("digit" : Str)]
noncomputable def m__law_draw : MS := (sSeq (sIf (tL (c2 oGtA (lend 0 (cIx (cV 0) (cC (.int 0)))) (cC (.int 0)))) (sSeq (sPutT (.s 0) (cC (.int 0)) 2 (cA divmodO (aC (lend 0 (cIx (cV 0) (cC (.int 0)))) (aC (cV 1) aN)))) (sRet (cV 2))) sNil) (sSeq (sPut (.s 0) (cC (.int 1)) (c2 oMod (lend 0 (cA intO (aC (c2 oAdd (c2 (l2 mul2O) (cIx (cV 0) (cC (.int 1))) (cC (.int 48271))) (cC (.int 3673))) aN))) (cC (.int 2147483587)))) (sRet (c2 oMod (lend 0 (cA intO (aC (c2 oFdiv (c2 oMod (cA intO (aC (c2 (l2 mul2O) (cIx (cV 0) (cC (.int 1))) (cIx (cV 0) (cC (.int 1)))) aN)) (cC (.int 2147483549))) (cC (.int 587))) aN))) (cV 1)))))
noncomputable def g__law_draw : SV → List D → Rm := fnM 2 3 m__law_draw
def N__law_pick : List Str := [("pot" : Str), ("some" : Str)]
noncomputable def m__law_pick : MS := (sRet (cIx (cV 1) (cCallM 0 g__law_draw (aC (cA lenO (aC (cV 1) aN)) aN) [])))
noncomputable def g__law_pick : SV → List D → Rm := fnM 2 2 m__law_pick
def N__law_board : List Str := [("pot" : Str), ("most" : Str), ("kind" : Str), ("many" : Str), ("ties" : Str), ("turn" : Str), ("cell" : Str), ("other" : Str), ("tie" : Str), ("tip" : Str), ("one" : Str)]
noncomputable def m__law_board : MS := (sSeq (sSet 2 (cFz (cCallM 0 g__law_draw (aC (cC (.int 3)) aN) []))) (sSeq (sIf (tL (c2 oLtA (cV 2) (cC (.int 2)))) (sRet (cTup (aC (cIx (cLst (aC (cC (.str "squares")) (aC (cC (.str "hexes")) aN))) (cV 2)) (aC (c2 oAdd (cC (.int 1)) (cCallM 0 g__law_draw (aC (cV 1) aN) [])) (aC (c2 oAdd (cC (.int 1)) (cCallM 0 g__law_draw (aC (cV 1) aN) [])) aN))))) sNil) (sSeq (sSet 3 (c2 oAdd (cC (.int 1)) (cCallM 0 g__law_draw (aC (c2 (l2 mul2O) (cV 1) (cV 1)) aN) []))) (sSeq (sSet 4 (cLst aN)) (sSeq (sFor (iRg1 (cCallM 0 g__law_draw (aC (c2 (l2 mul2O) (cC (.int 2)) (cV 3)) aN) [])) (.nm 5) (sSeq (sPar [6, 7] (aC (cCallM 0 g__law_draw (aC (cV 3) aN) []) (aC (cCallM 0 g__law_draw (aC (cV 3) aN) []) aN))) (bd (fzS 6) fun _ => (bd (fzS 7) fun _ => (sSeq (sSet 8 (cTup (aC (cA minO (aC (cV 6) (aC (cV 7) aN))) (aC (cA maxO (aC (cV 6) (aC (cV 7) aN))) aN)))) (sIf (tAn (tL (c2 oNe (cV 6) (cV 7))) (tAn (lendT 4 (tL (c2 oNin (cV 8) (cV 4)))) (tL (c2 oLtA (lend 4 (cA maxO (aC (cLc (iAny (cV 8)) (.nm 9) (pr true) (cA lenO (aC (cLc (iAny (cV 4)) (.nm 10) (tL (c2 oIn (cV 9) (cV 10))) (cV 10) [10]) aN)) [9]) aN))) (cC (.int 9)))))) (sExp (cApp (.s 4) (cV 8))) sNil)))))) (sRet (cTup (aC (cC (.str "web")) (aC (cV 3) (aC (cA tupleO (aC (lend 4 (cA sortedB (aC (cV 4) aN))) aN)) aN))))))))))
noncomputable def g__law_board : SV → List D → Rm := fnM 2 11 m__law_board
def N__law_size : List Str := [("board" : Str)]
noncomputable def m__law_size : MS := (sRet (cIf (tL (c2 oEq (cIx (cV 0) (cC (.int 0))) (cC (.str "web")))) (cIx (cV 0) (cC (.int 1))) (c2 (l2 mul2O) (cIx (cV 0) (cC (.int 1))) (cIx (cV 0) (cC (.int 2))))))
noncomputable def g__law_size : List D → Ot SV := fnS 1 1 m__law_size
def N__law_beside : List Str := [("board" : Str), ("cell" : Str), ("row" : Str), ("column" : Str), ("found" : Str), ("down" : Str), ("right" : Str), ("is_near" : Str), ("tie" : Str)]
noncomputable def m__law_beside : MS := (sSeq (sIf (tL (c2 oEq (cIx (cV 0) (cC (.int 0))) (cC (.str "web")))) (sRet (cA sortedB (aC (cLc (iAny (cIx (cV 0) (cC (.int 2)))) (.nm 8) (tL (c2 oIn (cV 1) (cV 8))) (c2 oSub (c2 oAdd (cIx (cV 8) (cC (.int 0))) (cIx (cV 8) (cC (.int 1)))) (cV 1)) [8]) aN))) sNil) (sSeq (sPar [2, 3] (aC (c2 oFdiv (cV 1) (cIx (cV 0) (cC (.int 2)))) (aC (c2 oSub (cV 1) (c2 (l2 mul2O) (c2 oFdiv (cV 1) (cIx (cV 0) (cC (.int 2)))) (cIx (cV 0) (cC (.int 2))))) aN))) (sSeq (sSet 4 (cLst aN)) (sSeq (sFor (iAny (cLst (aC (c1 (l1 negO) (cC (.int 1))) (aC (cC (.int 0)) (aC (cC (.int 1)) aN))))) (.nm 5) (sFor (iAny (cLst (aC (c1 (l1 negO) (cC (.int 1))) (aC (cC (.int 0)) (aC (cC (.int 1)) aN))))) (.nm 6) (sSeq (sSet 7 (cIf (tL (c2 oEq (cIx (cV 0) (cC (.int 0))) (cC (.str "squares")))) (c2 oNe (cTup (aC (cV 5) (aC (cV 6) aN))) (cTup (aC (cC (.int 0)) (aC (cC (.int 0)) aN)))) (c2 oIn (cTup (aC (cV 5) (aC (cV 6) aN))) (cLst (aC (cTup (aC (cC (.int 0)) (aC (cC (.int 1)) aN))) (aC (cTup (aC (cC (.int 0)) (aC (c1 (l1 negO) (cC (.int 1))) aN))) (aC (cTup (aC (cC (.int 1)) (aC (cC (.int 0)) aN))) (aC (cTup (aC (c1 (l1 negO) (cC (.int 1))) (aC (cC (.int 0)) aN))) (aC (cTup (aC (cC (.int 1)) (aC (c1 (l1 negO) (cC (.int 1))) aN))) (aC (cTup (aC (c1 (l1 negO) (cC (.int 1))) (aC (cC (.int 1)) aN))) aN)))))))))) (sIf (tAn (tB (cV 7)) (tAn (tL (c3 oLeA oLtA (cC (.int 0)) (c2 oAdd (cV 2) (cV 5)) (cIx (cV 0) (cC (.int 1))))) (tL (c3 oLeA oLtA (cC (.int 0)) (c2 oAdd (cV 3) (cV 6)) (cIx (cV 0) (cC (.int 2))))))) (sExp (cApp (.s 4) (c2 oAdd (c2 oAdd (c2 (l2 mul2O) (c2 oAdd (cV 2) (cV 5)) (cIx (cV 0) (cC (.int 2)))) (cV 3)) (cV 6)))) sNil)))) (sRet (lend 4 (cA sortedB (aC (cV 4) aN))))))))
noncomputable def g__law_beside : List D → Ot SV := fnS 2 9 m__law_beside
def N__law_numbered : List Str := [("board" : Str), ("mines" : Str), ("opened" : Str), ("signs" : Str), ("cell" : Str), ("many" : Str), ("one" : Str)]
noncomputable def m__law_numbered : MS := (sSeq (sSet 3 (cC (.str ""))) (sSeq (sFor (iRg1 (cCall g__law_size (aC (cV 0) aN) [])) (.nm 4) (sSeq (sSet 5 (cA lenO (aC (cLc (iAny (cCall g__law_beside (aC (cV 0) (aC (cV 4) aN)) [])) (.nm 6) (tL (c2 oIn (cV 6) (cV 1))) (cV 6) [6]) aN))) (sSet 3 (c2 oAdd (cV 3) (cIf (tL (c2 oNin (cV 4) (cV 2))) (cC (.str "#")) (cIf (tL (c2 oIn (cV 4) (cV 1))) (cC (.str "*")) (cA strO (aC (cV 5) aN)))))))) (sRet (cV 3))))
noncomputable def g__law_numbered : List D → Ot SV := fnS 3 7 m__law_numbered
def N__law_field : List Str := [("pot" : Str), ("board" : Str), ("most" : Str), ("is_true" : Str), ("cells" : Str), ("mines" : Str), ("opened" : Str), ("signs" : Str), ("total" : Str), ("cell" : Str)]
noncomputable def m__law_field : MS := (sSeq (sSet 4 (cFz (cRg1 (fun ds => .ok (.ol ds)) (cCall g__law_size (aC (cV 1) aN) [])))) (sSeq (sSet 5 (cFz (cLc (iAny (cV 4)) (.nm 9) (tL (c2 oEq (cCallM 0 g__law_draw (aC (cC (.int 4)) aN) []) (cC (.int 0)))) (cV 9) [9]))) (sSeq (sSet 6 (cLc (iAny (cV 4)) (.nm 9) (tAn (tL (c2 oGtA (cCallM 0 g__law_draw (aC (cC (.int 3)) aN) []) (cC (.int 0)))) (tOo (tL (c2 oNin (cV 9) (cV 5))) (tL (c2 oEq (cCallM 0 g__law_draw (aC (cC (.int 4)) aN) []) (cC (.int 0)))))) (cV 9) [9])) (sSeq (sWh (tL (c2 oGtA (c2 oSub (cA lenO (aC (cV 4) aN)) (lend 6 (cA lenO (aC (cV 6) aN)))) (cV 2))) (sExp (cApp (.s 6) (cIx (lend 6 (cLc (iAny (cV 4)) (.nm 9) (tL (c2 oNin (cV 9) (cV 6))) (cV 9) [9])) (cCallM 0 g__law_draw (aC (c2 oSub (cA lenO (aC (cV 4) aN)) (lend 6 (cA lenO (aC (cV 6) aN)))) aN) []))))) (sSeq (sSet 7 (cFz (cCall g__law_numbered (aC (cV 1) (aC (cV 5) (aC (cVF 6) aN))) []))) (sSeq (sSet 8 (cIf (tL (c2 oEq (cCallM 0 g__law_draw (aC (cC (.int 2)) aN) []) (cC (.int 0)))) (cA lenO (aC (cV 5) aN)) (cC .non))) (sSeq (sIf (tAn (tNt (tB (cV 3))) (lendT 6 (tL (c2 oNe (cV 6) (cLst aN))))) (sSeq (sSet 9 (cFz (cCallM 0 g__law_pick (aC (cVF 6) aN) []))) (sSeq (sSet 7 (c2 oAdd (c2 oAdd (cSl (cV 7) oN (oS (cV 9))) (cCallM 0 g__law_pick (aC (cLst (aC (cC (.str "0")) (aC (cC (.str "1")) (aC (cC (.str "2")) (aC (cC (.str "3")) (aC (cC (.str "*")) aN)))))) aN) [])) (cSl (cV 7) (oS (c2 oAdd (cV 9) (cC (.int 1)))) oN))) (sSet 8 (cFz (cIf (tOo (tL (c2 oIsN (cV 8) (cC .non))) (tL (c2 oEq (cCallM 0 g__law_draw (aC (cC (.int 2)) aN) []) (cC (.int 0))))) (cV 8) (cCallM 0 g__law_draw (aC (c2 oAdd (cA lenO (aC (cV 4) aN)) (cC (.int 2))) aN) [])))))) sNil) (sRet (cTup (aC (cC (.str "field")) (aC (cV 1) (aC (cV 7) (aC (cV 8) aN)))))))))))))
noncomputable def g__law_field : SV → List D → Rm := fnM 4 10 m__law_field
def N__law_covered : List Str := [("field" : Str), ("cell" : Str), ("sign" : Str)]
noncomputable def m__law_covered : MS := (sRet (cLc (iEnu (cIx (cV 0) (cC (.int 2)))) (.tp [1, 2]) (tL (c2 oEq (cV 2) (cC (.str "#")))) (cV 1) [1, 2]))
noncomputable def g__law_covered : List D → Ot SV := fnS 1 3 m__law_covered
def N__law_fits : List Str := [("field" : Str), ("mines" : Str), ("known" : Str), ("every" : Str), ("cell" : Str), ("sign" : Str), ("one" : Str)]
noncomputable def m__law_fits : MS := (sSeq (sSet 2 (cLc (iEnu (cIx (cV 0) (cC (.int 2)))) (.tp [4, 5]) (tL (c2 oEq (cV 5) (cC (.str "*")))) (cV 4) [4, 5])) (bd (fzS 2) fun _ => (sSeq (sSet 3 (cFz (c2 oAdd (cV 2) (cA listO (aC (cV 1) aN))))) (sSeq (sFor (iEnu (cIx (cV 0) (cC (.int 2)))) (.tp [4, 5]) (sIf (tAn (tL (c2 oIn (cV 5) (cC (.str "0123456789")))) (tL (c2 oNe (cA lenO (aC (cLc (iAny (cCall g__law_beside (aC (cIx (cV 0) (cC (.int 1))) (aC (cV 4) aN)) [])) (.nm 6) (tL (c2 oIn (cV 6) (cV 3))) (cV 6) [6]) aN)) (cA intO (aC (cV 5) aN))))) (sRet (cC (.bl false))) sNil)) (sRet (cOo (c2 oIsN (cIx (cV 0) (cC (.int 3))) (cC .non)) (c2 oEq (cA lenO (aC (cV 3) aN)) (cIx (cV 0) (cC (.int 3))))))))))
noncomputable def g__law_fits : List D → Ot SV := fnS 2 7 m__law_fits
def N__law_layings : List Str := [("field" : Str), ("found" : Str), ("cell" : Str), ("mines" : Str)]
noncomputable def m__law_layings : MS := (sSeq (sSet 1 (cFz (cLst (aC (cTup aN) aN)))) (sSeq (sFor (iAny (cCall g__law_covered (aC (cV 0) aN) [])) (.nm 2) (sSet 1 (cFz (c2 oAdd (cV 1) (cLc (iAny (cV 1)) (.nm 3) (pr true) (c2 oAdd (cV 3) (cTup (aC (cV 2) aN))) [3]))))) (sRet (cA sortedB (aC (cLc (iAny (cV 1)) (.nm 3) (tB (cCall g__law_fits (aC (cV 0) (aC (cV 3) aN)) [])) (cV 3) [3]) aN)))))
noncomputable def g__law_layings : List D → Ot SV := fnS 1 4 m__law_layings
def N__law_right : List Str := [("pot" : Str), ("is_true" : Str), ("told" : Str), ("every" : Str), ("cells" : Str), ("shown" : Str), ("turn" : Str), ("guesses" : Str), ("going" : Str), ("kept" : Str), ("many" : Str), ("rank" : Str), ("mines" : Str), ("cell" : Str), ("at" : Str)]
noncomputable def m__law_right : MS := (sSeq (sSet 2 (cFz (cCallM 0 g__law_field (aC (cCallM 0 g__law_board (aC (cC (.int 4)) aN) []) (aC (cC (.int 9)) (aC (cV 1) aN))) []))) (sSeq (sPar [3, 4, 5] (aC (cCall g__law_layings (aC (cV 2) aN) []) (aC (cCall g__law_covered (aC (cV 2) aN) []) (aC (cA reprO (aC (cV 2) aN)) aN)))) (bd (fzS 3) fun _ => (bd (fzS 4) fun _ => (sSeq (sFor (iRg1 (cC (.int 4))) (.nm 6) (sSeq (sSet 7 (cFz (cIf (tL (c2 oGtA (cV 6) (cC (.int 0)))) (cA dictO (aC (cLc (iAny (cV 4)) (.nm 13) (tL (c2 oEq (cCallM 0 g__law_draw (aC (cC (.int 3)) aN) []) (cC (.int 0)))) (cTup (aC (cV 13) (aC (c2 oEq (cCallM 0 g__law_draw (aC (cC (.int 2)) aN) []) (cC (.int 0))) aN))) [13]) aN)) (pr (.od []))))) (sSeq (sPar [8, 9] (aC (cLc (iAny (cV 3)) (.nm 12) (tB (lockE 7 none (cA allO (aC (cLc (iAny (cV 7)) (.nm 13) (pr true) (c2 oEq (c2 oIn (cV 13) (cV 12)) (cIx (cV 7) (cV 13))) [13]) aN)))) (cV 12) [12]) (aC (cA reprO (aC (cV 7) aN)) aN))) (bd (fzS 8) fun _ => (sSeq (sSet 10 (cA lenO (aC (cV 8) aN))) (sSeq (sIf (tL (c2 oNe (cA reprO (aC (cLst (aC (cCall g_many_layings (aC (cV 2) (aC (cV 7) aN)) []) (aC (cCallK 2 [1, 0] g_many_layings (aC (cV 7) (aC (cV 2) aN))) aN))) aN)) (cA reprO (aC (cLst (aC (cV 10) (aC (cV 10) aN))) aN)))) (sRet (cC (.bl false))) sNil) (sSeq (sFor (iAny (cSl (cLc (iRg1 (cV 10)) (.nm 14) (tOo (tL (c2 oLtA (cV 14) (cC (.int 3)))) (tOo (tL (c2 oGtA (cV 14) (c2 oSub (cV 10) (cC (.int 3))))) (tL (c2 oEq (cCallM 0 g__law_draw (aC (cC (.int 4)) aN) []) (cC (.int 0)))))) (cV 14) [14]) oN (oS (cC (.int 12))))) (.nm 11) (sSeq (sSet 12 (cIx (cV 8) (cV 11))) (sSeq (sIf (tL (c2 oNe (cA reprO (aC (cLst (aC (cCall g_laying_at (aC (cV 2) (aC (cV 7) (aC (cV 11) aN))) []) (aC (cCallK 3 [2, 1, 0] g_laying_at (aC (cV 11) (aC (cV 7) (aC (cV 2) aN)))) aN))) aN)) (cA reprO (aC (cLst (aC (cV 12) (aC (cV 12) aN))) aN)))) (sRet (cC (.bl false))) sNil) (sIf (tL (c2 oNe (cA reprO (aC (cLst (aC (cCall g_rank_of (aC (cV 2) (aC (cV 7) (aC (cV 12) aN))) []) (aC (cCallK 3 [2, 1, 0] g_rank_of (aC (cV 12) (aC (cV 7) (aC (cV 2) aN)))) aN))) aN)) (cA reprO (aC (cLst (aC (cV 11) (aC (cV 11) aN))) aN)))) (sRet (cC (.bl false))) sNil)))) (sIf (tL (c2 oNe (cA reprO (aC (cV 7) aN)) (cV 9))) (sRet (cC (.bl false))) sNil)))))))) (sRet (c2 oEq (cA reprO (aC (cV 2) aN)) (cV 5))))))))
noncomputable def g__law_right : SV → List D → Rm := fnM 2 15 m__law_right
def N_law : List Str := [("script" : Str), ("pot" : Str), ("other" : Str)]
noncomputable def m_law : MS := (sSeq (sPar [1, 2] (aC (cCall g__law_pot (aC (cV 0) (aC (cC (.int 0)) aN)) []) (aC (cCall g__law_pot (aC (cV 0) (aC (cC (.int 1)) aN)) []) aN))) (sRet (cAn (cCallM 1 g__law_right (aC (cC (.bl true)) aN) []) (cAn (cCallM 2 g__law_right (aC (cC (.bl true)) aN) []) (cCallM 2 g__law_right (aC (cC (.bl false)) aN) [])))))
noncomputable def g_law : List D → Ot SV := fnS 1 3 m_law
end Wk

-- HR_k79
set_option maxHeartbeats 0
namespace Wk
open PySem PySem.Spec PyProof.Rows L2 Dv
abbrev R : PySem.W.OpenRow := PySem.W.OpenLaw.row PySem.Challenge.rw_hiddenmines_k79_whole_ranks_of_layings
abbrev hk : PySem.W.Hook := hookV 5 fa fn cs
def ob (s : PySem.W.SharedT) : He.AlD × Bool := obsVG 5 fa fn cs (HandSHeadRun.getT s)
theorem ob_eq (s : PySem.W.SharedT) : ob s = hk.obs s.abs := obsVG_eq (HandSHeadRun.getT_eq s)
def loose0 : List Str := [("__name__" : Str), ("MineError" : Str), ("LimitError" : Str), ("InvalidCount" : Str), ("InvalidField" : Str), ("InvalidGuesses" : Str), ("InvalidLaying" : Str), ("TooMany" : Str), ("is_integer" : Str), ("is_count" : Str), ("is_below" : Str), ("is_row" : Str)]
def loose1 : List Str := [("is_rising" : Str), ("want_at_most" : Str), ("SQUARES" : Str), ("HEXES" : Str), ("WEB" : Str), ("MOST_SIZE" : Str), ("MOST_CELLS" : Str), ("MOST_TIES" : Str), ("MOST_DEGREE" : Str), ("SQUARE_STEPS" : Str), ("HEX_STEPS" : Str), ("is_size" : Str)]
def loose2 : List Str := [("are_ties" : Str), ("is_board_of" : Str), ("size_of" : Str), ("place_of" : Str), ("beside_of" : Str), ("all_beside" : Str), ("FIELD" : Str), ("COVERED" : Str), ("MINE" : Str), ("DIGITS" : Str), ("SIGNS" : Str), ("is_total" : Str)]
def loose3 : List Str := [("is_field_of" : Str), ("signed" : Str), ("covered_of" : Str), ("numbers_of" : Str), ("known_of" : Str), ("want_field" : Str), ("MOST_RIM" : Str), ("TOTAL" : Str), ("Bonds" : Str), ("is_laying_of" : Str), ("are_guesses_of" : Str), ("want_rim" : Str)]
def loose4 : List Str := [("want_guesses" : Str), ("choices" : Str), ("far_choices" : Str), ("many_by" : Str), ("with_guess" : Str), ("goes_with" : Str), ("with_cells" : Str), ("many_with" : Str), ("ends_at" : Str), ("next_many" : Str), ("behind_of" : Str), ("rank_by" : Str)]
def loose5 : List Str := [("laying_by" : Str), ("want_both" : Str), ("many_layings" : Str), ("laying_at" : Str), ("rank_of" : Str), ("_law_pot" : Str), ("_law_draw" : Str), ("_law_pick" : Str), ("_law_board" : Str), ("_law_size" : Str), ("_law_beside" : Str), ("_law_numbered" : Str)]
def loose6 : List Str := [("_law_field" : Str), ("_law_covered" : Str), ("_law_fits" : Str), ("_law_layings" : Str), ("_law_right" : Str)]
def loose : List Str := loose0 ++ loose1 ++ loose2 ++ loose3 ++ loose4 ++ loose5 ++ loose6
theorem run (w : World) : HandSHeadRun.RunEq R (PySem.W.view R.prog [83]) hk ob 6000 loose w := by
  intro os
  kernel_rfl
end Wk

set_option maxHeartbeats 4000000

-- G_k79
namespace Wk
open PySem PySem.Spec PyProof.Rows L2 Dv
section
variable {P : Program} {w : World} {K : Fg} {mg : Str → Option Value} {base : Heap}
theorem sc_is_integer : FnScope N_is_integer [("value" : Str)] (defScope st_is_integer) := ⟨rfl, rfl, rfl, by decide +kernel, rfl, by decide +kernel, by decide +kernel⟩
theorem ok_is_integer (h : Fx fa fn cs K mg base) : FnV P w K mg base ("is_integer", none) 1 [("value" : Str)] (spF K g_is_integer) := by
  have q_isinstance := h.free 0 (x := "isinstance")
  have q_int := h.free 1 (x := "int")
  have q_bool := h.free 2 (x := "bool")
  obtain ⟨fd, F⟩ := h.says.base.def_ 0 (d := d_is_integer) rfl
  refine ⟨fd, fn_ok F sc_is_integer fun cdv A outer s H E hr => ?_, FunD.bindsN F fun _ _ _ _ _ _ us hl => match us, hl with | [_], _ => rfl, F.kp⟩
  exact (sb_one (ss_ret (sp_and (sp_isi rfl q_isinstance rfl q_int rfl (sp_var 0)) (sp_one (sp_not (sp_isi rfl q_isinstance rfl q_bool rfl (sp_var 0)))))))
theorem sc_is_count : FnScope N_is_count [("value" : Str)] (defScope st_is_count) := ⟨rfl, rfl, rfl, by decide +kernel, rfl, by decide +kernel, by decide +kernel⟩
theorem ok_is_count (h : Fx fa fn cs K mg base) : FnV P w K mg base ("is_count", none) 2 [("value" : Str)] (spF K g_is_count) := by
  have q_is_integer := h.glo 3 (x := "is_integer")
  have f_is_integer := ok_is_integer (P := P) (w := w) h
  obtain ⟨fd, F⟩ := h.says.base.def_ 1 (d := d_is_count) rfl
  refine ⟨fd, fn_ok F sc_is_count fun cdv A outer s H E hr => ?_, FunD.bindsN F fun _ _ _ _ _ _ us hl => match us, hl with | [_], _ => rfl, F.kp⟩
  exact (sb_one (ss_ret (sp_and (sp_callV f_is_integer q_is_integer hr passes_def (sa_cons (sp_var 0) sa_nil)) (sp_one (sp_cmp (op2_geA (u64 hr)) (sp_var 0) sp_int rfl)))))
theorem sc_is_below : FnScope N_is_below [("value" : Str), ("many" : Str)] (defScope st_is_below) := ⟨rfl, rfl, rfl, by decide +kernel, rfl, by decide +kernel, by decide +kernel⟩
theorem ok_is_below (h : Fx fa fn cs K mg base) : FnV P w K mg base ("is_below", none) 3 [("value" : Str), ("many" : Str)] (spF K g_is_below) := by
  have q_is_count := h.glo 4 (x := "is_count")
  have f_is_count := ok_is_count (P := P) (w := w) h
  obtain ⟨fd, F⟩ := h.says.base.def_ 2 (d := d_is_below) rfl
  refine ⟨fd, fn_ok F sc_is_below fun cdv A outer s H E hr => ?_, FunD.bindsN F fun _ _ _ _ _ _ us hl => match us, hl with | [_, _], _ => rfl, F.kp⟩
  exact (sb_one (ss_ret (sp_and (sp_callV f_is_count q_is_count hr passes_def (sa_cons (sp_var 0) sa_nil)) (sp_one (sp_cmp (op2_ltA (u64 hr)) (sp_var 0) (sp_var 1) rfl)))))
theorem sc_is_row : FnScope N_is_row [("value" : Str), ("many" : Str)] (defScope st_is_row) := ⟨rfl, rfl, rfl, by decide +kernel, rfl, by decide +kernel, by decide +kernel⟩
theorem ok_is_row (h : Fx fa fn cs K mg base) : FnV P w K mg base ("is_row", none) 1 [("value" : Str), ("many" : Str)] (spF K g_is_row) := by
  have q_isinstance := h.free 0 (x := "isinstance")
  have q_tuple := h.free 5 (x := "tuple")
  have q_len := h.free 6 (x := "len")
  obtain ⟨fd, F⟩ := h.says.base.def_ 3 (d := d_is_row) rfl
  refine ⟨fd, fn_ok F sc_is_row fun cdv A outer s H E hr => ?_, FunD.bindsN F fun _ _ _ _ _ _ us hl => match us, hl with | [_, _], _ => rfl, F.kp⟩
  exact (sb_one (ss_ret (sp_and (sp_isi rfl q_isinstance rfl q_tuple rfl (sp_var 0)) (sp_one (sp_cmp (op2_eq (u64 hr)) (sp_callB opc_len rfl q_len rfl (sa_cons (sp_var 0) sa_nil)) (sp_var 1) rfl)))))
theorem sc_is_rising : FnScope N_is_rising [("items" : Str)] (defScope st_is_rising) := ⟨rfl, rfl, rfl, by decide +kernel, rfl, by decide +kernel, by decide +kernel⟩
theorem ok_is_rising (h : Fx fa fn cs K mg base) : FnV P w K mg base ("is_rising", none) 1 [("items" : Str)] (spF K g_is_rising) := by
  have q_zip := h.free 7 (x := "zip")
  have q_all := h.free 8 (x := "all")
  obtain ⟨fd, F⟩ := h.says.base.def_ 4 (d := d_is_rising) rfl
  refine ⟨fd, fn_ok F sc_is_rising fun cdv A outer s H E hr => ?_, FunD.bindsN F fun _ _ _ _ _ _ us hl => match us, hl with | [_], _ => rfl, F.kp⟩
  exact (sb_one (ss_ret (sp_callB (opc_all rfl) rfl q_all rfl (sa_cons (sp_lc (own := [(("near" : Str), 1), (("far" : Str), 2)]) rfl sc_is_rising.nd (si_zip rfl q_zip (sp_var 0) (sp_slice (sp_var 0) (so_some sp_int) so_none)) (by show BlkOk N_is_rising (defScope st_is_rising) _ _; exact ⟨rfl, by decide +kernel, by decide +kernel, by decide +kernel, by decide +kernel⟩) (fun _ _ _ _ _ => (gt_tup rfl (gt_cons (gt_nm sc_is_rising.nd) (gt_cons (gt_nm sc_is_rising.nd) gt_nil)))) (fun _ _ _ _ _ => sts_nil) (fun _ _ _ _ _ => (sp_cmp (op2_ltA (u64 hr)) (sp_var 1) (sp_var 2) rfl))) sa_nil))))
theorem sc_want_at_most : FnScope N_want_at_most [("what" : Str), ("limit" : Str), ("number" : Str)] (defScope st_want_at_most) := ⟨rfl, rfl, rfl, by decide +kernel, rfl, by decide +kernel, by decide +kernel⟩
theorem ok_want_at_most (h : Fx fa fn cs K mg base) : FnV P w K mg base ("want_at_most", none) 1 [("what" : Str), ("limit" : Str), ("number" : Str)] (spF K g_want_at_most) := by
  obtain ⟨fd, F⟩ := h.says.base.def_ 5 (d := d_want_at_most) rfl
  refine ⟨fd, fn_ok F sc_want_at_most fun cdv A outer s H E hr => ?_, FunD.bindsN F fun _ _ _ _ _ _ us hl => match us, hl with | [_, _, _], _ => rfl, F.kp⟩
  exact (sb_one (ss_if (st_cmp (op2_gtA (u64 hr)) (sp_var 2) (sp_var 1) rfl) (sb_one ss_never) sb_nil))
theorem sc_is_size : FnScope N_is_size [("value" : Str), ("most" : Str)] (defScope st_is_size) := ⟨rfl, rfl, rfl, by decide +kernel, rfl, by decide +kernel, by decide +kernel⟩
theorem ok_is_size (h : Fx fa fn cs K mg base) : FnV P w K mg base ("is_size", none) 2 [("value" : Str), ("most" : Str)] (spF K g_is_size) := by
  have q_is_integer := h.glo 3 (x := "is_integer")
  have f_is_integer := ok_is_integer (P := P) (w := w) h
  obtain ⟨fd, F⟩ := h.says.base.def_ 6 (d := d_is_size) rfl
  refine ⟨fd, fn_ok F sc_is_size fun cdv A outer s H E hr => ?_, FunD.bindsN F fun _ _ _ _ _ _ us hl => match us, hl with | [_, _], _ => rfl, F.kp⟩
  exact (sb_one (ss_ret (sp_and (sp_callV f_is_integer q_is_integer hr passes_def (sa_cons (sp_var 0) sa_nil)) (sp_one (sp_chain (op2_leA (u64 hr)) (op2_leA (u64 hr)) sp_int (sp_var 0) (sp_var 1))))))
theorem sc_are_ties : FnScope N_are_ties [("many" : Str), ("value" : Str)] (defScope st_are_ties) := ⟨rfl, rfl, rfl, by decide +kernel, rfl, by decide +kernel, by decide +kernel⟩
theorem ok_are_ties (h : Fx fa fn cs K mg base) : FnV P w K mg base ("are_ties", none) 4 [("many" : Str), ("value" : Str)] (spF K g_are_ties) := by
  have q_isinstance := h.free 0 (x := "isinstance")
  have q_tuple := h.free 5 (x := "tuple")
  have q_len := h.free 6 (x := "len")
  obtain ⟨u_MOST_TIES, v_MOST_TIES, q_MOST_TIES, r_MOST_TIES, p_MOST_TIES⟩ := h.con 0 (x := "MOST_TIES")
  have q_is_row := h.glo 9 (x := "is_row")
  have q_is_below := h.glo 10 (x := "is_below")
  have q_all := h.free 8 (x := "all")
  have q_is_rising := h.glo 11 (x := "is_rising")
  have q_range := h.free 12 (x := "range")
  obtain ⟨u_MOST_DEGREE, v_MOST_DEGREE, q_MOST_DEGREE, r_MOST_DEGREE, p_MOST_DEGREE⟩ := h.con 1 (x := "MOST_DEGREE")
  have f_is_row := ok_is_row (P := P) (w := w) h
  have f_is_below := ok_is_below (P := P) (w := w) h
  have f_is_rising := ok_is_rising (P := P) (w := w) h
  obtain ⟨fd, F⟩ := h.says.base.def_ 7 (d := d_are_ties) rfl
  refine ⟨fd, fn_ok F sc_are_ties fun cdv A outer s H E hr => ?_, FunD.bindsN F fun _ _ _ _ _ _ us hl => match us, hl with | [_, _], _ => rfl, F.kp⟩
  exact (sb_cons (ss_if (st_pw (sw_or (st_not (st_val (sp_isi rfl q_isinstance rfl q_tuple rfl (sp_var 1)))) (sw_or1 (st_cmp (op2_gtA (u64 hr)) (sp_callB opc_len rfl q_len rfl (sa_cons (sp_var 1) sa_nil)) (sp_glob rfl q_MOST_TIES r_MOST_TIES p_MOST_TIES) rfl)))) (sb_one (ss_ret sp_bl)) sb_nil) (sb_cons (ss_if (st_not (st_val (sp_callB (opc_all rfl) rfl q_all rfl (sa_cons (sp_lc (own := [(("tie" : Str), 3)]) rfl sc_are_ties.nd (si_any (sp_var 1)) (by show BlkOk N_are_ties (defScope st_are_ties) _ _; exact ⟨rfl, by decide +kernel, by decide +kernel, by decide +kernel, by decide +kernel⟩) (fun _ _ _ _ _ => (gt_nm sc_are_ties.nd)) (fun _ _ _ _ _ => sts_nil) (fun _ _ _ _ _ => (sp_and (sp_callV f_is_row q_is_row hr passes_blk (sa_cons (sp_var 3) (sa_cons sp_int sa_nil))) (sp_and (sp_callV f_is_below q_is_below hr passes_blk (sa_cons (sp_ix (u80 hr) (sp_var 3) sp_int fun _ _ => rfl) (sa_cons (sp_var 0) sa_nil))) (sp_one (sp_callV f_is_below q_is_below hr passes_blk (sa_cons (sp_ix (u80 hr) (sp_var 3) sp_int fun _ _ => rfl) (sa_cons (sp_var 0) sa_nil)))))))) sa_nil)))) (sb_one (ss_ret sp_bl)) sb_nil) (sb_cons (ss_if (st_pw (sw_or (st_not (st_val (sp_callB (opc_all rfl) rfl q_all rfl (sa_cons (sp_lc (own := [(("tie" : Str), 3)]) rfl sc_are_ties.nd (si_any (sp_var 1)) (by show BlkOk N_are_ties (defScope st_are_ties) _ _; exact ⟨rfl, by decide +kernel, by decide +kernel, by decide +kernel, by decide +kernel⟩) (fun _ _ _ _ _ => (gt_nm sc_are_ties.nd)) (fun _ _ _ _ _ => sts_nil) (fun _ _ _ _ _ => (sp_cmp (op2_ltA (u64 hr)) (sp_ix (u80 hr) (sp_var 3) sp_int fun _ _ => rfl) (sp_ix (u80 hr) (sp_var 3) sp_int fun _ _ => rfl) rfl))) sa_nil)))) (sw_or1 (st_not (st_val (sp_callV f_is_rising q_is_rising hr passes_def (sa_cons (sp_var 1) sa_nil))))))) (sb_one (ss_ret sp_bl)) sb_nil) (sb_cons (ss_set (i := 2) sc_are_ties.nd (sp_fz (sp_bin op2_add (sp_lc (own := [(("tie" : Str), 3)]) rfl sc_are_ties.nd (si_any (sp_var 1)) (by show BlkOk N_are_ties (defScope st_are_ties) _ _; exact ⟨rfl, by decide +kernel, by decide +kernel, by decide +kernel, by decide +kernel⟩) (fun _ _ _ _ _ => (gt_nm sc_are_ties.nd)) (fun _ _ _ _ _ => sts_nil) (fun _ _ _ _ _ => (sp_ix (u80 hr) (sp_var 3) sp_int fun _ _ => rfl))) (sp_lc (own := [(("tie" : Str), 3)]) rfl sc_are_ties.nd (si_any (sp_var 1)) (by show BlkOk N_are_ties (defScope st_are_ties) _ _; exact ⟨rfl, by decide +kernel, by decide +kernel, by decide +kernel, by decide +kernel⟩) (fun _ _ _ _ _ => (gt_nm sc_are_ties.nd)) (fun _ _ _ _ _ => sts_nil) (fun _ _ _ _ _ => (sp_ix (u80 hr) (sp_var 3) sp_int fun _ _ => rfl)))))) (sb_one (ss_ret (sp_callB (opc_all rfl) rfl q_all rfl (sa_cons (sp_lc (own := [(("cell" : Str), 4)]) rfl sc_are_ties.nd (si_rg1 rfl q_range (sp_var 0)) (by show BlkOk N_are_ties (defScope st_are_ties) _ _; exact ⟨rfl, by decide +kernel, by decide +kernel, by decide +kernel, by decide +kernel⟩) (fun _ _ _ _ _ => (gt_nm sc_are_ties.nd)) (fun _ _ _ _ _ => sts_nil) (fun _ _ _ _ _ => (sp_cmp (op2_leA (u64 hr)) (sp_bm PySem.F.plainAttrs_list PySem.F.slot_list_count PySem.F.type_list_count opm_count (sp_var 2) (sa_cons (sp_var 4) sa_nil)) (sp_glob rfl q_MOST_DEGREE r_MOST_DEGREE p_MOST_DEGREE) rfl))) sa_nil))))))))
theorem sc_is_board_of : FnScope N_is_board_of [("value" : Str)] (defScope st_is_board_of) := ⟨rfl, rfl, rfl, by decide +kernel, rfl, by decide +kernel, by decide +kernel⟩
theorem ok_is_board_of (h : Fx fa fn cs K mg base) : FnV P w K mg base ("is_board_of", none) 5 [("value" : Str)] (spF K g_is_board_of) := by
  have q_is_row := h.glo 9 (x := "is_row")
  have q_isinstance := h.free 0 (x := "isinstance")
  have q_str := h.free 13 (x := "str")
  obtain ⟨u_SQUARES, v_SQUARES, q_SQUARES, r_SQUARES, p_SQUARES⟩ := h.con 2 (x := "SQUARES")
  obtain ⟨u_HEXES, v_HEXES, q_HEXES, r_HEXES, p_HEXES⟩ := h.con 3 (x := "HEXES")
  have q_is_size := h.glo 14 (x := "is_size")
  obtain ⟨u_MOST_SIZE, v_MOST_SIZE, q_MOST_SIZE, r_MOST_SIZE, p_MOST_SIZE⟩ := h.con 4 (x := "MOST_SIZE")
  obtain ⟨u_WEB, v_WEB, q_WEB, r_WEB, p_WEB⟩ := h.con 5 (x := "WEB")
  obtain ⟨u_MOST_CELLS, v_MOST_CELLS, q_MOST_CELLS, r_MOST_CELLS, p_MOST_CELLS⟩ := h.con 6 (x := "MOST_CELLS")
  have q_are_ties := h.glo 15 (x := "are_ties")
  have f_is_row := ok_is_row (P := P) (w := w) h
  have f_is_size := ok_is_size (P := P) (w := w) h
  have f_are_ties := ok_are_ties (P := P) (w := w) h
  obtain ⟨fd, F⟩ := h.says.base.def_ 8 (d := d_is_board_of) rfl
  refine ⟨fd, fn_ok F sc_is_board_of fun cdv A outer s H E hr => ?_, FunD.bindsN F fun _ _ _ _ _ _ us hl => match us, hl with | [_], _ => rfl, F.kp⟩
  exact (sb_cons (ss_if (st_pw (sw_or (st_not (st_val (sp_callV f_is_row q_is_row hr passes_def (sa_cons (sp_var 0) (sa_cons sp_int sa_nil))))) (sw_or1 (st_not (st_val (sp_isi rfl q_isinstance rfl q_str rfl (sp_ix (u80 hr) (sp_var 0) sp_int fun _ _ => rfl))))))) (sb_one (ss_ret sp_bl)) sb_nil) (sb_cons (ss_if (st_cmp (op2_in (u80 hr)) (sp_ix (u80 hr) (sp_var 0) sp_int fun _ _ => rfl) (sp_tup (sa_cons (sp_glob rfl q_SQUARES r_SQUARES p_SQUARES) (sa_cons (sp_glob rfl q_HEXES r_HEXES p_HEXES) sa_nil))) rfl) (sb_one (ss_ret (sp_and (sp_callV f_is_size q_is_size hr passes_def (sa_cons (sp_ix (u80 hr) (sp_var 0) sp_int fun _ _ => rfl) (sa_cons (sp_glob rfl q_MOST_SIZE r_MOST_SIZE p_MOST_SIZE) sa_nil))) (sp_one (sp_callV f_is_size q_is_size hr passes_def (sa_cons (sp_ix (u80 hr) (sp_var 0) sp_int fun _ _ => rfl) (sa_cons (sp_glob rfl q_MOST_SIZE r_MOST_SIZE p_MOST_SIZE) sa_nil))))))) sb_nil) (sb_one (ss_ret (sp_and (sp_cmp (op2_eq (u64 hr)) (sp_ix (u80 hr) (sp_var 0) sp_int fun _ _ => rfl) (sp_glob rfl q_WEB r_WEB p_WEB) rfl) (sp_and (sp_callV f_is_size q_is_size hr passes_def (sa_cons (sp_ix (u80 hr) (sp_var 0) sp_int fun _ _ => rfl) (sa_cons (sp_glob rfl q_MOST_CELLS r_MOST_CELLS p_MOST_CELLS) sa_nil))) (sp_one (sp_callV f_are_ties q_are_ties hr passes_def (sa_cons (sp_ix (u80 hr) (sp_var 0) sp_int fun _ _ => rfl) (sa_cons (sp_ix (u80 hr) (sp_var 0) sp_int fun _ _ => rfl) sa_nil))))))))))
theorem sc_size_of : FnScope N_size_of [("board" : Str)] (defScope st_size_of) := ⟨rfl, rfl, rfl, by decide +kernel, rfl, by decide +kernel, by decide +kernel⟩
theorem ok_size_of (h : Fx fa fn cs K mg base) : FnV P w K mg base ("size_of", none) 1 [("board" : Str)] (spF K g_size_of) := by
  obtain ⟨u_WEB, v_WEB, q_WEB, r_WEB, p_WEB⟩ := h.con 5 (x := "WEB")
  obtain ⟨fd, F⟩ := h.says.base.def_ 9 (d := d_size_of) rfl
  refine ⟨fd, fn_ok F sc_size_of fun cdv A outer s H E hr => ?_, FunD.bindsN F fun _ _ _ _ _ _ us hl => match us, hl with | [_], _ => rfl, F.kp⟩
  exact (sb_one (ss_ret (sp_if (st_cmp (op2_eq (u64 hr)) (sp_ix (u80 hr) (sp_var 0) sp_int fun _ _ => rfl) (sp_glob rfl q_WEB r_WEB p_WEB) rfl) (sp_ix (u80 hr) (sp_var 0) sp_int fun _ _ => rfl) (sp_bin op2_mul2 (sp_ix (u80 hr) (sp_var 0) sp_int fun _ _ => rfl) (sp_ix (u80 hr) (sp_var 0) sp_int fun _ _ => rfl)))))
theorem sc_place_of : FnScope N_place_of [("board" : Str), ("cell" : Str)] (defScope st_place_of) := ⟨rfl, rfl, rfl, by decide +kernel, rfl, by decide +kernel, by decide +kernel⟩
theorem ok_place_of (h : Fx fa fn cs K mg base) : FnV P w K mg base ("place_of", none) 1 [("board" : Str), ("cell" : Str)] (spF K g_place_of) := by
  obtain ⟨u_WEB, v_WEB, q_WEB, r_WEB, p_WEB⟩ := h.con 5 (x := "WEB")
  obtain ⟨fd, F⟩ := h.says.base.def_ 10 (d := d_place_of) rfl
  refine ⟨fd, fn_ok F sc_place_of fun cdv A outer s H E hr => ?_, FunD.bindsN F fun _ _ _ _ _ _ us hl => match us, hl with | [_, _], _ => rfl, F.kp⟩
  exact (sb_one (ss_ret (sp_if (st_cmp (op2_eq (u64 hr)) (sp_ix (u80 hr) (sp_var 0) sp_int fun _ _ => rfl) (sp_glob rfl q_WEB r_WEB p_WEB) rfl) (sp_tup (sa_cons sp_int (sa_cons (sp_var 1) sa_nil))) (sp_tup (sa_cons (sp_bin op2_fdiv (sp_var 1) (sp_ix (u80 hr) (sp_var 0) sp_int fun _ _ => rfl)) (sa_cons (sp_bin op2_mod (sp_var 1) (sp_ix (u80 hr) (sp_var 0) sp_int fun _ _ => rfl)) sa_nil))))))
theorem sc_beside_of : FnScope N_beside_of [("board" : Str), ("cell" : Str)] (defScope st_beside_of) := ⟨rfl, rfl, rfl, by decide +kernel, rfl, by decide +kernel, by decide +kernel⟩
theorem ok_beside_of (h : Fx fa fn cs K mg base) : FnV P w K mg base ("beside_of", none) 2 [("board" : Str), ("cell" : Str)] (spF K g_beside_of) := by
  obtain ⟨u_WEB, v_WEB, q_WEB, r_WEB, p_WEB⟩ := h.con 5 (x := "WEB")
  have q_sorted := h.free 16 (x := "sorted")
  have q_place_of := h.glo 17 (x := "place_of")
  obtain ⟨u_SQUARES, v_SQUARES, q_SQUARES, r_SQUARES, p_SQUARES⟩ := h.con 2 (x := "SQUARES")
  obtain ⟨u_SQUARE_STEPS, v_SQUARE_STEPS, q_SQUARE_STEPS, r_SQUARE_STEPS, p_SQUARE_STEPS⟩ := h.con 7 (x := "SQUARE_STEPS")
  obtain ⟨u_HEX_STEPS, v_HEX_STEPS, q_HEX_STEPS, r_HEX_STEPS, p_HEX_STEPS⟩ := h.con 8 (x := "HEX_STEPS")
  have f_place_of := ok_place_of (P := P) (w := w) h
  obtain ⟨fd, F⟩ := h.says.base.def_ 11 (d := d_beside_of) rfl
  refine ⟨fd, fn_ok F sc_beside_of fun cdv A outer s H E hr => ?_, FunD.bindsN F fun _ _ _ _ _ _ us hl => match us, hl with | [_, _], _ => rfl, F.kp⟩
  exact (sb_cons (ss_if (st_cmp (op2_eq (u64 hr)) (sp_ix (u80 hr) (sp_var 0) sp_int fun _ _ => rfl) (sp_glob rfl q_WEB r_WEB p_WEB) rfl) (sb_cons (ss_setLc (own := [(("one" : Str), 8), (("other" : Str), 9)]) rfl sc_beside_of.nd (si_any (sp_ix (u80 hr) (sp_var 0) sp_int fun _ _ => rfl)) (by show BlkOk N_beside_of (defScope st_beside_of) _ _; exact ⟨rfl, by decide +kernel, by decide +kernel, by decide +kernel, by decide +kernel⟩) (fun _ _ _ _ _ => (gt_tup rfl (gt_cons (gt_nm sc_beside_of.nd) (gt_cons (gt_nm sc_beside_of.nd) gt_nil)))) (fun _ _ _ _ _ => (sts_one (st_cmp (op2_eq (u64 hr)) (sp_var 8) (sp_var 1) rfl))) (fun _ _ _ _ _ => (sp_var 9)) (i := 2)) (sb_fz 2 (sb_one (ss_ret (sp_callB (opc_sortedB hr rfl) rfl q_sorted rfl (sa_cons (sp_bin op2_add (sp_var 2) (sp_lc (own := [(("one" : Str), 8), (("other" : Str), 9)]) rfl sc_beside_of.nd (si_any (sp_ix (u80 hr) (sp_var 0) sp_int fun _ _ => rfl)) (by show BlkOk N_beside_of (defScope st_beside_of) _ _; exact ⟨rfl, by decide +kernel, by decide +kernel, by decide +kernel, by decide +kernel⟩) (fun _ _ _ _ _ => (gt_tup rfl (gt_cons (gt_nm sc_beside_of.nd) (gt_cons (gt_nm sc_beside_of.nd) gt_nil)))) (fun _ _ _ _ _ => (sts_one (st_cmp (op2_eq (u64 hr)) (sp_var 9) (sp_var 1) rfl))) (fun _ _ _ _ _ => (sp_var 8)))) sa_nil)))))) sb_nil) (sb_cons (ss_unp (sp_callV f_place_of q_place_of hr passes_def (sa_cons (sp_var 0) (sa_cons (sp_var 1) sa_nil))) (gt_tup rfl (gt_cons (gt_nm sc_beside_of.nd) (gt_cons (gt_nm sc_beside_of.nd) gt_nil)))) (sb_cons (ss_set (i := 5) sc_beside_of.nd (sp_lst sa_nil)) (sb_cons (ss_for own_def rfl (si_any (sp_if (st_cmp (op2_eq (u64 hr)) (sp_ix (u80 hr) (sp_var 0) sp_int fun _ _ => rfl) (sp_glob rfl q_SQUARES r_SQUARES p_SQUARES) rfl) (sp_glob rfl q_SQUARE_STEPS r_SQUARE_STEPS p_SQUARE_STEPS) (sp_glob rfl q_HEX_STEPS r_HEX_STEPS p_HEX_STEPS))) (gt_tup rfl (gt_cons (gt_nm sc_beside_of.nd) (gt_cons (gt_nm sc_beside_of.nd) gt_nil))) (sb_one (ss_if (st_pw (sw_and (st_chain (op2_leA (u64 hr)) (op2_ltA (u64 hr)) sp_int (sp_bin op2_add (sp_var 3) (sp_var 6)) (sp_ix (u80 hr) (sp_var 0) sp_int fun _ _ => rfl)) (sw_and1 (st_chain (op2_leA (u64 hr)) (op2_ltA (u64 hr)) sp_int (sp_bin op2_add (sp_var 4) (sp_var 7)) (sp_ix (u80 hr) (sp_var 0) sp_int fun _ _ => rfl))))) (sb_one (ss_expr (sp_app (pu := false) (sr_s 5) (sp_bin op2_add (sp_bin op2_add (sp_bin op2_mul2 (sp_bin op2_add (sp_var 3) (sp_var 6)) (sp_ix (u80 hr) (sp_var 0) sp_int fun _ _ => rfl)) (sp_var 4)) (sp_var 7))))) sb_nil))) (sb_one (ss_ret (sp_lend 5 (sp_callB (opc_sortedB hr rfl) rfl q_sorted rfl (sa_cons (sp_var 5) sa_nil)))))))))
theorem sc_all_beside : FnScope N_all_beside [("board" : Str)] (defScope st_all_beside) := ⟨rfl, rfl, rfl, by decide +kernel, rfl, by decide +kernel, by decide +kernel⟩
theorem ok_all_beside (h : Fx fa fn cs K mg base) : FnV P w K mg base ("all_beside", none) 3 [("board" : Str)] (spF K g_all_beside) := by
  have q_size_of := h.glo 18 (x := "size_of")
  have q_range := h.free 12 (x := "range")
  have q_beside_of := h.glo 19 (x := "beside_of")
  have f_size_of := ok_size_of (P := P) (w := w) h
  have f_beside_of := ok_beside_of (P := P) (w := w) h
  obtain ⟨fd, F⟩ := h.says.base.def_ 12 (d := d_all_beside) rfl
  refine ⟨fd, fn_ok F sc_all_beside fun cdv A outer s H E hr => ?_, FunD.bindsN F fun _ _ _ _ _ _ us hl => match us, hl with | [_], _ => rfl, F.kp⟩
  exact (sb_one (ss_ret (sp_lc (own := [(("cell" : Str), 1)]) rfl sc_all_beside.nd (si_rg1 rfl q_range (sp_callV f_size_of q_size_of hr passes_def (sa_cons (sp_var 0) sa_nil))) (by show BlkOk N_all_beside (defScope st_all_beside) _ _; exact ⟨rfl, by decide +kernel, by decide +kernel, by decide +kernel, by decide +kernel⟩) (fun _ _ _ _ _ => (gt_nm sc_all_beside.nd)) (fun _ _ _ _ _ => sts_nil) (fun _ _ _ _ _ => (sp_callV f_beside_of q_beside_of hr passes_blk (sa_cons (sp_var 0) (sa_cons (sp_var 1) sa_nil)))))))
theorem sc_is_total : FnScope N_is_total [("value" : Str)] (defScope st_is_total) := ⟨rfl, rfl, rfl, by decide +kernel, rfl, by decide +kernel, by decide +kernel⟩
theorem ok_is_total (h : Fx fa fn cs K mg base) : FnV P w K mg base ("is_total", none) 3 [("value" : Str)] (spF K g_is_total) := by
  have q_is_count := h.glo 4 (x := "is_count")
  have f_is_count := ok_is_count (P := P) (w := w) h
  obtain ⟨fd, F⟩ := h.says.base.def_ 13 (d := d_is_total) rfl
  refine ⟨fd, fn_ok F sc_is_total fun cdv A outer s H E hr => ?_, FunD.bindsN F fun _ _ _ _ _ _ us hl => match us, hl with | [_], _ => rfl, F.kp⟩
  exact (sb_one (ss_ret (sp_or (sp_cmp op2_isN (sp_var 0) sp_non rfl) (sp_one (sp_callV f_is_count q_is_count hr passes_def (sa_cons (sp_var 0) sa_nil))))))
theorem sc_is_field_of : FnScope N_is_field_of [("value" : Str)] (defScope st_is_field_of) := ⟨rfl, rfl, rfl, by decide +kernel, rfl, by decide +kernel, by decide +kernel⟩
theorem ok_is_field_of (h : Fx fa fn cs K mg base) : FnV P w K mg base ("is_field_of", none) 6 [("value" : Str)] (spF K g_is_field_of) := by
  have q_is_row := h.glo 9 (x := "is_row")
  have q_isinstance := h.free 0 (x := "isinstance")
  have q_str := h.free 13 (x := "str")
  obtain ⟨u_FIELD, v_FIELD, q_FIELD, r_FIELD, p_FIELD⟩ := h.con 9 (x := "FIELD")
  have q_is_board_of := h.glo 20 (x := "is_board_of")
  have q_len := h.free 6 (x := "len")
  have q_size_of := h.glo 18 (x := "size_of")
  obtain ⟨u_SIGNS, v_SIGNS, q_SIGNS, r_SIGNS, p_SIGNS⟩ := h.con 10 (x := "SIGNS")
  have q_all := h.free 8 (x := "all")
  have q_is_total := h.glo 21 (x := "is_total")
  have f_is_row := ok_is_row (P := P) (w := w) h
  have f_is_board_of := ok_is_board_of (P := P) (w := w) h
  have f_size_of := ok_size_of (P := P) (w := w) h
  have f_is_total := ok_is_total (P := P) (w := w) h
  obtain ⟨fd, F⟩ := h.says.base.def_ 14 (d := d_is_field_of) rfl
  refine ⟨fd, fn_ok F sc_is_field_of fun cdv A outer s H E hr => ?_, FunD.bindsN F fun _ _ _ _ _ _ us hl => match us, hl with | [_], _ => rfl, F.kp⟩
  exact (sb_cons (ss_if (st_pw (sw_or (st_not (st_val (sp_callV f_is_row q_is_row hr passes_def (sa_cons (sp_var 0) (sa_cons sp_int sa_nil))))) (sw_or (st_not (st_val (sp_isi rfl q_isinstance rfl q_str rfl (sp_ix (u80 hr) (sp_var 0) sp_int fun _ _ => rfl)))) (sw_or (st_cmp (op2_ne (u64 hr)) (sp_ix (u80 hr) (sp_var 0) sp_int fun _ _ => rfl) (sp_glob rfl q_FIELD r_FIELD p_FIELD) rfl) (sw_or1 (st_not (st_val (sp_callV f_is_board_of q_is_board_of hr passes_def (sa_cons (sp_ix (u80 hr) (sp_var 0) sp_int fun _ _ => rfl) sa_nil))))))))) (sb_one (ss_ret sp_bl)) sb_nil) (sb_cons (ss_if (st_pw (sw_or (st_not (st_val (sp_isi rfl q_isinstance rfl q_str rfl (sp_ix (u80 hr) (sp_var 0) sp_int fun _ _ => rfl)))) (sw_or1 (st_cmp (op2_ne (u64 hr)) (sp_callB opc_len rfl q_len rfl (sa_cons (sp_ix (u80 hr) (sp_var 0) sp_int fun _ _ => rfl) sa_nil)) (sp_callV f_size_of q_size_of hr passes_def (sa_cons (sp_ix (u80 hr) (sp_var 0) sp_int fun _ _ => rfl) sa_nil)) rfl)))) (sb_one (ss_ret sp_bl)) sb_nil) (sb_one (ss_ret (sp_and (sp_callB (opc_all rfl) rfl q_all rfl (sa_cons (sp_lc (own := [(("sign" : Str), 1)]) rfl sc_is_field_of.nd (si_any (sp_ix (u80 hr) (sp_var 0) sp_int fun _ _ => rfl)) (by show BlkOk N_is_field_of (defScope st_is_field_of) _ _; exact ⟨rfl, by decide +kernel, by decide +kernel, by decide +kernel, by decide +kernel⟩) (fun _ _ _ _ _ => (gt_nm sc_is_field_of.nd)) (fun _ _ _ _ _ => sts_nil) (fun _ _ _ _ _ => (sp_cmp (op2_in (u80 hr)) (sp_var 1) (sp_glob rfl q_SIGNS r_SIGNS p_SIGNS) rfl))) sa_nil)) (sp_one (sp_callV f_is_total q_is_total hr passes_def (sa_cons (sp_ix (u80 hr) (sp_var 0) sp_int fun _ _ => rfl) sa_nil))))))))
theorem sc_signed : FnScope N_signed [("field" : Str), ("sign" : Str)] (defScope st_signed) := ⟨rfl, rfl, rfl, by decide +kernel, rfl, by decide +kernel, by decide +kernel⟩
theorem ok_signed (h : Fx fa fn cs K mg base) : FnV P w K mg base ("signed", none) 1 [("field" : Str), ("sign" : Str)] (spF K g_signed) := by
  have q_enumerate := h.free 22 (x := "enumerate")
  obtain ⟨fd, F⟩ := h.says.base.def_ 15 (d := d_signed) rfl
  refine ⟨fd, fn_ok F sc_signed fun cdv A outer s H E hr => ?_, FunD.bindsN F fun _ _ _ _ _ _ us hl => match us, hl with | [_, _], _ => rfl, F.kp⟩
  exact (sb_one (ss_ret (sp_lc (own := [(("cell" : Str), 2), (("one" : Str), 3)]) rfl sc_signed.nd (si_enum rfl q_enumerate (sp_ix (u80 hr) (sp_var 0) sp_int fun _ _ => rfl)) (by show BlkOk N_signed (defScope st_signed) _ _; exact ⟨rfl, by decide +kernel, by decide +kernel, by decide +kernel, by decide +kernel⟩) (fun _ _ _ _ _ => (gt_tup rfl (gt_cons (gt_nm sc_signed.nd) (gt_cons (gt_nm sc_signed.nd) gt_nil)))) (fun _ _ _ _ _ => (sts_one (st_cmp (op2_eq (u64 hr)) (sp_var 3) (sp_var 1) rfl))) (fun _ _ _ _ _ => (sp_var 2)))))
theorem sc_covered_of : FnScope N_covered_of [("field" : Str)] (defScope st_covered_of) := ⟨rfl, rfl, rfl, by decide +kernel, rfl, by decide +kernel, by decide +kernel⟩
theorem ok_covered_of (h : Fx fa fn cs K mg base) : FnV P w K mg base ("covered_of", none) 2 [("field" : Str)] (spF K g_covered_of) := by
  have q_signed := h.glo 23 (x := "signed")
  obtain ⟨u_COVERED, v_COVERED, q_COVERED, r_COVERED, p_COVERED⟩ := h.con 11 (x := "COVERED")
  have f_signed := ok_signed (P := P) (w := w) h
  obtain ⟨fd, F⟩ := h.says.base.def_ 16 (d := d_covered_of) rfl
  refine ⟨fd, fn_ok F sc_covered_of fun cdv A outer s H E hr => ?_, FunD.bindsN F fun _ _ _ _ _ _ us hl => match us, hl with | [_], _ => rfl, F.kp⟩
  exact (sb_one (ss_ret (sp_callV f_signed q_signed hr passes_def (sa_cons (sp_var 0) (sa_cons (sp_glob rfl q_COVERED r_COVERED p_COVERED) sa_nil)))))
theorem sc_numbers_of : FnScope N_numbers_of [("field" : Str)] (defScope st_numbers_of) := ⟨rfl, rfl, rfl, by decide +kernel, rfl, by decide +kernel, by decide +kernel⟩
theorem ok_numbers_of (h : Fx fa fn cs K mg base) : FnV P w K mg base ("numbers_of", none) 1 [("field" : Str)] (spF K g_numbers_of) := by
  have q_enumerate := h.free 22 (x := "enumerate")
  obtain ⟨u_DIGITS, v_DIGITS, q_DIGITS, r_DIGITS, p_DIGITS⟩ := h.con 12 (x := "DIGITS")
  obtain ⟨fd, F⟩ := h.says.base.def_ 17 (d := d_numbers_of) rfl
  refine ⟨fd, fn_ok F sc_numbers_of fun cdv A outer s H E hr => ?_, FunD.bindsN F fun _ _ _ _ _ _ us hl => match us, hl with | [_], _ => rfl, F.kp⟩
  exact (sb_one (ss_ret (sp_lc (own := [(("cell" : Str), 1), (("sign" : Str), 2)]) rfl sc_numbers_of.nd (si_enum rfl q_enumerate (sp_ix (u80 hr) (sp_var 0) sp_int fun _ _ => rfl)) (by show BlkOk N_numbers_of (defScope st_numbers_of) _ _; exact ⟨rfl, by decide +kernel, by decide +kernel, by decide +kernel, by decide +kernel⟩) (fun _ _ _ _ _ => (gt_tup rfl (gt_cons (gt_nm sc_numbers_of.nd) (gt_cons (gt_nm sc_numbers_of.nd) gt_nil)))) (fun _ _ _ _ _ => (sts_one (st_cmp (op2_in (u80 hr)) (sp_var 2) (sp_glob rfl q_DIGITS r_DIGITS p_DIGITS) rfl))) (fun _ _ _ _ _ => (sp_tup (sa_cons (sp_var 1) (sa_cons (sp_bm PySem.F.plainAttrs_str PySem.F.slot_str_index PySem.F.type_str_index opm_sindex (sp_glob rfl q_DIGITS r_DIGITS p_DIGITS) (sa_cons (sp_var 2) sa_nil)) sa_nil)))))))
theorem sc_known_of : FnScope N_known_of [("field" : Str)] (defScope st_known_of) := ⟨rfl, rfl, rfl, by decide +kernel, rfl, by decide +kernel, by decide +kernel⟩
theorem ok_known_of (h : Fx fa fn cs K mg base) : FnV P w K mg base ("known_of", none) 2 [("field" : Str)] (spF K g_known_of) := by
  have q_signed := h.glo 23 (x := "signed")
  obtain ⟨u_MINE, v_MINE, q_MINE, r_MINE, p_MINE⟩ := h.con 13 (x := "MINE")
  have q_len := h.free 6 (x := "len")
  have f_signed := ok_signed (P := P) (w := w) h
  obtain ⟨fd, F⟩ := h.says.base.def_ 18 (d := d_known_of) rfl
  refine ⟨fd, fn_ok F sc_known_of fun cdv A outer s H E hr => ?_, FunD.bindsN F fun _ _ _ _ _ _ us hl => match us, hl with | [_], _ => rfl, F.kp⟩
  exact (sb_one (ss_ret (sp_callB opc_len rfl q_len rfl (sa_cons (sp_callV f_signed q_signed hr passes_def (sa_cons (sp_var 0) (sa_cons (sp_glob rfl q_MINE r_MINE p_MINE) sa_nil))) sa_nil))))
theorem sc_want_field : FnScope N_want_field [("value" : Str)] (defScope st_want_field) := ⟨rfl, rfl, rfl, by decide +kernel, rfl, by decide +kernel, by decide +kernel⟩
theorem ok_want_field (h : Fx fa fn cs K mg base) : FnV P w K mg base ("want_field", none) 7 [("value" : Str)] (spF K g_want_field) := by
  have q_is_field_of := h.glo 24 (x := "is_field_of")
  have f_is_field_of := ok_is_field_of (P := P) (w := w) h
  obtain ⟨fd, F⟩ := h.says.base.def_ 19 (d := d_want_field) rfl
  refine ⟨fd, fn_ok F sc_want_field fun cdv A outer s H E hr => ?_, FunD.bindsN F fun _ _ _ _ _ _ us hl => match us, hl with | [_], _ => rfl, F.kp⟩
  exact (sb_cons (ss_if (st_not (st_val (sp_callV f_is_field_of q_is_field_of hr passes_def (sa_cons (sp_var 0) sa_nil)))) (sb_one ss_never) sb_nil) (sb_one (ss_ret (sp_var 0))))
theorem sc_Bonds___init__ : FnScope N_Bonds___init__ [("self" : Str), ("field" : Str)] (defScope st_Bonds___init__) := ⟨rfl, rfl, rfl, by decide +kernel, rfl, by decide +kernel, by decide +kernel⟩
theorem ok_Bonds___init__ (h : Fx fa fn cs K mg base) : FnV P w K mg base ("Bonds", some "__init__") 4 [("self" : Str), ("field" : Str)] (spM K g_Bonds___init__) := by
  have q_all_beside := h.glo 25 (x := "all_beside")
  have q_covered_of := h.glo 26 (x := "covered_of")
  have c_Bonds := h.cls 27 (x := "Bonds")
  have n_Bonds_own_cells := h.noat 28 (x := "Bonds") (f := "own_cells")
  have n_Bonds_own_near := h.noat 29 (x := "Bonds") (f := "own_near")
  have n_Bonds_own_needs := h.noat 30 (x := "Bonds") (f := "own_needs")
  have q_numbers_of := h.glo 31 (x := "numbers_of")
  obtain ⟨u_COVERED, v_COVERED, q_COVERED, r_COVERED, p_COVERED⟩ := h.con 11 (x := "COVERED")
  obtain ⟨u_MINE, v_MINE, q_MINE, r_MINE, p_MINE⟩ := h.con 13 (x := "MINE")
  have q_len := h.free 6 (x := "len")
  have q_known_of := h.glo 32 (x := "known_of")
  have n_Bonds_own_total := h.noat 33 (x := "Bonds") (f := "own_total")
  have q_any := h.free 34 (x := "any")
  have n_Bonds_own_rim := h.noat 35 (x := "Bonds") (f := "own_rim")
  have f_all_beside := ok_all_beside (P := P) (w := w) h
  have f_covered_of := ok_covered_of (P := P) (w := w) h
  have f_numbers_of := ok_numbers_of (P := P) (w := w) h
  have f_known_of := ok_known_of (P := P) (w := w) h
  obtain ⟨fd, F⟩ := h.says.base.def_ 20 (d := d_Bonds___init__) rfl
  refine ⟨fd, fn_okM F sc_Bonds___init__ fun cdv A outer s H E hr => ?_, FunD.bindsN F fun _ _ _ _ _ _ us hl => match us, hl with | [_, _], _ => rfl, F.kp⟩
  exact (sb_cons (ss_set (i := 2) sc_Bonds___init__.nd (sp_fz (sp_callV f_all_beside q_all_beside hr passes_def (sa_cons (sp_ix (u80 hr) (sp_var 1) sp_int fun _ _ => rfl) sa_nil)))) (sb_cons (ss_fld (i := 0) c_Bonds n_Bonds_own_cells (sp_fz (sp_callV f_covered_of q_covered_of hr passes_def (sa_cons (sp_var 1) sa_nil)))) (sb_cons (ss_fld (i := 0) c_Bonds n_Bonds_own_near sp_dict0) (sb_cons (ss_fld (i := 0) c_Bonds n_Bonds_own_needs sp_dict0) (sb_cons (ss_for own_def rfl (si_any (sp_callV f_numbers_of q_numbers_of hr passes_def (sa_cons (sp_var 1) sa_nil))) (gt_tup rfl (gt_cons (gt_nm sc_Bonds___init__.nd) (gt_cons (gt_nm sc_Bonds___init__.nd) gt_nil))) (sb_cons (ss_put (pu := true) (u80 hr) (sr_f 0 c_Bonds n_Bonds_own_near) (sp_var 3) (sp_lc (own := [(("one" : Str), 5)]) rfl sc_Bonds___init__.nd (si_any (sp_ix (u80 hr) (sp_var 2) (sp_var 3) fun _ _ => rfl)) (by show BlkOk N_Bonds___init__ (defScope st_Bonds___init__) _ _; exact ⟨rfl, by decide +kernel, by decide +kernel, by decide +kernel, by decide +kernel⟩) (fun _ _ _ _ _ => (gt_nm sc_Bonds___init__.nd)) (fun _ _ _ _ _ => (sts_one (st_cmp (op2_eq (u64 hr)) (sp_ix (u80 hr) (sp_ix (u80 hr) (sp_var 1) sp_int fun _ _ => rfl) (sp_var 5) fun _ _ => rfl) (sp_glob rfl q_COVERED r_COVERED p_COVERED) rfl))) (fun _ _ _ _ _ => (sp_var 5)))) (sb_one (ss_put (pu := true) (u80 hr) (sr_f 0 c_Bonds n_Bonds_own_needs) (sp_var 3) (sp_bin op2_sub (sp_var 4) (sp_callB opc_len rfl q_len rfl (sa_cons (sp_lc (own := [(("one" : Str), 5)]) rfl sc_Bonds___init__.nd (si_any (sp_ix (u80 hr) (sp_var 2) (sp_var 3) fun _ _ => rfl)) (by show BlkOk N_Bonds___init__ (defScope st_Bonds___init__) _ _; exact ⟨rfl, by decide +kernel, by decide +kernel, by decide +kernel, by decide +kernel⟩) (fun _ _ _ _ _ => (gt_nm sc_Bonds___init__.nd)) (fun _ _ _ _ _ => (sts_one (st_cmp (op2_eq (u64 hr)) (sp_ix (u80 hr) (sp_ix (u80 hr) (sp_var 1) sp_int fun _ _ => rfl) (sp_var 5) fun _ _ => rfl) (sp_glob rfl q_MINE r_MINE p_MINE) rfl))) (fun _ _ _ _ _ => (sp_var 5))) sa_nil))))))) (sb_cons (ss_fld (i := 0) c_Bonds n_Bonds_own_total (sp_if (st_cmp op2_isN (sp_ix (u80 hr) (sp_var 1) sp_int fun _ _ => rfl) sp_non rfl) sp_non (sp_bin op2_sub (sp_ix (u80 hr) (sp_var 1) sp_int fun _ _ => rfl) (sp_callV f_known_of q_known_of hr passes_def (sa_cons (sp_var 1) sa_nil))))) (sb_one (ss_fld (i := 0) c_Bonds n_Bonds_own_rim (sp_fz (sp_lc (own := [(("cell" : Str), 3)]) rfl sc_Bonds___init__.nd (si_any (sp_fldO 0 c_Bonds n_Bonds_own_cells)) (by show BlkOk N_Bonds___init__ (defScope st_Bonds___init__) _ _; exact ⟨rfl, by decide +kernel, by decide +kernel, by decide +kernel, by decide +kernel⟩) (fun _ _ _ _ _ => (gt_nm sc_Bonds___init__.nd)) (fun _ _ _ _ _ => (sts_one (st_val (sp_lend 0 (sp_lock 0 (some ("own_near" : Str)) (sp_callB (opc_any rfl) rfl q_any rfl (sa_cons (sp_lc (own := [(("some" : Str), 6)]) rfl sc_Bonds___init__.nd (si_vals (sp_fld c_Bonds n_Bonds_own_near (sp_var 0))) (by show BlkOk N_Bonds___init__ (relS _ (defScope st_Bonds___init__)) _ _; exact ⟨rfl, by decide +kernel, by decide +kernel, by decide +kernel, by decide +kernel⟩) (fun _ _ _ _ _ => (gt_nm sc_Bonds___init__.nd)) (fun _ _ _ _ _ => sts_nil) (fun _ _ _ _ _ => (sp_cmp (op2_in (u80 hr)) (sp_var 3) (sp_var 6) rfl))) sa_nil))))))) (fun _ _ _ _ _ => (sp_var 3))))))))))))
theorem sc_Bonds_cells : FnScope N_Bonds_cells [("self" : Str)] (defScope st_Bonds_cells) := ⟨rfl, rfl, rfl, by decide +kernel, rfl, by decide +kernel, by decide +kernel⟩
theorem ok_Bonds_cells (h : Fx fa fn cs K mg base) : FnV P w K mg base ("Bonds", some "cells") 1 [("self" : Str)] (spF K g_Bonds_cells) := by
  have c_Bonds := h.cls 27 (x := "Bonds")
  have n_Bonds_own_cells := h.noat 28 (x := "Bonds") (f := "own_cells")
  obtain ⟨fd, F⟩ := h.says.base.def_ 21 (d := d_Bonds_cells) rfl
  refine ⟨fd, fn_ok F sc_Bonds_cells fun cdv A outer s H E hr => ?_, FunD.bindsN F fun _ _ _ _ _ _ us hl => match us, hl with | [_], _ => rfl, F.kp⟩
  exact (sb_one (ss_ret (sp_fld c_Bonds n_Bonds_own_cells (sp_var 0))))
theorem sc_Bonds_rim : FnScope N_Bonds_rim [("self" : Str)] (defScope st_Bonds_rim) := ⟨rfl, rfl, rfl, by decide +kernel, rfl, by decide +kernel, by decide +kernel⟩
theorem ok_Bonds_rim (h : Fx fa fn cs K mg base) : FnV P w K mg base ("Bonds", some "rim") 1 [("self" : Str)] (spF K g_Bonds_rim) := by
  have c_Bonds := h.cls 27 (x := "Bonds")
  have n_Bonds_own_rim := h.noat 35 (x := "Bonds") (f := "own_rim")
  obtain ⟨fd, F⟩ := h.says.base.def_ 22 (d := d_Bonds_rim) rfl
  refine ⟨fd, fn_ok F sc_Bonds_rim fun cdv A outer s H E hr => ?_, FunD.bindsN F fun _ _ _ _ _ _ us hl => match us, hl with | [_], _ => rfl, F.kp⟩
  exact (sb_one (ss_ret (sp_fld c_Bonds n_Bonds_own_rim (sp_var 0))))
theorem sc_Bonds_far : FnScope N_Bonds_far [("self" : Str)] (defScope st_Bonds_far) := ⟨rfl, rfl, rfl, by decide +kernel, rfl, by decide +kernel, by decide +kernel⟩
theorem ok_Bonds_far (h : Fx fa fn cs K mg base) : FnV P w K mg base ("Bonds", some "far") 1 [("self" : Str)] (spF K g_Bonds_far) := by
  have c_Bonds := h.cls 27 (x := "Bonds")
  have n_Bonds_own_cells := h.noat 28 (x := "Bonds") (f := "own_cells")
  have n_Bonds_own_rim := h.noat 35 (x := "Bonds") (f := "own_rim")
  obtain ⟨fd, F⟩ := h.says.base.def_ 23 (d := d_Bonds_far) rfl
  refine ⟨fd, fn_ok F sc_Bonds_far fun cdv A outer s H E hr => ?_, FunD.bindsN F fun _ _ _ _ _ _ us hl => match us, hl with | [_], _ => rfl, F.kp⟩
  exact (sb_one (ss_ret (sp_lc (own := [(("cell" : Str), 1)]) rfl sc_Bonds_far.nd (si_any (sp_fld c_Bonds n_Bonds_own_cells (sp_var 0))) (by show BlkOk N_Bonds_far (defScope st_Bonds_far) _ _; exact ⟨rfl, by decide +kernel, by decide +kernel, by decide +kernel, by decide +kernel⟩) (fun _ _ _ _ _ => (gt_nm sc_Bonds_far.nd)) (fun _ _ _ _ _ => (sts_one (st_cmp (op2_nin (u80 hr)) (sp_var 1) (sp_fld c_Bonds n_Bonds_own_rim (sp_var 0)) rfl))) (fun _ _ _ _ _ => (sp_var 1)))))
theorem sc_Bonds_opened : FnScope N_Bonds_opened [("self" : Str)] (defScope st_Bonds_opened) := ⟨rfl, rfl, rfl, by decide +kernel, rfl, by decide +kernel, by decide +kernel⟩
theorem ok_Bonds_opened (h : Fx fa fn cs K mg base) : FnV P w K mg base ("Bonds", some "opened") 1 [("self" : Str)] (spF K g_Bonds_opened) := by
  have c_Bonds := h.cls 27 (x := "Bonds")
  have n_Bonds_own_near := h.noat 29 (x := "Bonds") (f := "own_near")
  have q_sorted := h.free 16 (x := "sorted")
  obtain ⟨fd, F⟩ := h.says.base.def_ 24 (d := d_Bonds_opened) rfl
  refine ⟨fd, fn_ok F sc_Bonds_opened fun cdv A outer s H E hr => ?_, FunD.bindsN F fun _ _ _ _ _ _ us hl => match us, hl with | [_], _ => rfl, F.kp⟩
  exact (sb_one (ss_ret (sp_callB (opc_sortedB hr rfl) rfl q_sorted rfl (sa_cons (sp_fld c_Bonds n_Bonds_own_near (sp_var 0)) sa_nil))))
theorem sc_Bonds_near : FnScope N_Bonds_near [("self" : Str), ("cell" : Str)] (defScope st_Bonds_near) := ⟨rfl, rfl, rfl, by decide +kernel, rfl, by decide +kernel, by decide +kernel⟩
theorem ok_Bonds_near (h : Fx fa fn cs K mg base) : FnV P w K mg base ("Bonds", some "near") 1 [("self" : Str), ("cell" : Str)] (spF K g_Bonds_near) := by
  have c_Bonds := h.cls 27 (x := "Bonds")
  have n_Bonds_own_near := h.noat 29 (x := "Bonds") (f := "own_near")
  obtain ⟨fd, F⟩ := h.says.base.def_ 25 (d := d_Bonds_near) rfl
  refine ⟨fd, fn_ok F sc_Bonds_near fun cdv A outer s H E hr => ?_, FunD.bindsN F fun _ _ _ _ _ _ us hl => match us, hl with | [_, _], _ => rfl, F.kp⟩
  exact (sb_one (ss_ret (sp_ix (u80 hr) (sp_fld c_Bonds n_Bonds_own_near (sp_var 0)) (sp_var 1) fun _ _ => rfl)))
theorem sc_Bonds_need : FnScope N_Bonds_need [("self" : Str), ("cell" : Str)] (defScope st_Bonds_need) := ⟨rfl, rfl, rfl, by decide +kernel, rfl, by decide +kernel, by decide +kernel⟩
theorem ok_Bonds_need (h : Fx fa fn cs K mg base) : FnV P w K mg base ("Bonds", some "need") 1 [("self" : Str), ("cell" : Str)] (spF K g_Bonds_need) := by
  have c_Bonds := h.cls 27 (x := "Bonds")
  have n_Bonds_own_needs := h.noat 30 (x := "Bonds") (f := "own_needs")
  obtain ⟨fd, F⟩ := h.says.base.def_ 26 (d := d_Bonds_need) rfl
  refine ⟨fd, fn_ok F sc_Bonds_need fun cdv A outer s H E hr => ?_, FunD.bindsN F fun _ _ _ _ _ _ us hl => match us, hl with | [_, _], _ => rfl, F.kp⟩
  exact (sb_one (ss_ret (sp_ix (u80 hr) (sp_fld c_Bonds n_Bonds_own_needs (sp_var 0)) (sp_var 1) fun _ _ => rfl)))
theorem sc_Bonds_total : FnScope N_Bonds_total [("self" : Str)] (defScope st_Bonds_total) := ⟨rfl, rfl, rfl, by decide +kernel, rfl, by decide +kernel, by decide +kernel⟩
theorem ok_Bonds_total (h : Fx fa fn cs K mg base) : FnV P w K mg base ("Bonds", some "total") 1 [("self" : Str)] (spF K g_Bonds_total) := by
  have c_Bonds := h.cls 27 (x := "Bonds")
  have n_Bonds_own_total := h.noat 33 (x := "Bonds") (f := "own_total")
  obtain ⟨fd, F⟩ := h.says.base.def_ 27 (d := d_Bonds_total) rfl
  refine ⟨fd, fn_ok F sc_Bonds_total fun cdv A outer s H E hr => ?_, FunD.bindsN F fun _ _ _ _ _ _ us hl => match us, hl with | [_], _ => rfl, F.kp⟩
  exact (sb_one (ss_ret (sp_fld c_Bonds n_Bonds_own_total (sp_var 0))))
theorem sc_Bonds_is_broken : FnScope N_Bonds_is_broken [("self" : Str), ("cells" : Str), ("need" : Str), ("guesses" : Str)] (defScope st_Bonds_is_broken) := ⟨rfl, rfl, rfl, by decide +kernel, rfl, by decide +kernel, by decide +kernel⟩
theorem ok_Bonds_is_broken (h : Fx fa fn cs K mg base) : FnV P w K mg base ("Bonds", some "is_broken") 1 [("self" : Str), ("cells" : Str), ("need" : Str), ("guesses" : Str)] (spF K g_Bonds_is_broken) := by
  have q_len := h.free 6 (x := "len")
  obtain ⟨fd, F⟩ := h.says.base.def_ 28 (d := d_Bonds_is_broken) rfl
  refine ⟨fd, fn_ok F sc_Bonds_is_broken fun cdv A outer s H E hr => ?_, FunD.bindsN F fun _ _ _ _ _ _ us hl => match us, hl with | [_, _, _, _], _ => rfl, F.kp⟩
  exact (sb_cons (ss_set (i := 4) sc_Bonds_is_broken.nd (sp_callB opc_len rfl q_len rfl (sa_cons (sp_lc (own := [(("one" : Str), 6)]) rfl sc_Bonds_is_broken.nd (si_any (sp_var 1)) (by show BlkOk N_Bonds_is_broken (defScope st_Bonds_is_broken) _ _; exact ⟨rfl, by decide +kernel, by decide +kernel, by decide +kernel, by decide +kernel⟩) (fun _ _ _ _ _ => (gt_nm sc_Bonds_is_broken.nd)) (fun _ _ _ _ _ => (sts_one (st_cmp op2_isB (sp_get1 (u80 hr) (sp_var 3) (sp_var 6) ⟨rfl, rfl, rfl, rfl⟩) sp_bl rfl))) (fun _ _ _ _ _ => (sp_var 6))) sa_nil))) (sb_cons (ss_set (i := 5) sc_Bonds_is_broken.nd (sp_callB opc_len rfl q_len rfl (sa_cons (sp_lc (own := [(("one" : Str), 6)]) rfl sc_Bonds_is_broken.nd (si_any (sp_var 1)) (by show BlkOk N_Bonds_is_broken (defScope st_Bonds_is_broken) _ _; exact ⟨rfl, by decide +kernel, by decide +kernel, by decide +kernel, by decide +kernel⟩) (fun _ _ _ _ _ => (gt_nm sc_Bonds_is_broken.nd)) (fun _ _ _ _ _ => (sts_one (st_cmp (op2_nin (u80 hr)) (sp_var 6) (sp_var 3) rfl))) (fun _ _ _ _ _ => (sp_var 6))) sa_nil))) (sb_one (ss_ret (sp_or (sp_cmp (op2_gtA (u64 hr)) (sp_var 4) (sp_var 2) rfl) (sp_one (sp_cmp (op2_ltA (u64 hr)) (sp_bin op2_add (sp_var 4) (sp_var 5)) (sp_var 2) rfl)))))))
theorem sc_Bonds_broken_number : FnScope N_Bonds_broken_number [("self" : Str), ("guesses" : Str)] (defScope st_Bonds_broken_number) := ⟨rfl, rfl, rfl, by decide +kernel, rfl, by decide +kernel, by decide +kernel⟩
theorem ok_Bonds_broken_number (h : Fx fa fn cs K mg base) : FnV P w K mg base ("Bonds", some "broken_number") 2 [("self" : Str), ("guesses" : Str)] (spF K g_Bonds_broken_number) := by
  have c_Bonds := h.cls 27 (x := "Bonds")
  have m_Bonds_opened := h.meth 36 (x := "Bonds") (f := "opened")
  have m_Bonds_is_broken := h.meth 37 (x := "Bonds") (f := "is_broken")
  have m_Bonds_near := h.meth 38 (x := "Bonds") (f := "near")
  have m_Bonds_need := h.meth 39 (x := "Bonds") (f := "need")
  have f_Bonds_opened := ok_Bonds_opened (P := P) (w := w) h
  have f_Bonds_is_broken := ok_Bonds_is_broken (P := P) (w := w) h
  have f_Bonds_near := ok_Bonds_near (P := P) (w := w) h
  have f_Bonds_need := ok_Bonds_need (P := P) (w := w) h
  obtain ⟨fd, F⟩ := h.says.base.def_ 29 (d := d_Bonds_broken_number) rfl
  refine ⟨fd, fn_ok F sc_Bonds_broken_number fun cdv A outer s H E hr => ?_, FunD.bindsN F fun _ _ _ _ _ _ us hl => match us, hl with | [_, _], _ => rfl, F.kp⟩
  exact (sb_cons (ss_for own_def rfl (si_any (sp_methV0 f_Bonds_opened c_Bonds m_Bonds_opened hr passes_def (sp_var 0))) (gt_nm sc_Bonds_broken_number.nd) (sb_one (ss_if (st_val (sp_methV f_Bonds_is_broken c_Bonds m_Bonds_is_broken hr passes_def (sp_var 0) (sa_cons (sp_methV f_Bonds_near c_Bonds m_Bonds_near hr passes_def (sp_var 0) (sa_cons (sp_var 2) sa_nil)) (sa_cons (sp_methV f_Bonds_need c_Bonds m_Bonds_need hr passes_def (sp_var 0) (sa_cons (sp_var 2) sa_nil)) (sa_cons (sp_var 1) sa_nil))))) (sb_one (ss_ret (sp_var 2))) sb_nil))) (sb_one (ss_ret sp_non)))
theorem sc_Bonds_is_total_broken : FnScope N_Bonds_is_total_broken [("self" : Str), ("guesses" : Str)] (defScope st_Bonds_is_total_broken) := ⟨rfl, rfl, rfl, by decide +kernel, rfl, by decide +kernel, by decide +kernel⟩
theorem ok_Bonds_is_total_broken (h : Fx fa fn cs K mg base) : FnV P w K mg base ("Bonds", some "is_total_broken") 2 [("self" : Str), ("guesses" : Str)] (spF K g_Bonds_is_total_broken) := by
  have c_Bonds := h.cls 27 (x := "Bonds")
  have n_Bonds_own_total := h.noat 33 (x := "Bonds") (f := "own_total")
  have m_Bonds_is_broken := h.meth 37 (x := "Bonds") (f := "is_broken")
  have n_Bonds_own_cells := h.noat 28 (x := "Bonds") (f := "own_cells")
  have f_Bonds_is_broken := ok_Bonds_is_broken (P := P) (w := w) h
  obtain ⟨fd, F⟩ := h.says.base.def_ 30 (d := d_Bonds_is_total_broken) rfl
  refine ⟨fd, fn_ok F sc_Bonds_is_total_broken fun cdv A outer s H E hr => ?_, FunD.bindsN F fun _ _ _ _ _ _ us hl => match us, hl with | [_, _], _ => rfl, F.kp⟩
  exact (sb_one (ss_ret (sp_and (sp_cmp op2_notN (sp_fld c_Bonds n_Bonds_own_total (sp_var 0)) sp_non rfl) (sp_one (sp_methV f_Bonds_is_broken c_Bonds m_Bonds_is_broken hr passes_def (sp_var 0) (sa_cons (sp_fld c_Bonds n_Bonds_own_cells (sp_var 0)) (sa_cons (sp_fld c_Bonds n_Bonds_own_total (sp_var 0)) (sa_cons (sp_var 1) sa_nil))))))))
theorem sc_Bonds_broken : FnScope N_Bonds_broken [("self" : Str), ("guesses" : Str)] (defScope st_Bonds_broken) := ⟨rfl, rfl, rfl, by decide +kernel, rfl, by decide +kernel, by decide +kernel⟩
theorem ok_Bonds_broken (h : Fx fa fn cs K mg base) : FnV P w K mg base ("Bonds", some "broken") 3 [("self" : Str), ("guesses" : Str)] (spF K g_Bonds_broken) := by
  have c_Bonds := h.cls 27 (x := "Bonds")
  have m_Bonds_broken_number := h.meth 40 (x := "Bonds") (f := "broken_number")
  have m_Bonds_is_total_broken := h.meth 41 (x := "Bonds") (f := "is_total_broken")
  obtain ⟨u_TOTAL, v_TOTAL, q_TOTAL, r_TOTAL, p_TOTAL⟩ := h.con 14 (x := "TOTAL")
  have f_Bonds_broken_number := ok_Bonds_broken_number (P := P) (w := w) h
  have f_Bonds_is_total_broken := ok_Bonds_is_total_broken (P := P) (w := w) h
  obtain ⟨fd, F⟩ := h.says.base.def_ 31 (d := d_Bonds_broken) rfl
  refine ⟨fd, fn_ok F sc_Bonds_broken fun cdv A outer s H E hr => ?_, FunD.bindsN F fun _ _ _ _ _ _ us hl => match us, hl with | [_, _], _ => rfl, F.kp⟩
  exact (sb_cons (ss_set (i := 2) sc_Bonds_broken.nd (sp_fz (sp_methV f_Bonds_broken_number c_Bonds m_Bonds_broken_number hr passes_def (sp_var 0) (sa_cons (sp_var 1) sa_nil)))) (sb_cons (ss_if (st_cmp op2_notN (sp_var 2) sp_non rfl) (sb_one (ss_ret (sp_var 2))) sb_nil) (sb_one (ss_ret (sp_if (st_val (sp_methV f_Bonds_is_total_broken c_Bonds m_Bonds_is_total_broken hr passes_def (sp_var 0) (sa_cons (sp_var 1) sa_nil))) (sp_glob rfl q_TOTAL r_TOTAL p_TOTAL) sp_non)))))
theorem sc_Bonds_next_cell : FnScope N_Bonds_next_cell [("self" : Str), ("guesses" : Str)] (defScope st_Bonds_next_cell) := ⟨rfl, rfl, rfl, by decide +kernel, rfl, by decide +kernel, by decide +kernel⟩
theorem ok_Bonds_next_cell (h : Fx fa fn cs K mg base) : FnV P w K mg base ("Bonds", some "next_cell") 2 [("self" : Str), ("guesses" : Str)] (spF K g_Bonds_next_cell) := by
  have c_Bonds := h.cls 27 (x := "Bonds")
  have m_Bonds_opened := h.meth 36 (x := "Bonds") (f := "opened")
  have m_Bonds_near := h.meth 38 (x := "Bonds") (f := "near")
  have q_len := h.free 6 (x := "len")
  have f_Bonds_opened := ok_Bonds_opened (P := P) (w := w) h
  have f_Bonds_near := ok_Bonds_near (P := P) (w := w) h
  obtain ⟨fd, F⟩ := h.says.base.def_ 32 (d := d_Bonds_next_cell) rfl
  refine ⟨fd, fn_ok F sc_Bonds_next_cell fun cdv A outer s H E hr => ?_, FunD.bindsN F fun _ _ _ _ _ _ us hl => match us, hl with | [_, _], _ => rfl, F.kp⟩
  exact (sb_cons (ss_set (i := 2) sc_Bonds_next_cell.nd sp_non) (sb_cons (ss_for own_def rfl (si_any (sp_methV0 f_Bonds_opened c_Bonds m_Bonds_opened hr passes_def (sp_var 0))) (gt_nm sc_Bonds_next_cell.nd) (sb_cons (ss_setLc (own := [(("one" : Str), 5)]) rfl sc_Bonds_next_cell.nd (si_any (sp_methV f_Bonds_near c_Bonds m_Bonds_near hr passes_def (sp_var 0) (sa_cons (sp_var 3) sa_nil))) (by show BlkOk N_Bonds_next_cell (defScope st_Bonds_next_cell) _ _; exact ⟨rfl, by decide +kernel, by decide +kernel, by decide +kernel, by decide +kernel⟩) (fun _ _ _ _ _ => (gt_nm sc_Bonds_next_cell.nd)) (fun _ _ _ _ _ => (sts_one (st_cmp (op2_nin (u80 hr)) (sp_var 5) (sp_var 1) rfl))) (fun _ _ _ _ _ => (sp_var 5)) (i := 4)) (sb_fz 4 (sb_one (ss_if (st_pw (sw_and (st_cmp (op2_ne (u64 hr)) (sp_var 4) (sp_lst sa_nil) rfl) (sw_and1 (st_pw (sw_or (st_cmp op2_isN (sp_var 2) sp_non rfl) (sw_or1 (st_cmp (op2_ltA (u64 hr)) (sp_callB opc_len rfl q_len rfl (sa_cons (sp_var 4) sa_nil)) (sp_callB opc_len rfl q_len rfl (sa_cons (sp_var 2) sa_nil)) rfl))))))) (sb_one (ss_set (i := 2) sc_Bonds_next_cell.nd (sp_var 4))) sb_nil))))) (sb_one (ss_ret (sp_if (st_cmp op2_isN (sp_var 2) sp_non rfl) sp_non (sp_ix (u80 hr) (sp_var 2) sp_int fun _ _ => rfl))))))
theorem sc_is_laying_of : FnScope N_is_laying_of [("field" : Str), ("value" : Str)] (defScope st_is_laying_of) := ⟨rfl, rfl, rfl, by decide +kernel, rfl, by decide +kernel, by decide +kernel⟩
theorem ok_is_laying_of (h : Fx fa fn cs K mg base) : FnV P w K mg base ("is_laying_of", none) 6 [("field" : Str), ("value" : Str)] (spF K g_is_laying_of) := by
  have q_Bonds := h.glo 42 (x := "Bonds")
  have k_Bonds := h.mkr 43 (x := "Bonds")
  have q_isinstance := h.free 0 (x := "isinstance")
  have q_tuple := h.free 5 (x := "tuple")
  have q_int := h.free 1 (x := "int")
  have q_bool := h.free 2 (x := "bool")
  have c_Bonds := h.cls 27 (x := "Bonds")
  have m_Bonds_cells := h.meth 44 (x := "Bonds") (f := "cells")
  have q_all := h.free 8 (x := "all")
  have q_is_rising := h.glo 11 (x := "is_rising")
  have m_Bonds_broken := h.meth 45 (x := "Bonds") (f := "broken")
  have f_Bonds___init__ := ok_Bonds___init__ (P := P) (w := w) h
  have f_Bonds_cells := ok_Bonds_cells (P := P) (w := w) h
  have f_is_rising := ok_is_rising (P := P) (w := w) h
  have f_Bonds_broken := ok_Bonds_broken (P := P) (w := w) h
  obtain ⟨fd, F⟩ := h.says.base.def_ 33 (d := d_is_laying_of) rfl
  refine ⟨fd, fn_ok F sc_is_laying_of fun cdv A outer s H E hr => ?_, FunD.bindsN F fun _ _ _ _ _ _ us hl => match us, hl with | [_, _], _ => rfl, F.kp⟩
  exact (sb_cons (ss_set (i := 2) sc_is_laying_of.nd (sp_fz (sp_makeV f_Bonds___init__ k_Bonds q_Bonds hr passes_def (sa_cons (sp_var 0) sa_nil)))) (sb_cons (ss_if (st_not (st_val (sp_isi rfl q_isinstance rfl q_tuple rfl (sp_var 1)))) (sb_one (ss_ret sp_bl)) sb_nil) (sb_cons (ss_if (st_not (st_val (sp_callB (opc_all rfl) rfl q_all rfl (sa_cons (sp_lc (own := [(("cell" : Str), 3)]) rfl sc_is_laying_of.nd (si_any (sp_var 1)) (by show BlkOk N_is_laying_of (defScope st_is_laying_of) _ _; exact ⟨rfl, by decide +kernel, by decide +kernel, by decide +kernel, by decide +kernel⟩) (fun _ _ _ _ _ => (gt_nm sc_is_laying_of.nd)) (fun _ _ _ _ _ => sts_nil) (fun _ _ _ _ _ => (sp_and (sp_isi rfl q_isinstance rfl q_int rfl (sp_var 3)) (sp_and (sp_not (sp_isi rfl q_isinstance rfl q_bool rfl (sp_var 3))) (sp_one (sp_cmp (op2_in (u80 hr)) (sp_var 3) (sp_methV0 f_Bonds_cells c_Bonds m_Bonds_cells hr passes_blk (sp_var 2)) rfl)))))) sa_nil)))) (sb_one (ss_ret sp_bl)) sb_nil) (sb_cons (ss_if (st_not (st_val (sp_callV f_is_rising q_is_rising hr passes_def (sa_cons (sp_var 1) sa_nil)))) (sb_one (ss_ret sp_bl)) sb_nil) (sb_one (ss_ret (sp_cmp op2_isN (sp_methV f_Bonds_broken c_Bonds m_Bonds_broken hr passes_def (sp_var 2) (sa_cons (sp_dc (own := [(("cell" : Str), 3)]) rfl sc_is_laying_of.nd (si_any (sp_methV0 f_Bonds_cells c_Bonds m_Bonds_cells hr passes_def (sp_var 2))) (by show BlkOk N_is_laying_of (defScope st_is_laying_of) _ _; exact ⟨rfl, by decide +kernel, by decide +kernel, by decide +kernel, by decide +kernel⟩) (fun _ _ _ _ _ => (gt_nm sc_is_laying_of.nd)) (fun _ _ _ _ _ => sts_nil) (fun _ _ _ _ _ => (sp_var 3)) (fun _ _ _ _ _ => (sp_cmp (op2_in (u80 hr)) (sp_var 3) (sp_var 1) rfl))) sa_nil)) sp_non rfl)))))))
theorem sc_are_guesses_of : FnScope N_are_guesses_of [("field" : Str), ("value" : Str)] (defScope st_are_guesses_of) := ⟨rfl, rfl, rfl, by decide +kernel, rfl, by decide +kernel, by decide +kernel⟩
theorem ok_are_guesses_of (h : Fx fa fn cs K mg base) : FnV P w K mg base ("are_guesses_of", none) 3 [("field" : Str), ("value" : Str)] (spF K g_are_guesses_of) := by
  have q_isinstance := h.free 0 (x := "isinstance")
  have q_dict := h.free 46 (x := "dict")
  have q_covered_of := h.glo 26 (x := "covered_of")
  have q_int := h.free 1 (x := "int")
  have q_bool := h.free 2 (x := "bool")
  have f_covered_of := ok_covered_of (P := P) (w := w) h
  obtain ⟨fd, F⟩ := h.says.base.def_ 34 (d := d_are_guesses_of) rfl
  refine ⟨fd, fn_okL 1 F sc_are_guesses_of fun cdv A outer s H E hr => ?_, FunD.bindsN F fun _ _ _ _ _ _ us hl => match us, hl with | [_, _], _ => rfl, F.kp⟩
  exact (sb_cons (ss_if (st_not (st_val (sp_isi rfl q_isinstance rfl q_dict rfl (sp_var 1)))) (sb_one (ss_ret sp_bl)) sb_nil) (sb_cons (ss_set (i := 2) sc_are_guesses_of.nd (sp_fz (sp_callV f_covered_of q_covered_of hr passes_def (sa_cons (sp_var 0) sa_nil)))) (sb_cons (ss_for own_def rfl (si_any (sp_var 1)) (gt_nm sc_are_guesses_of.nd) (sb_cons (ss_if (st_pw (sw_or (st_not (st_val (sp_isi rfl q_isinstance rfl q_int rfl (sp_var 3)))) (sw_or (st_val (sp_isi rfl q_isinstance rfl q_bool rfl (sp_var 3))) (sw_or1 (st_cmp (op2_nin (u80 hr)) (sp_var 3) (sp_var 2) rfl))))) (sb_one (ss_ret sp_bl)) sb_nil) (sb_one (ss_if (st_not (st_val (sp_isi rfl q_isinstance rfl q_bool rfl (sp_ix (u80 hr) (sp_var 1) (sp_var 3) fun _ _ => rfl)))) (sb_one (ss_ret sp_bl)) sb_nil)))) (sb_one (ss_ret sp_bl)))))
theorem sc_want_rim : FnScope N_want_rim [("field" : Str)] (defScope st_want_rim) := ⟨rfl, rfl, rfl, by decide +kernel, rfl, by decide +kernel, by decide +kernel⟩
theorem ok_want_rim (h : Fx fa fn cs K mg base) : FnV P w K mg base ("want_rim", none) 6 [("field" : Str)] (spF K g_want_rim) := by
  have q_want_at_most := h.glo 47 (x := "want_at_most")
  obtain ⟨u_MOST_RIM, v_MOST_RIM, q_MOST_RIM, r_MOST_RIM, p_MOST_RIM⟩ := h.con 15 (x := "MOST_RIM")
  have c_Bonds := h.cls 27 (x := "Bonds")
  have m_Bonds_rim := h.meth 48 (x := "Bonds") (f := "rim")
  have q_Bonds := h.glo 42 (x := "Bonds")
  have k_Bonds := h.mkr 43 (x := "Bonds")
  have q_len := h.free 6 (x := "len")
  have f_want_at_most := ok_want_at_most (P := P) (w := w) h
  have f_Bonds_rim := ok_Bonds_rim (P := P) (w := w) h
  have f_Bonds___init__ := ok_Bonds___init__ (P := P) (w := w) h
  obtain ⟨fd, F⟩ := h.says.base.def_ 35 (d := d_want_rim) rfl
  refine ⟨fd, fn_ok F sc_want_rim fun cdv A outer s H E hr => ?_, FunD.bindsN F fun _ _ _ _ _ _ us hl => match us, hl with | [_], _ => rfl, F.kp⟩
  exact (sb_one (ss_expr (sp_callV f_want_at_most q_want_at_most hr passes_def (sa_cons (sp_str (by decide)) (sa_cons (sp_glob rfl q_MOST_RIM r_MOST_RIM p_MOST_RIM) (sa_cons (sp_callB opc_len rfl q_len rfl (sa_cons (sp_methV0 f_Bonds_rim c_Bonds m_Bonds_rim hr passes_def (sp_fz (sp_makeV f_Bonds___init__ k_Bonds q_Bonds hr passes_def (sa_cons (sp_var 0) sa_nil)))) sa_nil)) sa_nil))))))
theorem sc_want_guesses : FnScope N_want_guesses [("field" : Str), ("value" : Str)] (defScope st_want_guesses) := ⟨rfl, rfl, rfl, by decide +kernel, rfl, by decide +kernel, by decide +kernel⟩
theorem ok_want_guesses (h : Fx fa fn cs K mg base) : FnV P w K mg base ("want_guesses", none) 4 [("field" : Str), ("value" : Str)] (spF K g_want_guesses) := by
  have q_are_guesses_of := h.glo 49 (x := "are_guesses_of")
  have f_are_guesses_of := ok_are_guesses_of (P := P) (w := w) h
  obtain ⟨fd, F⟩ := h.says.base.def_ 36 (d := d_want_guesses) rfl
  refine ⟨fd, fn_ok F sc_want_guesses fun cdv A outer s H E hr => ?_, FunD.bindsN F fun _ _ _ _ _ _ us hl => match us, hl with | [_, _], _ => rfl, F.kp⟩
  exact (sb_cons (ss_if (st_not (st_val (sp_callV f_are_guesses_of q_are_guesses_of hr passes_def (sa_cons (sp_var 0) (sa_cons (sp_var 1) sa_nil))))) (sb_one ss_never) sb_nil) (sb_one (ss_ret (sp_var 1))))
theorem sc_choices : FnScope N_choices [("many" : Str), ("some" : Str)] (defScope st_choices) := ⟨rfl, rfl, rfl, by decide +kernel, rfl, by decide +kernel, by decide +kernel⟩
theorem ok_choices (h : Fx fa fn cs K mg base) : FnV P w K mg base ("choices", none) 1 [("many" : Str), ("some" : Str)] (spF K g_choices) := by
  have q_range := h.free 12 (x := "range")
  obtain ⟨fd, F⟩ := h.says.base.def_ 37 (d := d_choices) rfl
  refine ⟨fd, fn_ok F sc_choices fun cdv A outer s H E hr => ?_, FunD.bindsN F fun _ _ _ _ _ _ us hl => match us, hl with | [_, _], _ => rfl, F.kp⟩
  exact (sb_cons (ss_if (st_pw (sw_or (st_cmp (op2_ltA (u64 hr)) (sp_var 1) sp_int rfl) (sw_or1 (st_cmp (op2_gtA (u64 hr)) (sp_var 1) (sp_var 0) rfl)))) (sb_one (ss_ret sp_int)) sb_nil) (sb_cons (ss_set (i := 2) sc_choices.nd sp_int) (sb_cons (ss_for own_def rfl (si_rg1 rfl q_range (sp_var 1)) (gt_nm sc_choices.nd) (sb_one (ss_set (i := 2) sc_choices.nd (sp_bin op2_fdiv (sp_bin op2_mul2 (sp_var 2) (sp_bin op2_sub (sp_var 0) (sp_var 3))) (sp_bin op2_add (sp_var 3) sp_int))))) (sb_one (ss_ret (sp_var 2))))))
theorem sc_far_choices : FnScope N_far_choices [("bonds" : Str), ("guesses" : Str)] (defScope st_far_choices) := ⟨rfl, rfl, rfl, by decide +kernel, rfl, by decide +kernel, by decide +kernel⟩
theorem ok_far_choices (h : Fx fa fn cs K mg base) : FnV P w K mg base ("far_choices", none) 2 [("bonds" : Str), ("guesses" : Str)] (spF K g_far_choices) := by
  have c_Bonds := h.cls 27 (x := "Bonds")
  have m_Bonds_far := h.meth 50 (x := "Bonds") (f := "far")
  have q_len := h.free 6 (x := "len")
  have m_Bonds_total := h.meth 51 (x := "Bonds") (f := "total")
  have q_range := h.free 12 (x := "range")
  have q_choices := h.glo 52 (x := "choices")
  have f_Bonds_far := ok_Bonds_far (P := P) (w := w) h
  have f_Bonds_total := ok_Bonds_total (P := P) (w := w) h
  have f_choices := ok_choices (P := P) (w := w) h
  obtain ⟨fd, F⟩ := h.says.base.def_ 38 (d := d_far_choices) rfl
  refine ⟨fd, fn_ok F sc_far_choices fun cdv A outer s H E hr => ?_, FunD.bindsN F fun _ _ _ _ _ _ us hl => match us, hl with | [_, _], _ => rfl, F.kp⟩
  exact (sb_cons (ss_set (i := 2) sc_far_choices.nd (sp_callB opc_len rfl q_len rfl (sa_cons (sp_lc (own := [(("cell" : Str), 6)]) rfl sc_far_choices.nd (si_any (sp_methV0 f_Bonds_far c_Bonds m_Bonds_far hr passes_def (sp_var 0))) (by show BlkOk N_far_choices (defScope st_far_choices) _ _; exact ⟨rfl, by decide +kernel, by decide +kernel, by decide +kernel, by decide +kernel⟩) (fun _ _ _ _ _ => (gt_nm sc_far_choices.nd)) (fun _ _ _ _ _ => (sts_one (st_cmp (op2_nin (u80 hr)) (sp_var 6) (sp_var 1) rfl))) (fun _ _ _ _ _ => (sp_var 6))) sa_nil))) (sb_cons (ss_if (st_cmp op2_isN (sp_methV0 f_Bonds_total c_Bonds m_Bonds_total hr passes_def (sp_var 0)) sp_non rfl) (sb_cons (ss_set (i := 3) sc_far_choices.nd sp_int) (sb_cons (ss_for own_def rfl (si_rg1 rfl q_range (sp_var 2)) (gt_nm sc_far_choices.nd) (sb_one (ss_set (i := 3) sc_far_choices.nd (sp_bin op2_mul2 sp_int (sp_var 3))))) (sb_one (ss_ret (sp_var 3))))) sb_nil) (sb_cons (ss_set (i := 5) sc_far_choices.nd (sp_lock 1 none (sp_callB opc_len rfl q_len rfl (sa_cons (sp_lc (own := [(("cell" : Str), 6)]) rfl sc_far_choices.nd (si_any (sp_var 1)) (by show BlkOk N_far_choices (defScope st_far_choices) _ _; exact ⟨rfl, by decide +kernel, by decide +kernel, by decide +kernel, by decide +kernel⟩) (fun _ _ _ _ _ => (gt_nm sc_far_choices.nd)) (fun _ _ _ _ _ => (sts_one (st_val (sp_ix (u80 hr) (sp_var 1) (sp_var 6) fun _ _ => rfl)))) (fun _ _ _ _ _ => (sp_var 6))) sa_nil)))) (sb_one (ss_ret (sp_callV f_choices q_choices hr passes_def (sa_cons (sp_var 2) (sa_cons (sp_bin op2_sub (sp_methV0 f_Bonds_total c_Bonds m_Bonds_total hr passes_def (sp_var 0)) (sp_var 5)) sa_nil))))))))
theorem sc_with_guess : FnScope N_with_guess [("guesses" : Str), ("cell" : Str), ("is_mined" : Str)] (defScope st_with_guess) := ⟨rfl, rfl, rfl, by decide +kernel, rfl, by decide +kernel, by decide +kernel⟩
theorem ok_with_guess (h : Fx fa fn cs K mg base) : FnV P w K mg base ("with_guess", none) 1 [("guesses" : Str), ("cell" : Str), ("is_mined" : Str)] (spF K g_with_guess) := by
  have q_dict := h.free 46 (x := "dict")
  obtain ⟨fd, F⟩ := h.says.base.def_ 39 (d := d_with_guess) rfl
  refine ⟨fd, fn_ok F sc_with_guess fun cdv A outer s H E hr => ?_, FunD.bindsN F fun _ _ _ _ _ _ us hl => match us, hl with | [_, _, _], _ => rfl, F.kp⟩
  exact (sb_cons (ss_set (i := 3) sc_with_guess.nd (sp_callTy (opc_dict rfl) rfl q_dict rfl (sa_cons (sp_var 0) sa_nil))) (sb_cons (ss_put (pu := false) (u80 hr) (sr_s 3) (sp_var 1) (sp_var 2)) (sb_one (ss_retV (i := 3)))))
theorem sc_many_by : FnScope N_many_by [("bonds" : Str), ("guesses" : Str)] (defScope st_many_by) := ⟨rfl, rfl, rfl, by decide +kernel, rfl, by decide +kernel, by decide +kernel⟩
theorem okn_many_by (h : Fx fa fn cs K mg base) : ∀ n, FnV P w K mg base ("many_by", none) (4 + n) [("bonds" : Str), ("guesses" : Str)] (spF K (gn_many_by n)) := by
  have c_Bonds := h.cls 27 (x := "Bonds")
  have m_Bonds_broken := h.meth 45 (x := "Bonds") (f := "broken")
  have m_Bonds_next_cell := h.meth 53 (x := "Bonds") (f := "next_cell")
  have q_far_choices := h.glo 54 (x := "far_choices")
  have q_many_by := h.glo 55 (x := "many_by")
  have q_with_guess := h.glo 56 (x := "with_guess")
  have f_Bonds_broken := ok_Bonds_broken (P := P) (w := w) h
  have f_Bonds_next_cell := ok_Bonds_next_cell (P := P) (w := w) h
  have f_far_choices := ok_far_choices (P := P) (w := w) h
  have f_with_guess := ok_with_guess (P := P) (w := w) h
  obtain ⟨fd, F⟩ := h.says.base.def_ 40 (d := d_many_by) rfl
  intro n
  induction n with
  | zero => exact ⟨fd, fn_none F sc_many_by (k := 3), FunD.bindsN F fun _ _ _ _ _ _ us hl => match us, hl with | [_, _], _ => rfl, F.kp⟩
  | succ n f_many_by =>
    refine ⟨fd, fn_ok F sc_many_by (k := 4 + n) fun cdv A outer s H E hr => ?_, FunD.bindsN F fun _ _ _ _ _ _ us hl => match us, hl with | [_, _], _ => rfl, F.kp⟩
    exact (sb_cons (ss_if (st_cmp op2_notN (sp_methV f_Bonds_broken c_Bonds m_Bonds_broken hr passes_def (sp_var 0) (sa_cons (sp_var 1) sa_nil) (hjk := by omega)) sp_non rfl) (sb_one (ss_ret sp_int)) sb_nil) (sb_cons (ss_set (i := 2) sc_many_by.nd (sp_fz (sp_methV f_Bonds_next_cell c_Bonds m_Bonds_next_cell hr passes_def (sp_var 0) (sa_cons (sp_var 1) sa_nil) (hjk := by omega)))) (sb_cons (ss_if (st_cmp op2_isN (sp_var 2) sp_non rfl) (sb_one (ss_ret (sp_callV f_far_choices q_far_choices hr passes_def (sa_cons (sp_var 0) (sa_cons (sp_var 1) sa_nil)) (hjk := by omega)))) sb_nil) (sb_one (ss_ret (sp_bin op2_add (sp_callV f_many_by q_many_by hr passes_def (sa_cons (sp_var 0) (sa_cons (sp_callV f_with_guess q_with_guess hr passes_def (sa_cons (sp_var 1) (sa_cons (sp_var 2) (sa_cons sp_bl sa_nil))) (hjk := by omega)) sa_nil)) (hjk := by omega)) (sp_callV f_many_by q_many_by hr passes_def (sa_cons (sp_var 0) (sa_cons (sp_callV f_with_guess q_with_guess hr passes_def (sa_cons (sp_var 1) (sa_cons (sp_var 2) (sa_cons sp_bl sa_nil))) (hjk := by omega)) sa_nil)) (hjk := by omega))))))))
theorem ok_many_by (h : Fx fa fn cs K mg base) : FnV P w K mg base ("many_by", none) 74 [("bonds" : Str), ("guesses" : Str)] (spF K g_many_by) := okn_many_by h 70
theorem sc_goes_with : FnScope N_goes_with [("laying" : Str), ("guesses" : Str)] (defScope st_goes_with) := ⟨rfl, rfl, rfl, by decide +kernel, rfl, by decide +kernel, by decide +kernel⟩
theorem ok_goes_with (h : Fx fa fn cs K mg base) : FnV P w K mg base ("goes_with", none) 1 [("laying" : Str), ("guesses" : Str)] (spF K g_goes_with) := by
  have q_all := h.free 8 (x := "all")
  obtain ⟨fd, F⟩ := h.says.base.def_ 41 (d := d_goes_with) rfl
  refine ⟨fd, fn_ok F sc_goes_with fun cdv A outer s H E hr => ?_, FunD.bindsN F fun _ _ _ _ _ _ us hl => match us, hl with | [_, _], _ => rfl, F.kp⟩
  exact (sb_one (ss_ret (sp_lock 1 none (sp_callB (opc_all rfl) rfl q_all rfl (sa_cons (sp_lc (own := [(("cell" : Str), 2)]) rfl sc_goes_with.nd (si_any (sp_var 1)) (by show BlkOk N_goes_with (defScope st_goes_with) _ _; exact ⟨rfl, by decide +kernel, by decide +kernel, by decide +kernel, by decide +kernel⟩) (fun _ _ _ _ _ => (gt_nm sc_goes_with.nd)) (fun _ _ _ _ _ => sts_nil) (fun _ _ _ _ _ => (sp_cmp (op2_eq (u64 hr)) (sp_cmp (op2_in (u80 hr)) (sp_var 2) (sp_var 0) rfl) (sp_ix (u80 hr) (sp_var 1) (sp_var 2) fun _ _ => rfl) rfl))) sa_nil)))))
theorem sc_with_cells : FnScope N_with_cells [("guesses" : Str), ("cells" : Str), ("is_mined" : Str)] (defScope st_with_cells) := ⟨rfl, rfl, rfl, by decide +kernel, rfl, by decide +kernel, by decide +kernel⟩
theorem ok_with_cells (h : Fx fa fn cs K mg base) : FnV P w K mg base ("with_cells", none) 1 [("guesses" : Str), ("cells" : Str), ("is_mined" : Str)] (spF K g_with_cells) := by
  have q_dict := h.free 46 (x := "dict")
  obtain ⟨fd, F⟩ := h.says.base.def_ 42 (d := d_with_cells) rfl
  refine ⟨fd, fn_ok F sc_with_cells fun cdv A outer s H E hr => ?_, FunD.bindsN F fun _ _ _ _ _ _ us hl => match us, hl with | [_, _, _], _ => rfl, F.kp⟩
  exact (sb_cons (ss_set (i := 3) sc_with_cells.nd (sp_callTy (opc_dict rfl) rfl q_dict rfl (sa_cons (sp_var 0) sa_nil))) (sb_cons (ss_for own_def rfl (si_any (sp_var 1)) (gt_nm sc_with_cells.nd) (sb_cons (ss_if (st_cmp (op2_ne (u64 hr)) (sp_lend 3 (sp_get2 (u80 hr) (sp_var 3) (sp_var 4) (sp_var 2) ⟨rfl, rfl, rfl, rfl⟩)) (sp_var 2) rfl) (sb_one (ss_ret sp_non)) sb_nil) (sb_one (ss_put (pu := false) (u80 hr) (sr_s 3) (sp_var 4) (sp_var 2))))) (sb_one (ss_retV (i := 3)))))
theorem sc_many_with : FnScope N_many_with [("bonds" : Str), ("guesses" : Str)] (defScope st_many_with) := ⟨rfl, rfl, rfl, by decide +kernel, rfl, by decide +kernel, by decide +kernel⟩
theorem ok_many_with (h : Fx fa fn cs K mg base) : FnV P w K mg base ("many_with", none) 75 [("bonds" : Str), ("guesses" : Str)] (spF K g_many_with) := by
  have q_many_by := h.glo 55 (x := "many_by")
  have f_many_by := ok_many_by (P := P) (w := w) h
  obtain ⟨fd, F⟩ := h.says.base.def_ 43 (d := d_many_with) rfl
  refine ⟨fd, fn_ok F sc_many_with fun cdv A outer s H E hr => ?_, FunD.bindsN F fun _ _ _ _ _ _ us hl => match us, hl with | [_, _], _ => rfl, F.kp⟩
  exact (sb_one (ss_ret (sp_if (st_cmp op2_isN (sp_var 1) sp_non rfl) sp_int (sp_callV f_many_by q_many_by hr passes_def (sa_cons (sp_var 0) (sa_cons (sp_var 1) sa_nil))))))
theorem sc_ends_at : FnScope N_ends_at [("bonds" : Str), ("guesses" : Str), ("mines" : Str)] (defScope st_ends_at) := ⟨rfl, rfl, rfl, by decide +kernel, rfl, by decide +kernel, by decide +kernel⟩
theorem ok_ends_at (h : Fx fa fn cs K mg base) : FnV P w K mg base ("ends_at", none) 76 [("bonds" : Str), ("guesses" : Str), ("mines" : Str)] (spF K g_ends_at) := by
  have c_Bonds := h.cls 27 (x := "Bonds")
  have m_Bonds_cells := h.meth 44 (x := "Bonds") (f := "cells")
  have q_with_cells := h.glo 57 (x := "with_cells")
  have q_many_with := h.glo 58 (x := "many_with")
  have f_Bonds_cells := ok_Bonds_cells (P := P) (w := w) h
  have f_with_cells := ok_with_cells (P := P) (w := w) h
  have f_many_with := ok_many_with (P := P) (w := w) h
  obtain ⟨fd, F⟩ := h.says.base.def_ 44 (d := d_ends_at) rfl
  refine ⟨fd, fn_ok F sc_ends_at fun cdv A outer s H E hr => ?_, FunD.bindsN F fun _ _ _ _ _ _ us hl => match us, hl with | [_, _, _], _ => rfl, F.kp⟩
  exact (sb_cons (ss_setLc (own := [(("cell" : Str), 5)]) rfl sc_ends_at.nd (si_any (sp_methV0 f_Bonds_cells c_Bonds m_Bonds_cells hr passes_def (sp_var 0))) (by show BlkOk N_ends_at (defScope st_ends_at) _ _; exact ⟨rfl, by decide +kernel, by decide +kernel, by decide +kernel, by decide +kernel⟩) (fun _ _ _ _ _ => (gt_nm sc_ends_at.nd)) (fun _ _ _ _ _ => (sts_one (st_cmp (op2_nin (u80 hr)) (sp_var 5) (sp_var 2) rfl))) (fun _ _ _ _ _ => (sp_var 5)) (i := 3)) (sb_fz 3 (sb_cons (ss_set (i := 4) sc_ends_at.nd (sp_fz (sp_callV f_with_cells q_with_cells hr passes_def (sa_cons (sp_var 1) (sa_cons (sp_var 2) (sa_cons sp_bl sa_nil)))))) (sb_one (ss_ret (sp_callV f_many_with q_many_with hr passes_def (sa_cons (sp_var 0) (sa_cons (sp_if (st_cmp op2_isN (sp_var 4) sp_non rfl) sp_non (sp_callV f_with_cells q_with_cells hr passes_def (sa_cons (sp_var 4) (sa_cons (sp_var 3) (sa_cons sp_bl sa_nil))))) sa_nil))))))))
theorem sc_next_many : FnScope N_next_many [("bonds" : Str), ("guesses" : Str), ("mines" : Str), ("cell" : Str)] (defScope st_next_many) := ⟨rfl, rfl, rfl, by decide +kernel, rfl, by decide +kernel, by decide +kernel⟩
theorem ok_next_many (h : Fx fa fn cs K mg base) : FnV P w K mg base ("next_many", none) 76 [("bonds" : Str), ("guesses" : Str), ("mines" : Str), ("cell" : Str)] (spF K g_next_many) := by
  have c_Bonds := h.cls 27 (x := "Bonds")
  have m_Bonds_cells := h.meth 44 (x := "Bonds") (f := "cells")
  have q_with_cells := h.glo 57 (x := "with_cells")
  have q_many_with := h.glo 58 (x := "many_with")
  have f_Bonds_cells := ok_Bonds_cells (P := P) (w := w) h
  have f_with_cells := ok_with_cells (P := P) (w := w) h
  have f_many_with := ok_many_with (P := P) (w := w) h
  obtain ⟨fd, F⟩ := h.says.base.def_ 45 (d := d_next_many) rfl
  refine ⟨fd, fn_ok F sc_next_many fun cdv A outer s H E hr => ?_, FunD.bindsN F fun _ _ _ _ _ _ us hl => match us, hl with | [_, _, _, _], _ => rfl, F.kp⟩
  exact (sb_cons (ss_setLc (own := [(("one" : Str), 6)]) rfl sc_next_many.nd (si_any (sp_methV0 f_Bonds_cells c_Bonds m_Bonds_cells hr passes_def (sp_var 0))) (by show BlkOk N_next_many (defScope st_next_many) _ _; exact ⟨rfl, by decide +kernel, by decide +kernel, by decide +kernel, by decide +kernel⟩) (fun _ _ _ _ _ => (gt_nm sc_next_many.nd)) (fun _ _ _ _ _ => (sts_one (st_pw (sw_and (st_cmp (op2_ltA (u64 hr)) (sp_var 6) (sp_var 3) rfl) (sw_and1 (st_cmp (op2_nin (u80 hr)) (sp_var 6) (sp_var 2) rfl)))))) (fun _ _ _ _ _ => (sp_var 6)) (i := 4)) (sb_fz 4 (sb_cons (ss_set (i := 5) sc_next_many.nd (sp_fz (sp_callV f_with_cells q_with_cells hr passes_def (sa_cons (sp_var 1) (sa_cons (sp_bin op2_add (sp_var 2) (sp_lst (sa_cons (sp_var 3) sa_nil))) (sa_cons sp_bl sa_nil)))))) (sb_one (ss_ret (sp_callV f_many_with q_many_with hr passes_def (sa_cons (sp_var 0) (sa_cons (sp_if (st_cmp op2_isN (sp_var 5) sp_non rfl) sp_non (sp_callV f_with_cells q_with_cells hr passes_def (sa_cons (sp_var 5) (sa_cons (sp_var 4) (sa_cons sp_bl sa_nil))))) sa_nil))))))))
theorem sc_behind_of : FnScope N_behind_of [("bonds" : Str), ("mines" : Str)] (defScope st_behind_of) := ⟨rfl, rfl, rfl, by decide +kernel, rfl, by decide +kernel, by decide +kernel⟩
theorem ok_behind_of (h : Fx fa fn cs K mg base) : FnV P w K mg base ("behind_of", none) 2 [("bonds" : Str), ("mines" : Str)] (spF K g_behind_of) := by
  have c_Bonds := h.cls 27 (x := "Bonds")
  have m_Bonds_cells := h.meth 44 (x := "Bonds") (f := "cells")
  have f_Bonds_cells := ok_Bonds_cells (P := P) (w := w) h
  obtain ⟨fd, F⟩ := h.says.base.def_ 46 (d := d_behind_of) rfl
  refine ⟨fd, fn_ok F sc_behind_of fun cdv A outer s H E hr => ?_, FunD.bindsN F fun _ _ _ _ _ _ us hl => match us, hl with | [_, _], _ => rfl, F.kp⟩
  exact (sb_one (ss_ret (sp_lc (own := [(("cell" : Str), 2)]) rfl sc_behind_of.nd (si_any (sp_methV0 f_Bonds_cells c_Bonds m_Bonds_cells hr passes_def (sp_var 0))) (by show BlkOk N_behind_of (defScope st_behind_of) _ _; exact ⟨rfl, by decide +kernel, by decide +kernel, by decide +kernel, by decide +kernel⟩) (fun _ _ _ _ _ => (gt_nm sc_behind_of.nd)) (fun _ _ _ _ _ => (sts_one (st_pw (sw_or (st_cmp (op2_eq (u64 hr)) (sp_var 1) (sp_lst sa_nil) rfl) (sw_or1 (st_cmp (op2_gtA (u64 hr)) (sp_var 2) (sp_ix (u80 hr) (sp_var 1) (sp_neg sp_int) fun _ _ => rfl) rfl)))))) (fun _ _ _ _ _ => (sp_var 2)))))
theorem sc_rank_by : FnScope N_rank_by [("bonds" : Str), ("guesses" : Str), ("laying" : Str)] (defScope st_rank_by) := ⟨rfl, rfl, rfl, by decide +kernel, rfl, by decide +kernel, by decide +kernel⟩
theorem ok_rank_by (h : Fx fa fn cs K mg base) : FnV P w K mg base ("rank_by", none) 77 [("bonds" : Str), ("guesses" : Str), ("laying" : Str)] (spF K g_rank_by) := by
  have q_ends_at := h.glo 59 (x := "ends_at")
  have q_behind_of := h.glo 60 (x := "behind_of")
  have q_next_many := h.glo 61 (x := "next_many")
  have f_ends_at := ok_ends_at (P := P) (w := w) h
  have f_behind_of := ok_behind_of (P := P) (w := w) h
  have f_next_many := ok_next_many (P := P) (w := w) h
  obtain ⟨fd, F⟩ := h.says.base.def_ 47 (d := d_rank_by) rfl
  refine ⟨fd, fn_ok F sc_rank_by fun cdv A outer s H E hr => ?_, FunD.bindsN F fun _ _ _ _ _ _ us hl => match us, hl with | [_, _, _], _ => rfl, F.kp⟩
  exact (sb_cons (ss_par2 (i := 3) (j := 4) rfl sc_rank_by.nd (sa_cons sp_int (sa_cons (sp_lst sa_nil) sa_nil))) (sb_cons (ss_for own_def rfl (si_any (sp_var 2)) (gt_nm sc_rank_by.nd) (sb_cons (ss_aug sc_rank_by.nd op2_iadd (sp_lend 4 (sp_callV f_ends_at q_ends_at hr passes_def (sa_cons (sp_var 0) (sa_cons (sp_var 1) (sa_cons (sp_var 4) sa_nil))))) (i := 3)) (sb_cons (ss_for own_def rfl (si_any (sp_lend 4 (sp_callV f_behind_of q_behind_of hr passes_def (sa_cons (sp_var 0) (sa_cons (sp_var 4) sa_nil))))) (gt_nm sc_rank_by.nd) (sb_one (ss_if (st_cmp (op2_ltA (u64 hr)) (sp_var 6) (sp_var 5) rfl) (sb_one (ss_aug sc_rank_by.nd op2_iadd (sp_lend 4 (sp_callV f_next_many q_next_many hr passes_def (sa_cons (sp_var 0) (sa_cons (sp_var 1) (sa_cons (sp_var 4) (sa_cons (sp_var 6) sa_nil)))))) (i := 3))) sb_nil))) (sb_one (ss_expr (sp_app (pu := false) (sr_s 4) (sp_var 5))))))) (sb_one (ss_ret (sp_var 3)))))
theorem sc_laying_by : FnScope N_laying_by [("bonds" : Str), ("guesses" : Str), ("rank" : Str)] (defScope st_laying_by) := ⟨rfl, rfl, rfl, by decide +kernel, rfl, by decide +kernel, by decide +kernel⟩
theorem ok_laying_by (h : Fx fa fn cs K mg base) : FnV P w K mg base ("laying_by", none) 77 [("bonds" : Str), ("guesses" : Str), ("rank" : Str)] (spF K g_laying_by) := by
  have q_ends_at := h.glo 59 (x := "ends_at")
  have q_tuple := h.free 5 (x := "tuple")
  have q_behind_of := h.glo 60 (x := "behind_of")
  have q_next_many := h.glo 61 (x := "next_many")
  have f_ends_at := ok_ends_at (P := P) (w := w) h
  have f_behind_of := ok_behind_of (P := P) (w := w) h
  have f_next_many := ok_next_many (P := P) (w := w) h
  obtain ⟨fd, F⟩ := h.says.base.def_ 48 (d := d_laying_by) rfl
  refine ⟨fd, fn_ok F sc_laying_by fun cdv A outer s H E hr => ?_, FunD.bindsN F fun _ _ _ _ _ _ us hl => match us, hl with | [_, _, _], _ => rfl, F.kp⟩
  exact (sb_cons (ss_par2 (i := 3) (j := 4) rfl sc_laying_by.nd (sa_cons (sp_lst sa_nil) (sa_cons (sp_var 2) sa_nil))) (sb_one (ss_while own_def (st_val sp_bl) (sb_cons (ss_set (i := 5) sc_laying_by.nd (sp_lend 3 (sp_callV f_ends_at q_ends_at hr passes_def (sa_cons (sp_var 0) (sa_cons (sp_var 1) (sa_cons (sp_var 3) sa_nil)))))) (sb_cons (ss_if (st_cmp (op2_ltA (u64 hr)) (sp_var 4) (sp_var 5) rfl) (sb_one (ss_ret (sp_callTy opc_tuple rfl q_tuple rfl (sa_cons (sp_varF 3) sa_nil)))) sb_nil) (sb_cons (ss_aug sc_laying_by.nd op2_isub (sp_var 5) (i := 4)) (sb_one (ss_for own_def rfl (si_any (sp_lend 3 (sp_callV f_behind_of q_behind_of hr passes_def (sa_cons (sp_var 0) (sa_cons (sp_var 3) sa_nil))))) (gt_nm sc_laying_by.nd) (sb_cons (ss_set (i := 7) sc_laying_by.nd (sp_lend 3 (sp_callV f_next_many q_next_many hr passes_def (sa_cons (sp_var 0) (sa_cons (sp_var 1) (sa_cons (sp_var 3) (sa_cons (sp_var 6) sa_nil))))))) (sb_cons (ss_if (st_cmp (op2_ltA (u64 hr)) (sp_var 4) (sp_var 7) rfl) (sb_cons (ss_expr (sp_app (pu := false) (sr_s 3) (sp_var 6))) (sb_one ss_break)) sb_nil) (sb_one (ss_aug sc_laying_by.nd op2_isub (sp_var 7) (i := 4)))))))))))))
theorem sc_want_both : FnScope N_want_both [("field" : Str), ("guesses" : Str)] (defScope st_want_both) := ⟨rfl, rfl, rfl, by decide +kernel, rfl, by decide +kernel, by decide +kernel⟩
theorem ok_want_both (h : Fx fa fn cs K mg base) : FnV P w K mg base ("want_both", none) 8 [("field" : Str), ("guesses" : Str)] (spF K g_want_both) := by
  have q_want_guesses := h.glo 62 (x := "want_guesses")
  have q_want_field := h.glo 63 (x := "want_field")
  have q_want_rim := h.glo 64 (x := "want_rim")
  have q_Bonds := h.glo 42 (x := "Bonds")
  have k_Bonds := h.mkr 43 (x := "Bonds")
  have f_want_guesses := ok_want_guesses (P := P) (w := w) h
  have f_want_field := ok_want_field (P := P) (w := w) h
  have f_want_rim := ok_want_rim (P := P) (w := w) h
  have f_Bonds___init__ := ok_Bonds___init__ (P := P) (w := w) h
  obtain ⟨fd, F⟩ := h.says.base.def_ 49 (d := d_want_both) rfl
  refine ⟨fd, fn_ok F sc_want_both fun cdv A outer s H E hr => ?_, FunD.bindsN F fun _ _ _ _ _ _ us hl => match us, hl with | [_, _], _ => rfl, F.kp⟩
  exact (sb_cons (ss_expr (sp_callV f_want_guesses q_want_guesses hr passes_def (sa_cons (sp_callV f_want_field q_want_field hr passes_def (sa_cons (sp_var 0) sa_nil)) (sa_cons (sp_var 1) sa_nil)))) (sb_cons (ss_expr (sp_callV f_want_rim q_want_rim hr passes_def (sa_cons (sp_var 0) sa_nil))) (sb_one (ss_ret (sp_makeV f_Bonds___init__ k_Bonds q_Bonds hr passes_def (sa_cons (sp_var 0) sa_nil))))))
theorem sc_many_layings : FnScope N_many_layings [("field" : Str), ("guesses" : Str)] (defScope st_many_layings) := ⟨rfl, rfl, rfl, by decide +kernel, rfl, by decide +kernel, by decide +kernel⟩
theorem okb_many_layings (h : Fx fa fn cs K mg base) : ∃ fd, Dv.FnOk P w K mg base (L2.CX P w) 75 (He.fAd K ("many_layings", none)) fd [("field" : Str), ("guesses" : Str)] (spF K g_many_layings) ∧ Binds K fd [("field" : Str), ("guesses" : Str)] [] ∧ PySem.W.keepIn K (.ref (He.fAd K ("many_layings", none))) = true ∧ KwB fd [("field" : Str), ("guesses" : Str)] [("guesses" : Str), ("field" : Str)] [1, 0] := by
  have q_many_by := h.glo 55 (x := "many_by")
  have q_want_both := h.glo 65 (x := "want_both")
  have f_many_by := ok_many_by (P := P) (w := w) h
  have f_want_both := ok_want_both (P := P) (w := w) h
  obtain ⟨fd, F⟩ := h.says.base.def_ 50 (d := d_many_layings) rfl
  refine ⟨fd, fn_ok F sc_many_layings fun cdv A outer s H E hr => ?_, FunD.bindsN F fun _ _ _ _ _ _ us hl => match us, hl with | [_, _], _ => rfl, F.kp, kwb_of F rfl (by decide) fun _ _ _ _ _ _ ws hl => match ws, hl with | [_, _], _ => rfl⟩
  exact (sb_one (ss_ret (sp_callV f_many_by q_many_by hr passes_def (sa_cons (sp_callV f_want_both q_want_both hr passes_def (sa_cons (sp_var 0) (sa_cons (sp_var 1) sa_nil))) (sa_cons (sp_var 1) sa_nil)))))
theorem ok_many_layings (h : Fx fa fn cs K mg base) : FnV P w K mg base ("many_layings", none) 75 [("field" : Str), ("guesses" : Str)] (spF K g_many_layings) := by
  obtain ⟨fd, a, b, c, _⟩ := okb_many_layings (P := P) (w := w) h
  exact ⟨fd, a, b, c⟩
theorem okk_many_layings_0 (h : Fx fa fn cs K mg base) : FnK P w K mg base ("many_layings", none) 75 [("field" : Str), ("guesses" : Str)] [("guesses" : Str), ("field" : Str)] [1, 0] (spF K g_many_layings) := by
  obtain ⟨fd, a, _, c, d⟩ := okb_many_layings (P := P) (w := w) h
  exact ⟨fd, a, d, c⟩
theorem sc_laying_at : FnScope N_laying_at [("field" : Str), ("guesses" : Str), ("rank" : Str)] (defScope st_laying_at) := ⟨rfl, rfl, rfl, by decide +kernel, rfl, by decide +kernel, by decide +kernel⟩
theorem okb_laying_at (h : Fx fa fn cs K mg base) : ∃ fd, Dv.FnOk P w K mg base (L2.CX P w) 78 (He.fAd K ("laying_at", none)) fd [("field" : Str), ("guesses" : Str), ("rank" : Str)] (spF K g_laying_at) ∧ Binds K fd [("field" : Str), ("guesses" : Str), ("rank" : Str)] [] ∧ PySem.W.keepIn K (.ref (He.fAd K ("laying_at", none))) = true ∧ KwB fd [("field" : Str), ("guesses" : Str), ("rank" : Str)] [("rank" : Str), ("guesses" : Str), ("field" : Str)] [2, 1, 0] := by
  have q_want_both := h.glo 65 (x := "want_both")
  have q_is_below := h.glo 10 (x := "is_below")
  have q_many_by := h.glo 55 (x := "many_by")
  have q_laying_by := h.glo 66 (x := "laying_by")
  have f_want_both := ok_want_both (P := P) (w := w) h
  have f_is_below := ok_is_below (P := P) (w := w) h
  have f_many_by := ok_many_by (P := P) (w := w) h
  have f_laying_by := ok_laying_by (P := P) (w := w) h
  obtain ⟨fd, F⟩ := h.says.base.def_ 51 (d := d_laying_at) rfl
  refine ⟨fd, fn_ok F sc_laying_at fun cdv A outer s H E hr => ?_, FunD.bindsN F fun _ _ _ _ _ _ us hl => match us, hl with | [_, _, _], _ => rfl, F.kp, kwb_of F rfl (by decide) fun _ _ _ _ _ _ ws hl => match ws, hl with | [_, _, _], _ => rfl⟩
  exact (sb_cons (ss_set (i := 3) sc_laying_at.nd (sp_fz (sp_callV f_want_both q_want_both hr passes_def (sa_cons (sp_var 0) (sa_cons (sp_var 1) sa_nil))))) (sb_cons (ss_if (st_not (st_val (sp_callV f_is_below q_is_below hr passes_def (sa_cons (sp_var 2) (sa_cons (sp_callV f_many_by q_many_by hr passes_def (sa_cons (sp_var 3) (sa_cons (sp_var 1) sa_nil))) sa_nil))))) (sb_one ss_never) sb_nil) (sb_one (ss_ret (sp_callV f_laying_by q_laying_by hr passes_def (sa_cons (sp_var 3) (sa_cons (sp_var 1) (sa_cons (sp_var 2) sa_nil))))))))
theorem ok_laying_at (h : Fx fa fn cs K mg base) : FnV P w K mg base ("laying_at", none) 78 [("field" : Str), ("guesses" : Str), ("rank" : Str)] (spF K g_laying_at) := by
  obtain ⟨fd, a, b, c, _⟩ := okb_laying_at (P := P) (w := w) h
  exact ⟨fd, a, b, c⟩
theorem okk_laying_at_0 (h : Fx fa fn cs K mg base) : FnK P w K mg base ("laying_at", none) 78 [("field" : Str), ("guesses" : Str), ("rank" : Str)] [("rank" : Str), ("guesses" : Str), ("field" : Str)] [2, 1, 0] (spF K g_laying_at) := by
  obtain ⟨fd, a, _, c, d⟩ := okb_laying_at (P := P) (w := w) h
  exact ⟨fd, a, d, c⟩
theorem sc_rank_of : FnScope N_rank_of [("field" : Str), ("guesses" : Str), ("laying" : Str)] (defScope st_rank_of) := ⟨rfl, rfl, rfl, by decide +kernel, rfl, by decide +kernel, by decide +kernel⟩
theorem okb_rank_of (h : Fx fa fn cs K mg base) : ∃ fd, Dv.FnOk P w K mg base (L2.CX P w) 78 (He.fAd K ("rank_of", none)) fd [("field" : Str), ("guesses" : Str), ("laying" : Str)] (spF K g_rank_of) ∧ Binds K fd [("field" : Str), ("guesses" : Str), ("laying" : Str)] [] ∧ PySem.W.keepIn K (.ref (He.fAd K ("rank_of", none))) = true ∧ KwB fd [("field" : Str), ("guesses" : Str), ("laying" : Str)] [("laying" : Str), ("guesses" : Str), ("field" : Str)] [2, 1, 0] := by
  have q_want_both := h.glo 65 (x := "want_both")
  have q_is_laying_of := h.glo 67 (x := "is_laying_of")
  have q_goes_with := h.glo 68 (x := "goes_with")
  have q_rank_by := h.glo 69 (x := "rank_by")
  have f_want_both := ok_want_both (P := P) (w := w) h
  have f_is_laying_of := ok_is_laying_of (P := P) (w := w) h
  have f_goes_with := ok_goes_with (P := P) (w := w) h
  have f_rank_by := ok_rank_by (P := P) (w := w) h
  obtain ⟨fd, F⟩ := h.says.base.def_ 52 (d := d_rank_of) rfl
  refine ⟨fd, fn_ok F sc_rank_of fun cdv A outer s H E hr => ?_, FunD.bindsN F fun _ _ _ _ _ _ us hl => match us, hl with | [_, _, _], _ => rfl, F.kp, kwb_of F rfl (by decide) fun _ _ _ _ _ _ ws hl => match ws, hl with | [_, _, _], _ => rfl⟩
  exact (sb_cons (ss_set (i := 3) sc_rank_of.nd (sp_fz (sp_callV f_want_both q_want_both hr passes_def (sa_cons (sp_var 0) (sa_cons (sp_var 1) sa_nil))))) (sb_cons (ss_if (st_pw (sw_or (st_not (st_val (sp_callV f_is_laying_of q_is_laying_of hr passes_def (sa_cons (sp_var 0) (sa_cons (sp_var 2) sa_nil))))) (sw_or1 (st_not (st_val (sp_callV f_goes_with q_goes_with hr passes_def (sa_cons (sp_var 2) (sa_cons (sp_var 1) sa_nil)))))))) (sb_one ss_never) sb_nil) (sb_one (ss_ret (sp_callV f_rank_by q_rank_by hr passes_def (sa_cons (sp_var 3) (sa_cons (sp_var 1) (sa_cons (sp_var 2) sa_nil))))))))
theorem ok_rank_of (h : Fx fa fn cs K mg base) : FnV P w K mg base ("rank_of", none) 78 [("field" : Str), ("guesses" : Str), ("laying" : Str)] (spF K g_rank_of) := by
  obtain ⟨fd, a, b, c, _⟩ := okb_rank_of (P := P) (w := w) h
  exact ⟨fd, a, b, c⟩
theorem okk_rank_of_0 (h : Fx fa fn cs K mg base) : FnK P w K mg base ("rank_of", none) 78 [("field" : Str), ("guesses" : Str), ("laying" : Str)] [("laying" : Str), ("guesses" : Str), ("field" : Str)] [2, 1, 0] (spF K g_rank_of) := by
  obtain ⟨fd, a, _, c, d⟩ := okb_rank_of (P := P) (w := w) h
  exact ⟨fd, a, d, c⟩
theorem sc__law_pot : FnScope N__law_pot [("script" : Str), ("k" : Str)] (defScope st__law_pot) := ⟨rfl, rfl, rfl, by decide +kernel, rfl, by decide +kernel, by decide +kernel⟩
theorem ok__law_pot (h : Fx fa fn cs K mg base) : FnV P w K mg base ("_law_pot", none) 1 [("script" : Str), ("k" : Str)] (spF K g__law_pot) := by
  have q_len := h.free 6 (x := "len")
  have q_abs := h.free 70 (x := "abs")
  have q_max := h.free 71 (x := "max")
  have q_int := h.free 1 (x := "int")
  obtain ⟨fd, F⟩ := h.says.base.def_ 53 (d := d__law_pot) rfl
  refine ⟨fd, fn_ok F sc__law_pot fun cdv A outer s H E hr => ?_, FunD.bindsN F fun _ _ _ _ _ _ us hl => match us, hl with | [_, _], _ => rfl, F.kp⟩
  exact (sb_cons (ss_set (i := 2) sc__law_pot.nd (sp_if (st_cmp (op2_ltA (u64 hr)) (sp_var 1) (sp_callB opc_len rfl q_len rfl (sa_cons (sp_var 0) sa_nil)) rfl) (sp_callB opc_abs rfl q_abs rfl (sa_cons (sp_ix (u80 hr) (sp_var 0) (sp_var 1) fun _ _ => rfl) sa_nil)) (sp_bin op2_add (sp_bin op2_mul2 sp_int (sp_var 1)) sp_int))) (sb_one (ss_ret (sp_lst (sa_cons (sp_callB (opc_max rfl) rfl q_max rfl (sa_cons sp_int (sa_cons (sp_bin op2_sub (sp_var 2) (sp_bin op2_pow sp_int sp_int)) sa_nil))) (sa_cons (sp_bin op2_add (sp_bin op2_mod (sp_callTy opc_int rfl q_int rfl (sa_cons (sp_bin op2_add (sp_bin op2_add (sp_bin op2_mul2 (sp_bin op2_mod (sp_callTy opc_int rfl q_int rfl (sa_cons (sp_var 2) sa_nil)) sp_int) sp_int) (sp_bin op2_mul2 sp_int (sp_var 1))) sp_int) sa_nil)) sp_int) sp_int) sa_nil))))))
theorem sc__law_draw : FnScope N__law_draw [("pot" : Str), ("many" : Str)] (defScope st__law_draw) := ⟨rfl, rfl, rfl, by decide +kernel, rfl, by decide +kernel, by decide +kernel⟩
theorem ok__law_draw (h : Fx fa fn cs K mg base) : FnV P w K mg base ("_law_draw", none) 1 [("pot" : Str), ("many" : Str)] (spM K g__law_draw) := by
  have q_divmod := h.free 72 (x := "divmod")
  have q_int := h.free 1 (x := "int")
  obtain ⟨fd, F⟩ := h.says.base.def_ 54 (d := d__law_draw) rfl
  refine ⟨fd, fn_okM F sc__law_draw fun cdv A outer s H E hr => ?_, FunD.bindsN F fun _ _ _ _ _ _ us hl => match us, hl with | [_, _], _ => rfl, F.kp⟩
  exact (sb_cons (ss_if (st_cmp (op2_gtA (u64 hr)) (sp_lend 0 (sp_ix (u80 hr) (sp_var 0) sp_int fun _ _ => rfl)) sp_int rfl) (sb_cons (ss_putT (j := 2) (u80 hr) rfl sc__law_draw.nd (sr_s 0) sp_int (sp_callB opc_divmod rfl q_divmod rfl (sa_cons (sp_lend 0 (sp_ix (u80 hr) (sp_var 0) sp_int fun _ _ => rfl)) (sa_cons (sp_var 1) sa_nil)))) (sb_one (ss_ret (sp_var 2)))) sb_nil) (sb_cons (ss_put (pu := false) (u80 hr) (sr_s 0) sp_int (sp_bin op2_mod (sp_lend 0 (sp_callTy opc_int rfl q_int rfl (sa_cons (sp_bin op2_add (sp_bin op2_mul2 (sp_ix (u80 hr) (sp_var 0) sp_int fun _ _ => rfl) sp_int) sp_int) sa_nil))) sp_int)) (sb_one (ss_ret (sp_bin op2_mod (sp_lend 0 (sp_callTy opc_int rfl q_int rfl (sa_cons (sp_bin op2_fdiv (sp_bin op2_mod (sp_callTy opc_int rfl q_int rfl (sa_cons (sp_bin op2_mul2 (sp_ix (u80 hr) (sp_var 0) sp_int fun _ _ => rfl) (sp_ix (u80 hr) (sp_var 0) sp_int fun _ _ => rfl)) sa_nil)) sp_int) sp_int) sa_nil))) (sp_var 1))))))
theorem sc__law_pick : FnScope N__law_pick [("pot" : Str), ("some" : Str)] (defScope st__law_pick) := ⟨rfl, rfl, rfl, by decide +kernel, rfl, by decide +kernel, by decide +kernel⟩
theorem ok__law_pick (h : Fx fa fn cs K mg base) : FnV P w K mg base ("_law_pick", none) 2 [("pot" : Str), ("some" : Str)] (spM K g__law_pick) := by
  have q__law_draw := h.glo 73 (x := "_law_draw")
  have q_len := h.free 6 (x := "len")
  have f__law_draw := ok__law_draw (P := P) (w := w) h
  obtain ⟨fd, F⟩ := h.says.base.def_ 55 (d := d__law_pick) rfl
  refine ⟨fd, fn_okM F sc__law_pick fun cdv A outer s H E hr => ?_, FunD.bindsN F fun _ _ _ _ _ _ us hl => match us, hl with | [_, _], _ => rfl, F.kp⟩
  exact (sb_one (ss_ret (sp_ix (u80 hr) (sp_var 1) (sp_callMV 0 f__law_draw q__law_draw hr passes_def (sa_cons (sp_callB opc_len rfl q_len rfl (sa_cons (sp_var 1) sa_nil)) sa_nil)) fun _ _ => rfl)))
theorem sc__law_board : FnScope N__law_board [("pot" : Str), ("most" : Str)] (defScope st__law_board) := ⟨rfl, rfl, rfl, by decide +kernel, rfl, by decide +kernel, by decide +kernel⟩
theorem ok__law_board (h : Fx fa fn cs K mg base) : FnV P w K mg base ("_law_board", none) 2 [("pot" : Str), ("most" : Str)] (spM K g__law_board) := by
  have q__law_draw := h.glo 73 (x := "_law_draw")
  have q_range := h.free 12 (x := "range")
  have q_min := h.free 74 (x := "min")
  have q_max := h.free 71 (x := "max")
  have q_len := h.free 6 (x := "len")
  have q_sorted := h.free 16 (x := "sorted")
  have q_tuple := h.free 5 (x := "tuple")
  have f__law_draw := ok__law_draw (P := P) (w := w) h
  obtain ⟨fd, F⟩ := h.says.base.def_ 56 (d := d__law_board) rfl
  refine ⟨fd, fn_okM F sc__law_board fun cdv A outer s H E hr => ?_, FunD.bindsN F fun _ _ _ _ _ _ us hl => match us, hl with | [_, _], _ => rfl, F.kp⟩
  exact (sb_cons (ss_set (i := 2) sc__law_board.nd (sp_fz (sp_callMV 0 f__law_draw q__law_draw hr passes_def (sa_cons sp_int sa_nil)))) (sb_cons (ss_if (st_cmp (op2_ltA (u64 hr)) (sp_var 2) sp_int rfl) (sb_one (ss_ret (sp_tup (sa_cons (sp_ix (u80 hr) (sp_lst (sa_cons (sp_str (by decide)) (sa_cons (sp_str (by decide)) sa_nil))) (sp_var 2) fun _ _ => rfl) (sa_cons (sp_bin op2_add sp_int (sp_callMV 0 f__law_draw q__law_draw hr passes_def (sa_cons (sp_var 1) sa_nil))) (sa_cons (sp_bin op2_add sp_int (sp_callMV 0 f__law_draw q__law_draw hr passes_def (sa_cons (sp_var 1) sa_nil))) sa_nil)))))) sb_nil) (sb_cons (ss_set (i := 3) sc__law_board.nd (sp_bin op2_add sp_int (sp_callMV 0 f__law_draw q__law_draw hr passes_def (sa_cons (sp_bin op2_mul2 (sp_var 1) (sp_var 1)) sa_nil)))) (sb_cons (ss_set (i := 4) sc__law_board.nd (sp_lst sa_nil)) (sb_cons (ss_for own_def rfl (si_rg1 rfl q_range (sp_callMV 0 f__law_draw q__law_draw hr passes_def (sa_cons (sp_bin op2_mul2 sp_int (sp_var 3)) sa_nil))) (gt_nm sc__law_board.nd) (sb_cons (ss_par2 (i := 6) (j := 7) rfl sc__law_board.nd (sa_cons (sp_callMV 0 f__law_draw q__law_draw hr passes_def (sa_cons (sp_var 3) sa_nil)) (sa_cons (sp_callMV 0 f__law_draw q__law_draw hr passes_def (sa_cons (sp_var 3) sa_nil)) sa_nil))) (sb_fz 6 (sb_fz 7 (sb_cons (ss_set (i := 8) sc__law_board.nd (sp_tup (sa_cons (sp_callB (opc_min rfl) rfl q_min rfl (sa_cons (sp_var 6) (sa_cons (sp_var 7) sa_nil))) (sa_cons (sp_callB (opc_max rfl) rfl q_max rfl (sa_cons (sp_var 6) (sa_cons (sp_var 7) sa_nil))) sa_nil)))) (sb_one (ss_if (st_pw (sw_and (st_cmp (op2_ne (u64 hr)) (sp_var 6) (sp_var 7) rfl) (sw_and (st_lend 4 (st_cmp (op2_nin (u80 hr)) (sp_var 8) (sp_var 4) rfl)) (sw_and1 (st_cmp (op2_ltA (u64 hr)) (sp_lend 4 (sp_callB (opc_max rfl) rfl q_max rfl (sa_cons (sp_lc (own := [(("tip" : Str), 9)]) rfl sc__law_board.nd (si_any (sp_var 8)) (by show BlkOk N__law_board (defScope st__law_board) _ _; exact ⟨rfl, by decide +kernel, by decide +kernel, by decide +kernel, by decide +kernel⟩) (fun _ _ _ _ _ => (gt_nm sc__law_board.nd)) (fun _ _ _ _ _ => sts_nil) (fun _ _ _ _ _ => (sp_callB opc_len rfl q_len rfl (sa_cons (sp_lc (own := [(("one" : Str), 10)]) rfl sc__law_board.nd (si_any (sp_var 4)) (by show BlkOk N__law_board (relS _ (defScope st__law_board)) _ _; exact ⟨rfl, by decide +kernel, by decide +kernel, by decide +kernel, by decide +kernel⟩) (fun _ _ _ _ _ => (gt_nm sc__law_board.nd)) (fun _ _ _ _ _ => (sts_one (st_cmp (op2_in (u80 hr)) (sp_var 9) (sp_var 10) rfl))) (fun _ _ _ _ _ => (sp_var 10))) sa_nil)))) sa_nil))) sp_int rfl))))) (sb_one (ss_expr (sp_app (pu := false) (sr_s 4) (sp_var 8)))) sb_nil))))))) (sb_one (ss_ret (sp_tup (sa_cons (sp_str (by decide)) (sa_cons (sp_var 3) (sa_cons (sp_callTy opc_tuple rfl q_tuple rfl (sa_cons (sp_lend 4 (sp_callB (opc_sortedB hr rfl) rfl q_sorted rfl (sa_cons (sp_var 4) sa_nil))) sa_nil)) sa_nil)))))))))))
theorem sc__law_size : FnScope N__law_size [("board" : Str)] (defScope st__law_size) := ⟨rfl, rfl, rfl, by decide +kernel, rfl, by decide +kernel, by decide +kernel⟩
theorem ok__law_size (h : Fx fa fn cs K mg base) : FnV P w K mg base ("_law_size", none) 1 [("board" : Str)] (spF K g__law_size) := by
  obtain ⟨fd, F⟩ := h.says.base.def_ 57 (d := d__law_size) rfl
  refine ⟨fd, fn_ok F sc__law_size fun cdv A outer s H E hr => ?_, FunD.bindsN F fun _ _ _ _ _ _ us hl => match us, hl with | [_], _ => rfl, F.kp⟩
  exact (sb_one (ss_ret (sp_if (st_cmp (op2_eq (u64 hr)) (sp_ix (u80 hr) (sp_var 0) sp_int fun _ _ => rfl) (sp_str (by decide)) rfl) (sp_ix (u80 hr) (sp_var 0) sp_int fun _ _ => rfl) (sp_bin op2_mul2 (sp_ix (u80 hr) (sp_var 0) sp_int fun _ _ => rfl) (sp_ix (u80 hr) (sp_var 0) sp_int fun _ _ => rfl)))))
theorem sc__law_beside : FnScope N__law_beside [("board" : Str), ("cell" : Str)] (defScope st__law_beside) := ⟨rfl, rfl, rfl, by decide +kernel, rfl, by decide +kernel, by decide +kernel⟩
theorem ok__law_beside (h : Fx fa fn cs K mg base) : FnV P w K mg base ("_law_beside", none) 1 [("board" : Str), ("cell" : Str)] (spF K g__law_beside) := by
  have q_sorted := h.free 16 (x := "sorted")
  obtain ⟨fd, F⟩ := h.says.base.def_ 58 (d := d__law_beside) rfl
  refine ⟨fd, fn_ok F sc__law_beside fun cdv A outer s H E hr => ?_, FunD.bindsN F fun _ _ _ _ _ _ us hl => match us, hl with | [_, _], _ => rfl, F.kp⟩
  exact (sb_cons (ss_if (st_cmp (op2_eq (u64 hr)) (sp_ix (u80 hr) (sp_var 0) sp_int fun _ _ => rfl) (sp_str (by decide)) rfl) (sb_one (ss_ret (sp_callB (opc_sortedB hr rfl) rfl q_sorted rfl (sa_cons (sp_lc (own := [(("tie" : Str), 8)]) rfl sc__law_beside.nd (si_any (sp_ix (u80 hr) (sp_var 0) sp_int fun _ _ => rfl)) (by show BlkOk N__law_beside (defScope st__law_beside) _ _; exact ⟨rfl, by decide +kernel, by decide +kernel, by decide +kernel, by decide +kernel⟩) (fun _ _ _ _ _ => (gt_nm sc__law_beside.nd)) (fun _ _ _ _ _ => (sts_one (st_cmp (op2_in (u80 hr)) (sp_var 1) (sp_var 8) rfl))) (fun _ _ _ _ _ => (sp_bin op2_sub (sp_bin op2_add (sp_ix (u80 hr) (sp_var 8) sp_int fun _ _ => rfl) (sp_ix (u80 hr) (sp_var 8) sp_int fun _ _ => rfl)) (sp_var 1)))) sa_nil)))) sb_nil) (sb_cons (ss_par2 (i := 2) (j := 3) rfl sc__law_beside.nd (sa_cons (sp_bin op2_fdiv (sp_var 1) (sp_ix (u80 hr) (sp_var 0) sp_int fun _ _ => rfl)) (sa_cons (sp_bin op2_sub (sp_var 1) (sp_bin op2_mul2 (sp_bin op2_fdiv (sp_var 1) (sp_ix (u80 hr) (sp_var 0) sp_int fun _ _ => rfl)) (sp_ix (u80 hr) (sp_var 0) sp_int fun _ _ => rfl))) sa_nil))) (sb_cons (ss_set (i := 4) sc__law_beside.nd (sp_lst sa_nil)) (sb_cons (ss_for own_def rfl (si_any (sp_lst (sa_cons (sp_neg sp_int) (sa_cons sp_int (sa_cons sp_int sa_nil))))) (gt_nm sc__law_beside.nd) (sb_one (ss_for own_def rfl (si_any (sp_lst (sa_cons (sp_neg sp_int) (sa_cons sp_int (sa_cons sp_int sa_nil))))) (gt_nm sc__law_beside.nd) (sb_cons (ss_set (i := 7) sc__law_beside.nd (sp_if (st_cmp (op2_eq (u64 hr)) (sp_ix (u80 hr) (sp_var 0) sp_int fun _ _ => rfl) (sp_str (by decide)) rfl) (sp_cmp (op2_ne (u64 hr)) (sp_tup (sa_cons (sp_var 5) (sa_cons (sp_var 6) sa_nil))) (sp_tup (sa_cons sp_int (sa_cons sp_int sa_nil))) rfl) (sp_cmp (op2_in (u80 hr)) (sp_tup (sa_cons (sp_var 5) (sa_cons (sp_var 6) sa_nil))) (sp_lst (sa_cons (sp_tup (sa_cons sp_int (sa_cons sp_int sa_nil))) (sa_cons (sp_tup (sa_cons sp_int (sa_cons (sp_neg sp_int) sa_nil))) (sa_cons (sp_tup (sa_cons sp_int (sa_cons sp_int sa_nil))) (sa_cons (sp_tup (sa_cons (sp_neg sp_int) (sa_cons sp_int sa_nil))) (sa_cons (sp_tup (sa_cons sp_int (sa_cons (sp_neg sp_int) sa_nil))) (sa_cons (sp_tup (sa_cons (sp_neg sp_int) (sa_cons sp_int sa_nil))) sa_nil))))))) rfl))) (sb_one (ss_if (st_pw (sw_and (st_val (sp_var 7)) (sw_and (st_chain (op2_leA (u64 hr)) (op2_ltA (u64 hr)) sp_int (sp_bin op2_add (sp_var 2) (sp_var 5)) (sp_ix (u80 hr) (sp_var 0) sp_int fun _ _ => rfl)) (sw_and1 (st_chain (op2_leA (u64 hr)) (op2_ltA (u64 hr)) sp_int (sp_bin op2_add (sp_var 3) (sp_var 6)) (sp_ix (u80 hr) (sp_var 0) sp_int fun _ _ => rfl)))))) (sb_one (ss_expr (sp_app (pu := false) (sr_s 4) (sp_bin op2_add (sp_bin op2_add (sp_bin op2_mul2 (sp_bin op2_add (sp_var 2) (sp_var 5)) (sp_ix (u80 hr) (sp_var 0) sp_int fun _ _ => rfl)) (sp_var 3)) (sp_var 6))))) sb_nil)))))) (sb_one (ss_ret (sp_lend 4 (sp_callB (opc_sortedB hr rfl) rfl q_sorted rfl (sa_cons (sp_var 4) sa_nil)))))))))
theorem sc__law_numbered : FnScope N__law_numbered [("board" : Str), ("mines" : Str), ("opened" : Str)] (defScope st__law_numbered) := ⟨rfl, rfl, rfl, by decide +kernel, rfl, by decide +kernel, by decide +kernel⟩
theorem ok__law_numbered (h : Fx fa fn cs K mg base) : FnV P w K mg base ("_law_numbered", none) 2 [("board" : Str), ("mines" : Str), ("opened" : Str)] (spF K g__law_numbered) := by
  have q__law_size := h.glo 75 (x := "_law_size")
  have q_range := h.free 12 (x := "range")
  have q__law_beside := h.glo 76 (x := "_law_beside")
  have q_len := h.free 6 (x := "len")
  have q_str := h.free 13 (x := "str")
  have f__law_size := ok__law_size (P := P) (w := w) h
  have f__law_beside := ok__law_beside (P := P) (w := w) h
  obtain ⟨fd, F⟩ := h.says.base.def_ 59 (d := d__law_numbered) rfl
  refine ⟨fd, fn_ok F sc__law_numbered fun cdv A outer s H E hr => ?_, FunD.bindsN F fun _ _ _ _ _ _ us hl => match us, hl with | [_, _, _], _ => rfl, F.kp⟩
  exact (sb_cons (ss_set (i := 3) sc__law_numbered.nd (sp_str (by decide))) (sb_cons (ss_for own_def rfl (si_rg1 rfl q_range (sp_callV f__law_size q__law_size hr passes_def (sa_cons (sp_var 0) sa_nil))) (gt_nm sc__law_numbered.nd) (sb_cons (ss_set (i := 5) sc__law_numbered.nd (sp_callB opc_len rfl q_len rfl (sa_cons (sp_lc (own := [(("one" : Str), 6)]) rfl sc__law_numbered.nd (si_any (sp_callV f__law_beside q__law_beside hr passes_def (sa_cons (sp_var 0) (sa_cons (sp_var 4) sa_nil)))) (by show BlkOk N__law_numbered (defScope st__law_numbered) _ _; exact ⟨rfl, by decide +kernel, by decide +kernel, by decide +kernel, by decide +kernel⟩) (fun _ _ _ _ _ => (gt_nm sc__law_numbered.nd)) (fun _ _ _ _ _ => (sts_one (st_cmp (op2_in (u80 hr)) (sp_var 6) (sp_var 1) rfl))) (fun _ _ _ _ _ => (sp_var 6))) sa_nil))) (sb_one (ss_set (i := 3) sc__law_numbered.nd (sp_bin op2_add (sp_var 3) (sp_if (st_cmp (op2_nin (u80 hr)) (sp_var 4) (sp_var 2) rfl) (sp_str (by decide)) (sp_if (st_cmp (op2_in (u80 hr)) (sp_var 4) (sp_var 1) rfl) (sp_str (by decide)) (sp_callTy opc_str rfl q_str rfl (sa_cons (sp_var 5) sa_nil))))))))) (sb_one (ss_ret (sp_var 3)))))
theorem sc__law_field : FnScope N__law_field [("pot" : Str), ("board" : Str), ("most" : Str), ("is_true" : Str)] (defScope st__law_field) := ⟨rfl, rfl, rfl, by decide +kernel, rfl, by decide +kernel, by decide +kernel⟩
theorem ok__law_field (h : Fx fa fn cs K mg base) : FnV P w K mg base ("_law_field", none) 3 [("pot" : Str), ("board" : Str), ("most" : Str), ("is_true" : Str)] (spM K g__law_field) := by
  have q__law_size := h.glo 75 (x := "_law_size")
  have q_list := h.free 77 (x := "list")
  have q_range := h.free 12 (x := "range")
  have q__law_draw := h.glo 73 (x := "_law_draw")
  have q_len := h.free 6 (x := "len")
  have q__law_numbered := h.glo 78 (x := "_law_numbered")
  have q__law_pick := h.glo 79 (x := "_law_pick")
  have f__law_size := ok__law_size (P := P) (w := w) h
  have f__law_draw := ok__law_draw (P := P) (w := w) h
  have f__law_numbered := ok__law_numbered (P := P) (w := w) h
  have f__law_pick := ok__law_pick (P := P) (w := w) h
  obtain ⟨fd, F⟩ := h.says.base.def_ 60 (d := d__law_field) rfl
  refine ⟨fd, fn_okM F sc__law_field fun cdv A outer s H E hr => ?_, FunD.bindsN F fun _ _ _ _ _ _ us hl => match us, hl with | [_, _, _, _], _ => rfl, F.kp⟩
  exact (sb_cons (ss_set (i := 4) sc__law_field.nd (sp_fz (sp_listRg1 rfl rfl q_list rfl q_range (sp_callV f__law_size q__law_size hr passes_def (sa_cons (sp_var 1) sa_nil))))) (sb_cons (ss_set (i := 5) sc__law_field.nd (sp_fz (sp_lc (own := [(("cell" : Str), 9)]) rfl sc__law_field.nd (si_any (sp_var 4)) (by show BlkOk N__law_field (defScope st__law_field) _ _; exact ⟨rfl, by decide +kernel, by decide +kernel, by decide +kernel, by decide +kernel⟩) (fun _ _ _ _ _ => (gt_nm sc__law_field.nd)) (fun _ _ _ _ _ => (sts_one (st_cmp (op2_eq (u64 hr)) (sp_callMV 0 f__law_draw q__law_draw hr passes_blk (sa_cons sp_int sa_nil)) sp_int rfl))) (fun _ _ _ _ _ => (sp_var 9))))) (sb_cons (ss_set (i := 6) sc__law_field.nd (sp_lc (own := [(("cell" : Str), 9)]) rfl sc__law_field.nd (si_any (sp_var 4)) (by show BlkOk N__law_field (defScope st__law_field) _ _; exact ⟨rfl, by decide +kernel, by decide +kernel, by decide +kernel, by decide +kernel⟩) (fun _ _ _ _ _ => (gt_nm sc__law_field.nd)) (fun _ _ _ _ _ => (sts_one (st_pw (sw_and (st_cmp (op2_gtA (u64 hr)) (sp_callMV 0 f__law_draw q__law_draw hr passes_blk (sa_cons sp_int sa_nil)) sp_int rfl) (sw_and1 (st_pw (sw_or (st_cmp (op2_nin (u80 hr)) (sp_var 9) (sp_var 5) rfl) (sw_or1 (st_cmp (op2_eq (u64 hr)) (sp_callMV 0 f__law_draw q__law_draw hr passes_blk (sa_cons sp_int sa_nil)) sp_int rfl))))))))) (fun _ _ _ _ _ => (sp_var 9)))) (sb_cons (ss_while own_def (st_cmp (op2_gtA (u64 hr)) (sp_bin op2_sub (sp_callB opc_len rfl q_len rfl (sa_cons (sp_var 4) sa_nil)) (sp_lend 6 (sp_callB opc_len rfl q_len rfl (sa_cons (sp_var 6) sa_nil)))) (sp_var 2) rfl) (sb_one (ss_expr (sp_app (pu := false) (sr_s 6) (sp_ix (u80 hr) (sp_lend 6 (sp_lc (own := [(("cell" : Str), 9)]) rfl sc__law_field.nd (si_any (sp_var 4)) (by show BlkOk N__law_field (defScope st__law_field) _ _; exact ⟨rfl, by decide +kernel, by decide +kernel, by decide +kernel, by decide +kernel⟩) (fun _ _ _ _ _ => (gt_nm sc__law_field.nd)) (fun _ _ _ _ _ => (sts_one (st_cmp (op2_nin (u80 hr)) (sp_var 9) (sp_var 6) rfl))) (fun _ _ _ _ _ => (sp_var 9)))) (sp_callMV 0 f__law_draw q__law_draw hr passes_def (sa_cons (sp_bin op2_sub (sp_callB opc_len rfl q_len rfl (sa_cons (sp_var 4) sa_nil)) (sp_lend 6 (sp_callB opc_len rfl q_len rfl (sa_cons (sp_var 6) sa_nil)))) sa_nil)) fun _ _ => rfl))))) (sb_cons (ss_set (i := 7) sc__law_field.nd (sp_fz (sp_callV f__law_numbered q__law_numbered hr passes_def (sa_cons (sp_var 1) (sa_cons (sp_var 5) (sa_cons (sp_varF 6) sa_nil)))))) (sb_cons (ss_set (i := 8) sc__law_field.nd (sp_if (st_cmp (op2_eq (u64 hr)) (sp_callMV 0 f__law_draw q__law_draw hr passes_def (sa_cons sp_int sa_nil)) sp_int rfl) (sp_callB opc_len rfl q_len rfl (sa_cons (sp_var 5) sa_nil)) sp_non)) (sb_cons (ss_if (st_pw (sw_and (st_not (st_val (sp_var 3))) (sw_and1 (st_lend 6 (st_cmp (op2_ne (u64 hr)) (sp_var 6) (sp_lst sa_nil) rfl))))) (sb_cons (ss_set (i := 9) sc__law_field.nd (sp_fz (sp_callMV 0 f__law_pick q__law_pick hr passes_def (sa_cons (sp_varF 6) sa_nil)))) (sb_cons (ss_set (i := 7) sc__law_field.nd (sp_bin op2_add (sp_bin op2_add (sp_slice (sp_var 7) so_none (so_some (sp_var 9))) (sp_callMV 0 f__law_pick q__law_pick hr passes_def (sa_cons (sp_lst (sa_cons (sp_str (by decide)) (sa_cons (sp_str (by decide)) (sa_cons (sp_str (by decide)) (sa_cons (sp_str (by decide)) (sa_cons (sp_str (by decide)) sa_nil)))))) sa_nil))) (sp_slice (sp_var 7) (so_some (sp_bin op2_add (sp_var 9) sp_int)) so_none))) (sb_one (ss_set (i := 8) sc__law_field.nd (sp_fz (sp_if (st_pw (sw_or (st_cmp op2_isN (sp_var 8) sp_non rfl) (sw_or1 (st_cmp (op2_eq (u64 hr)) (sp_callMV 0 f__law_draw q__law_draw hr passes_def (sa_cons sp_int sa_nil)) sp_int rfl)))) (sp_var 8) (sp_callMV 0 f__law_draw q__law_draw hr passes_def (sa_cons (sp_bin op2_add (sp_callB opc_len rfl q_len rfl (sa_cons (sp_var 4) sa_nil)) sp_int) sa_nil)))))))) sb_nil) (sb_one (ss_ret (sp_tup (sa_cons (sp_str (by decide)) (sa_cons (sp_var 1) (sa_cons (sp_var 7) (sa_cons (sp_var 8) sa_nil))))))))))))))
theorem sc__law_covered : FnScope N__law_covered [("field" : Str)] (defScope st__law_covered) := ⟨rfl, rfl, rfl, by decide +kernel, rfl, by decide +kernel, by decide +kernel⟩
theorem ok__law_covered (h : Fx fa fn cs K mg base) : FnV P w K mg base ("_law_covered", none) 1 [("field" : Str)] (spF K g__law_covered) := by
  have q_enumerate := h.free 22 (x := "enumerate")
  obtain ⟨fd, F⟩ := h.says.base.def_ 61 (d := d__law_covered) rfl
  refine ⟨fd, fn_ok F sc__law_covered fun cdv A outer s H E hr => ?_, FunD.bindsN F fun _ _ _ _ _ _ us hl => match us, hl with | [_], _ => rfl, F.kp⟩
  exact (sb_one (ss_ret (sp_lc (own := [(("cell" : Str), 1), (("sign" : Str), 2)]) rfl sc__law_covered.nd (si_enum rfl q_enumerate (sp_ix (u80 hr) (sp_var 0) sp_int fun _ _ => rfl)) (by show BlkOk N__law_covered (defScope st__law_covered) _ _; exact ⟨rfl, by decide +kernel, by decide +kernel, by decide +kernel, by decide +kernel⟩) (fun _ _ _ _ _ => (gt_tup rfl (gt_cons (gt_nm sc__law_covered.nd) (gt_cons (gt_nm sc__law_covered.nd) gt_nil)))) (fun _ _ _ _ _ => (sts_one (st_cmp (op2_eq (u64 hr)) (sp_var 2) (sp_str (by decide)) rfl))) (fun _ _ _ _ _ => (sp_var 1)))))
theorem sc__law_fits : FnScope N__law_fits [("field" : Str), ("mines" : Str)] (defScope st__law_fits) := ⟨rfl, rfl, rfl, by decide +kernel, rfl, by decide +kernel, by decide +kernel⟩
theorem ok__law_fits (h : Fx fa fn cs K mg base) : FnV P w K mg base ("_law_fits", none) 2 [("field" : Str), ("mines" : Str)] (spF K g__law_fits) := by
  have q_enumerate := h.free 22 (x := "enumerate")
  have q_list := h.free 77 (x := "list")
  have q__law_beside := h.glo 76 (x := "_law_beside")
  have q_len := h.free 6 (x := "len")
  have q_int := h.free 1 (x := "int")
  have f__law_beside := ok__law_beside (P := P) (w := w) h
  obtain ⟨fd, F⟩ := h.says.base.def_ 62 (d := d__law_fits) rfl
  refine ⟨fd, fn_ok F sc__law_fits fun cdv A outer s H E hr => ?_, FunD.bindsN F fun _ _ _ _ _ _ us hl => match us, hl with | [_, _], _ => rfl, F.kp⟩
  exact (sb_cons (ss_setLc (own := [(("cell" : Str), 4), (("sign" : Str), 5)]) rfl sc__law_fits.nd (si_enum rfl q_enumerate (sp_ix (u80 hr) (sp_var 0) sp_int fun _ _ => rfl)) (by show BlkOk N__law_fits (defScope st__law_fits) _ _; exact ⟨rfl, by decide +kernel, by decide +kernel, by decide +kernel, by decide +kernel⟩) (fun _ _ _ _ _ => (gt_tup rfl (gt_cons (gt_nm sc__law_fits.nd) (gt_cons (gt_nm sc__law_fits.nd) gt_nil)))) (fun _ _ _ _ _ => (sts_one (st_cmp (op2_eq (u64 hr)) (sp_var 5) (sp_str (by decide)) rfl))) (fun _ _ _ _ _ => (sp_var 4)) (i := 2)) (sb_fz 2 (sb_cons (ss_set (i := 3) sc__law_fits.nd (sp_fz (sp_bin op2_add (sp_var 2) (sp_callTy opc_list rfl q_list rfl (sa_cons (sp_var 1) sa_nil))))) (sb_cons (ss_for own_def rfl (si_enum rfl q_enumerate (sp_ix (u80 hr) (sp_var 0) sp_int fun _ _ => rfl)) (gt_tup rfl (gt_cons (gt_nm sc__law_fits.nd) (gt_cons (gt_nm sc__law_fits.nd) gt_nil))) (sb_one (ss_if (st_pw (sw_and (st_cmp (op2_in (u80 hr)) (sp_var 5) (sp_str (by decide)) rfl) (sw_and1 (st_cmp (op2_ne (u64 hr)) (sp_callB opc_len rfl q_len rfl (sa_cons (sp_lc (own := [(("one" : Str), 6)]) rfl sc__law_fits.nd (si_any (sp_callV f__law_beside q__law_beside hr passes_def (sa_cons (sp_ix (u80 hr) (sp_var 0) sp_int fun _ _ => rfl) (sa_cons (sp_var 4) sa_nil)))) (by show BlkOk N__law_fits (defScope st__law_fits) _ _; exact ⟨rfl, by decide +kernel, by decide +kernel, by decide +kernel, by decide +kernel⟩) (fun _ _ _ _ _ => (gt_nm sc__law_fits.nd)) (fun _ _ _ _ _ => (sts_one (st_cmp (op2_in (u80 hr)) (sp_var 6) (sp_var 3) rfl))) (fun _ _ _ _ _ => (sp_var 6))) sa_nil)) (sp_callTy opc_int rfl q_int rfl (sa_cons (sp_var 5) sa_nil)) rfl)))) (sb_one (ss_ret sp_bl)) sb_nil))) (sb_one (ss_ret (sp_or (sp_cmp op2_isN (sp_ix (u80 hr) (sp_var 0) sp_int fun _ _ => rfl) sp_non rfl) (sp_one (sp_cmp (op2_eq (u64 hr)) (sp_callB opc_len rfl q_len rfl (sa_cons (sp_var 3) sa_nil)) (sp_ix (u80 hr) (sp_var 0) sp_int fun _ _ => rfl) rfl)))))))))
theorem sc__law_layings : FnScope N__law_layings [("field" : Str)] (defScope st__law_layings) := ⟨rfl, rfl, rfl, by decide +kernel, rfl, by decide +kernel, by decide +kernel⟩
theorem ok__law_layings (h : Fx fa fn cs K mg base) : FnV P w K mg base ("_law_layings", none) 3 [("field" : Str)] (spF K g__law_layings) := by
  have q__law_covered := h.glo 80 (x := "_law_covered")
  have q__law_fits := h.glo 81 (x := "_law_fits")
  have q_sorted := h.free 16 (x := "sorted")
  have f__law_covered := ok__law_covered (P := P) (w := w) h
  have f__law_fits := ok__law_fits (P := P) (w := w) h
  obtain ⟨fd, F⟩ := h.says.base.def_ 63 (d := d__law_layings) rfl
  refine ⟨fd, fn_ok F sc__law_layings fun cdv A outer s H E hr => ?_, FunD.bindsN F fun _ _ _ _ _ _ us hl => match us, hl with | [_], _ => rfl, F.kp⟩
  exact (sb_cons (ss_set (i := 1) sc__law_layings.nd (sp_fz (sp_lst (sa_cons (sp_tup sa_nil) sa_nil)))) (sb_cons (ss_for own_def rfl (si_any (sp_callV f__law_covered q__law_covered hr passes_def (sa_cons (sp_var 0) sa_nil))) (gt_nm sc__law_layings.nd) (sb_one (ss_set (i := 1) sc__law_layings.nd (sp_fz (sp_bin op2_add (sp_var 1) (sp_lc (own := [(("mines" : Str), 3)]) rfl sc__law_layings.nd (si_any (sp_var 1)) (by show BlkOk N__law_layings (defScope st__law_layings) _ _; exact ⟨rfl, by decide +kernel, by decide +kernel, by decide +kernel, by decide +kernel⟩) (fun _ _ _ _ _ => (gt_nm sc__law_layings.nd)) (fun _ _ _ _ _ => sts_nil) (fun _ _ _ _ _ => (sp_bin op2_add (sp_var 3) (sp_tup (sa_cons (sp_var 2) sa_nil)))))))))) (sb_one (ss_ret (sp_callB (opc_sortedB hr rfl) rfl q_sorted rfl (sa_cons (sp_lc (own := [(("mines" : Str), 3)]) rfl sc__law_layings.nd (si_any (sp_var 1)) (by show BlkOk N__law_layings (defScope st__law_layings) _ _; exact ⟨rfl, by decide +kernel, by decide +kernel, by decide +kernel, by decide +kernel⟩) (fun _ _ _ _ _ => (gt_nm sc__law_layings.nd)) (fun _ _ _ _ _ => (sts_one (st_val (sp_callV f__law_fits q__law_fits hr passes_blk (sa_cons (sp_var 0) (sa_cons (sp_var 3) sa_nil)))))) (fun _ _ _ _ _ => (sp_var 3))) sa_nil))))))
theorem sc__law_right : FnScope N__law_right [("pot" : Str), ("is_true" : Str)] (defScope st__law_right) := ⟨rfl, rfl, rfl, by decide +kernel, rfl, by decide +kernel, by decide +kernel⟩
theorem ok__law_right (h : Fx fa fn cs K mg base) : FnV P w K mg base ("_law_right", none) 79 [("pot" : Str), ("is_true" : Str)] (spM K g__law_right) := by
  have q__law_field := h.glo 82 (x := "_law_field")
  have q__law_board := h.glo 83 (x := "_law_board")
  have q__law_layings := h.glo 84 (x := "_law_layings")
  have q__law_covered := h.glo 80 (x := "_law_covered")
  have q_repr := h.free 85 (x := "repr")
  have q_range := h.free 12 (x := "range")
  have q__law_draw := h.glo 73 (x := "_law_draw")
  have q_dict := h.free 46 (x := "dict")
  have q_all := h.free 8 (x := "all")
  have q_len := h.free 6 (x := "len")
  have q_many_layings := h.glo 86 (x := "many_layings")
  have fk_many_layings_0 := okk_many_layings_0 (P := P) (w := w) h
  have q_laying_at := h.glo 87 (x := "laying_at")
  have fk_laying_at_0 := okk_laying_at_0 (P := P) (w := w) h
  have q_rank_of := h.glo 88 (x := "rank_of")
  have fk_rank_of_0 := okk_rank_of_0 (P := P) (w := w) h
  have f__law_field := ok__law_field (P := P) (w := w) h
  have f__law_board := ok__law_board (P := P) (w := w) h
  have f__law_layings := ok__law_layings (P := P) (w := w) h
  have f__law_covered := ok__law_covered (P := P) (w := w) h
  have f__law_draw := ok__law_draw (P := P) (w := w) h
  have f_many_layings := ok_many_layings (P := P) (w := w) h
  have f_laying_at := ok_laying_at (P := P) (w := w) h
  have f_rank_of := ok_rank_of (P := P) (w := w) h
  obtain ⟨fd, F⟩ := h.says.base.def_ 64 (d := d__law_right) rfl
  refine ⟨fd, fn_okM F sc__law_right fun cdv A outer s H E hr => ?_, FunD.bindsN F fun _ _ _ _ _ _ us hl => match us, hl with | [_, _], _ => rfl, F.kp⟩
  exact (sb_cons (ss_set (i := 2) sc__law_right.nd (sp_fz (sp_callMV 0 f__law_field q__law_field hr passes_def (sa_cons (sp_callMV 0 f__law_board q__law_board hr passes_def (sa_cons sp_int sa_nil)) (sa_cons sp_int (sa_cons (sp_var 1) sa_nil)))))) (sb_cons (ss_par3 (i := 3) (j := 4) (k := 5) rfl sc__law_right.nd (sa_cons (sp_callV f__law_layings q__law_layings hr passes_def (sa_cons (sp_var 2) sa_nil)) (sa_cons (sp_callV f__law_covered q__law_covered hr passes_def (sa_cons (sp_var 2) sa_nil)) (sa_cons (sp_callB (opc_repr hr) rfl q_repr rfl (sa_cons (sp_var 2) sa_nil)) sa_nil)))) (sb_fz 3 (sb_fz 4 (sb_cons (ss_for own_def rfl (si_rg1 rfl q_range sp_int) (gt_nm sc__law_right.nd) (sb_cons (ss_set (i := 7) sc__law_right.nd (sp_fz (sp_if (st_cmp (op2_gtA (u64 hr)) (sp_var 6) sp_int rfl) (sp_callTy (opc_dict rfl) rfl q_dict rfl (sa_cons (sp_lc (own := [(("cell" : Str), 13)]) rfl sc__law_right.nd (si_any (sp_var 4)) (by show BlkOk N__law_right (defScope st__law_right) _ _; exact ⟨rfl, by decide +kernel, by decide +kernel, by decide +kernel, by decide +kernel⟩) (fun _ _ _ _ _ => (gt_nm sc__law_right.nd)) (fun _ _ _ _ _ => (sts_one (st_cmp (op2_eq (u64 hr)) (sp_callMV 0 f__law_draw q__law_draw hr passes_blk (sa_cons sp_int sa_nil)) sp_int rfl))) (fun _ _ _ _ _ => (sp_tup (sa_cons (sp_var 13) (sa_cons (sp_cmp (op2_eq (u64 hr)) (sp_callMV 0 f__law_draw q__law_draw hr passes_blk (sa_cons sp_int sa_nil)) sp_int rfl) sa_nil))))) sa_nil)) sp_dict0))) (sb_cons (ss_par2 (i := 8) (j := 9) rfl sc__law_right.nd (sa_cons (sp_lc (own := [(("mines" : Str), 12)]) rfl sc__law_right.nd (si_any (sp_var 3)) (by show BlkOk N__law_right (defScope st__law_right) _ _; exact ⟨rfl, by decide +kernel, by decide +kernel, by decide +kernel, by decide +kernel⟩) (fun _ _ _ _ _ => (gt_nm sc__law_right.nd)) (fun _ _ _ _ _ => (sts_one (st_val (sp_lock 7 none (sp_callB (opc_all rfl) rfl q_all rfl (sa_cons (sp_lc (own := [(("cell" : Str), 13)]) rfl sc__law_right.nd (si_any (sp_var 7)) (by show BlkOk N__law_right (relS _ (defScope st__law_right)) _ _; exact ⟨rfl, by decide +kernel, by decide +kernel, by decide +kernel, by decide +kernel⟩) (fun _ _ _ _ _ => (gt_nm sc__law_right.nd)) (fun _ _ _ _ _ => sts_nil) (fun _ _ _ _ _ => (sp_cmp (op2_eq (u64 hr)) (sp_cmp (op2_in (u80 hr)) (sp_var 13) (sp_var 12) rfl) (sp_ix (u80 hr) (sp_var 7) (sp_var 13) fun _ _ => rfl) rfl))) sa_nil)))))) (fun _ _ _ _ _ => (sp_var 12))) (sa_cons (sp_callB (opc_repr hr) rfl q_repr rfl (sa_cons (sp_var 7) sa_nil)) sa_nil))) (sb_fz 8 (sb_cons (ss_set (i := 10) sc__law_right.nd (sp_callB opc_len rfl q_len rfl (sa_cons (sp_var 8) sa_nil))) (sb_cons (ss_if (st_cmp (op2_ne (u64 hr)) (sp_callB (opc_repr hr) rfl q_repr rfl (sa_cons (sp_lst (sa_cons (sp_callV f_many_layings q_many_layings hr passes_def (sa_cons (sp_var 2) (sa_cons (sp_var 7) sa_nil))) (sa_cons (sp_callKV fk_many_layings_0 q_many_layings hr passes_def (sk_cons (sp_var 7) (sk_cons (sp_var 2) sk_nil))) sa_nil))) sa_nil)) (sp_callB (opc_repr hr) rfl q_repr rfl (sa_cons (sp_lst (sa_cons (sp_var 10) (sa_cons (sp_var 10) sa_nil))) sa_nil)) rfl) (sb_one (ss_ret sp_bl)) sb_nil) (sb_cons (ss_for own_def rfl (si_any (sp_slice (sp_lc (own := [(("at" : Str), 14)]) rfl sc__law_right.nd (si_rg1 rfl q_range (sp_var 10)) (by show BlkOk N__law_right (defScope st__law_right) _ _; exact ⟨rfl, by decide +kernel, by decide +kernel, by decide +kernel, by decide +kernel⟩) (fun _ _ _ _ _ => (gt_nm sc__law_right.nd)) (fun _ _ _ _ _ => (sts_one (st_pw (sw_or (st_cmp (op2_ltA (u64 hr)) (sp_var 14) sp_int rfl) (sw_or (st_cmp (op2_gtA (u64 hr)) (sp_var 14) (sp_bin op2_sub (sp_var 10) sp_int) rfl) (sw_or1 (st_cmp (op2_eq (u64 hr)) (sp_callMV 0 f__law_draw q__law_draw hr passes_blk (sa_cons sp_int sa_nil)) sp_int rfl))))))) (fun _ _ _ _ _ => (sp_var 14))) so_none (so_some sp_int))) (gt_nm sc__law_right.nd) (sb_cons (ss_set (i := 12) sc__law_right.nd (sp_ix (u80 hr) (sp_var 8) (sp_var 11) fun _ _ => rfl)) (sb_cons (ss_if (st_cmp (op2_ne (u64 hr)) (sp_callB (opc_repr hr) rfl q_repr rfl (sa_cons (sp_lst (sa_cons (sp_callV f_laying_at q_laying_at hr passes_def (sa_cons (sp_var 2) (sa_cons (sp_var 7) (sa_cons (sp_var 11) sa_nil)))) (sa_cons (sp_callKV fk_laying_at_0 q_laying_at hr passes_def (sk_cons (sp_var 11) (sk_cons (sp_var 7) (sk_cons (sp_var 2) sk_nil)))) sa_nil))) sa_nil)) (sp_callB (opc_repr hr) rfl q_repr rfl (sa_cons (sp_lst (sa_cons (sp_var 12) (sa_cons (sp_var 12) sa_nil))) sa_nil)) rfl) (sb_one (ss_ret sp_bl)) sb_nil) (sb_one (ss_if (st_cmp (op2_ne (u64 hr)) (sp_callB (opc_repr hr) rfl q_repr rfl (sa_cons (sp_lst (sa_cons (sp_callV f_rank_of q_rank_of hr passes_def (sa_cons (sp_var 2) (sa_cons (sp_var 7) (sa_cons (sp_var 12) sa_nil)))) (sa_cons (sp_callKV fk_rank_of_0 q_rank_of hr passes_def (sk_cons (sp_var 12) (sk_cons (sp_var 7) (sk_cons (sp_var 2) sk_nil)))) sa_nil))) sa_nil)) (sp_callB (opc_repr hr) rfl q_repr rfl (sa_cons (sp_lst (sa_cons (sp_var 11) (sa_cons (sp_var 11) sa_nil))) sa_nil)) rfl) (sb_one (ss_ret sp_bl)) sb_nil))))) (sb_one (ss_if (st_cmp (op2_ne (u64 hr)) (sp_callB (opc_repr hr) rfl q_repr rfl (sa_cons (sp_var 7) sa_nil)) (sp_var 9) rfl) (sb_one (ss_ret sp_bl)) sb_nil))))))))) (sb_one (ss_ret (sp_cmp (op2_eq (u64 hr)) (sp_callB (opc_repr hr) rfl q_repr rfl (sa_cons (sp_var 2) sa_nil)) (sp_var 5) rfl))))))))
theorem sc_law : FnScope N_law [("script" : Str)] (defScope st_law) := ⟨rfl, rfl, rfl, by decide +kernel, rfl, by decide +kernel, by decide +kernel⟩
theorem ok_law (h : Fx fa fn cs K mg base) : FnV P w K mg base ("law", none) 80 [("script" : Str)] (spF K g_law) := by
  have q__law_pot := h.glo 89 (x := "_law_pot")
  have q__law_right := h.glo 90 (x := "_law_right")
  have f__law_pot := ok__law_pot (P := P) (w := w) h
  have f__law_right := ok__law_right (P := P) (w := w) h
  obtain ⟨fd, F⟩ := h.says.base.def_ 65 (d := d_law) rfl
  refine ⟨fd, fn_ok F sc_law fun cdv A outer s H E hr => ?_, FunD.bindsN F fun _ _ _ _ _ _ us hl => match us, hl with | [_], _ => rfl, F.kp⟩
  exact (sb_cons (ss_par2 (i := 1) (j := 2) rfl sc_law.nd (sa_cons (sp_callV f__law_pot q__law_pot hr passes_def (sa_cons (sp_var 0) (sa_cons sp_int sa_nil))) (sa_cons (sp_callV f__law_pot q__law_pot hr passes_def (sa_cons (sp_var 0) (sa_cons sp_int sa_nil))) sa_nil))) (sb_one (ss_ret (sp_and (sp_callMV 1 f__law_right q__law_right hr passes_def (sa_cons sp_bl sa_nil)) (sp_and (sp_callMV 2 f__law_right q__law_right hr passes_def (sa_cons sp_bl sa_nil)) (sp_one (sp_callMV 2 f__law_right q__law_right hr passes_def (sa_cons sp_bl sa_nil))))))))
theorem law_raw {h0 : Heap} (h : Fx fa fn cs K mg h0) : ∃ fd, (∀ (s : Shared) (v : Value), BindsTo s fd ⟨[v], []⟩ [("script", v)]) ∧ ∀ (P : Program) (w : World) (base : Heap), Fx fa fn cs K mg base → Dv.FnOk P w K mg base (L2.CX P w) 80 (He.ga K "law") fd [("script" : Str)] (spF K g_law) := by
  obtain ⟨fd, F⟩ := h.says.base.def_ 65 (d := d_law) rfl
  refine ⟨fd, fun s v => (FunD.bindsA (ps := [("script" : Str)]) F fun _ _ _ _ _ _ us hl => match us, hl with | [_], _ => rfl) s [v] rfl, fun P w base h => ?_⟩
  have q__law_pot := h.glo 89 (x := "_law_pot")
  have q__law_right := h.glo 90 (x := "_law_right")
  have f__law_pot := ok__law_pot (P := P) (w := w) h
  have f__law_right := ok__law_right (P := P) (w := w) h
  refine fn_ok F sc_law fun cdv A outer s H E hr => ?_
  exact (sb_cons (ss_par2 (i := 1) (j := 2) rfl sc_law.nd (sa_cons (sp_callV f__law_pot q__law_pot hr passes_def (sa_cons (sp_var 0) (sa_cons sp_int sa_nil))) (sa_cons (sp_callV f__law_pot q__law_pot hr passes_def (sa_cons (sp_var 0) (sa_cons sp_int sa_nil))) sa_nil))) (sb_one (ss_ret (sp_and (sp_callMV 1 f__law_right q__law_right hr passes_def (sa_cons sp_bl sa_nil)) (sp_and (sp_callMV 2 f__law_right q__law_right hr passes_def (sa_cons sp_bl sa_nil)) (sp_one (sp_callMV 2 f__law_right q__law_right hr passes_def (sa_cons sp_bl sa_nil))))))))
end
end Wk

-- M1
namespace Hm

/-! ### choices -/
def bn : Nat → Nat → Nat
  | _, 0 => 1
  | 0, _ + 1 => 0
  | n + 1, k + 1 => bn n k + bn n (k + 1)
theorem bn_zero (n : Nat) : bn n 0 = 1 := by cases n <;> rfl
theorem bn_gt : ∀ {n k : Nat}, n < k → bn n k = 0
  | 0, k + 1, _ => rfl
  | n + 1, k + 1, h => by
    show bn n k + bn n (k + 1) = 0
    rw [bn_gt (show n < k by omega), bn_gt (show n < k + 1 by omega)]
theorem bn_step : ∀ (n k : Nat), bn n (k + 1) * (k + 1) = bn n k * (n - k)
  | 0, k => by
    show 0 * (k + 1) = bn 0 k * (0 - k)
    simp
  | n + 1, 0 => by
    have ih := bn_step n 0
    show (bn n 0 + bn n 1) * 1 = bn (n + 1) 0 * (n + 1)
    rw [bn_zero] at ih ⊢
    rw [bn_zero]
    simp at ih ⊢
    omega
  | n + 1, k + 1 => by
    have i1 := bn_step n k
    have i2 := bn_step n (k + 1)
    show (bn n (k + 1) + bn n (k + 2)) * (k + 1 + 1) = (bn n k + bn n (k + 1)) * (n + 1 - (k + 1))
    have e : n + 1 - (k + 1) = n - k := by omega
    rw [e, Nat.add_mul, Nat.add_mul, ← i1]
    have i2' : bn n (k + 2) * (k + 1 + 1) = bn n (k + 1) * (n - (k + 1)) := i2
    rw [i2', ← Nat.mul_add, ← Nat.mul_add]
    by_cases h : k + 1 ≤ n
    · congr 1; omega
    · rw [bn_gt (show n < k + 1 by omega)]; simp
/-- as the program reckons it -/
def chN (n : Nat) : Nat → Nat
  | 0 => 1
  | k + 1 => chN n k * (n - k) / (k + 1)
theorem chN_bn (n : Nat) : ∀ k, chN n k = bn n k
  | 0 => (bn_zero n).symm
  | k + 1 => by
    unfold chN
    rw [chN_bn n k, ← bn_step]
    exact Nat.mul_div_cancel _ (Nat.succ_pos k)

/-! ### all sublists in the order of tuples: a prefix first -/
def lex : List Int → List (List Int)
  | [] => [[]]
  | c :: r => [] :: ((lex r).map (c :: ·) ++ (lex r).tail)
theorem lex_head : ∀ cs : List Int, lex cs = [] :: (lex cs).tail
  | [] => rfl
  | c :: r => rfl
theorem lex_count (p : List Int → Bool) (c : Int) (r : List Int) : (lex (c :: r)).countP p = (lex r).countP (fun L => p (c :: L)) + (lex r).countP p := by
  show ([] :: ((lex r).map (c :: ·) ++ (lex r).tail)).countP p = _
  rw [List.countP_cons, List.countP_append, List.countP_map]
  have : (lex r).countP p = (lex r).tail.countP p + if p [] = true then 1 else 0 := by
    rw [lex_head r, List.countP_cons]; rfl
  rw [this]
  have e : (p ∘ fun x => c :: x) = fun L => p (c :: L) := rfl
  rw [e]
  omega
theorem lex_sub : ∀ {cs L : List Int}, L ∈ lex cs → L.Sublist cs
  | [], L, h => by
    have : L = [] := by simpa [lex] using h
    subst this; exact .slnil
  | c :: r, L, h => by
    unfold lex at h
    rcases List.mem_cons.mp h with rfl | h
    · exact List.nil_sublist _
    · rcases List.mem_append.mp h with h | h
      · obtain ⟨L', h', rfl⟩ := List.mem_map.mp h
        exact (lex_sub h').cons₂ c
      · exact (lex_sub (List.mem_of_mem_tail h)).cons c
theorem sub_lex : ∀ {cs L : List Int}, L.Sublist cs → L ∈ lex cs
  | [], L, h => by
    have : L = [] := List.sublist_nil.mp h
    subst this; simp [lex]
  | c :: r, [], h => by unfold lex; exact List.mem_cons_self
  | c :: r, x :: L, h => by
    unfold lex
    refine List.mem_cons_of_mem _ (List.mem_append.mpr ?_)
    cases h with
    | cons _ h =>
      right
      have := sub_lex h
      rw [lex_head r] at this
      rcases List.mem_cons.mp this with e | e
      · cases e
      · exact e
    | cons_cons _ h => exact .inl (List.mem_map.mpr ⟨L, sub_lex h, rfl⟩)

/-! ### guesses -/
abbrev Gs := List (Int × Bool)
def gl (g : Gs) (c : Int) : Option Bool := g.lookup c
/-- L agrees with g at the cells cs -/
def agr (g : Gs) (cs : List Int) (L : List Int) : Bool := cs.all fun c => match gl g c with
  | some v => decide (c ∈ L) == v
  | none => true
def mi (g : Gs) (xs : List Int) : Nat := xs.countP fun c => gl g c == some true
def un (g : Gs) (xs : List Int) : Nat := xs.countP fun c => gl g c == none
theorem agr_nil (g : Gs) (L : List Int) : agr g [] L = true := rfl
theorem agr_cons (g : Gs) (c : Int) (cs L : List Int) : agr g (c :: cs) L = ((match gl g c with
  | some v => decide (c ∈ L) == v
  | none => true) && agr g cs L) := rfl
theorem agr_skip {g : Gs} {c : Int} : ∀ {cs : List Int} {L : List Int}, c ∉ cs → agr g cs (c :: L) = agr g cs L
  | [], L, _ => rfl
  | x :: cs, L, h => by
    have hx : ¬ x = c := fun e => h (by simp [e])
    have hc : c ∉ cs := fun z => h (by simp [z])
    rw [agr_cons, agr_cons, agr_skip hc]
    have : decide (x ∈ c :: L) = decide (x ∈ L) := by simp [hx]
    rw [this]
/-- the sublists that agree, of t members -/
theorem count_total (g : Gs) : ∀ {cs : List Int} (t : Nat), cs.Nodup → (lex cs).countP (fun L => agr g cs L && decide (L.length = t)) = if t < mi g cs then 0 else bn (un g cs) (t - mi g cs)
  | [], t, _ => by
    cases t with
    | zero => rfl
    | succ t =>
      show (if (agr g [] [] && decide (0 = t + 1)) = true then 1 else 0) = _
      simp [mi, un, bn]
  | c :: r, t, nd => by
    obtain ⟨n1, n2⟩ := List.nodup_cons.mp nd
    rw [lex_count]
    have hmem : ∀ L ∈ lex r, c ∉ L := fun L hL z => n1 ((lex_sub hL).subset z)
    have e1 : (lex r).countP (fun L => agr g (c :: r) (c :: L) && decide ((c :: L).length = t)) =
        (lex r).countP (fun L => (match gl g c with
          | some v => v
          | none => true) && (agr g r L && decide (L.length + 1 = t))) := by
      refine List.countP_congr fun L hL => ?_
      rw [agr_cons, agr_skip n1]
      cases gl g c with
      | none => simp
      | some v => cases v <;> simp
    have e2 : (lex r).countP (fun L => agr g (c :: r) L && decide (L.length = t)) =
        (lex r).countP (fun L => (match gl g c with
          | some v => !v
          | none => true) && (agr g r L && decide (L.length = t))) := by
      refine List.countP_congr fun L hL => ?_
      rw [agr_cons]
      have := hmem L hL
      cases gl g c with
      | none => simp
      | some v => cases v <;> simp [this]
    rw [e1, e2]
    have ih := count_total g (cs := r)
    cases q : gl g c with
    | none =>
      have hm : mi g (c :: r) = mi g r := by unfold mi; rw [List.countP_cons, q]; simp
      have hu : un g (c :: r) = un g r + 1 := by unfold un; rw [List.countP_cons, q]; simp
      simp only [Bool.true_and]
      rw [hm, hu, ih t n2]
      cases t with
      | zero =>
        have : (lex r).countP (fun L => agr g r L && decide (L.length + 1 = 0)) = 0 := by
          rw [List.countP_eq_zero]; intro L _; simp
        rw [this, Nat.zero_add]
        by_cases h : 0 < mi g r
        · rw [if_pos h, if_pos h]
        · rw [if_neg h, if_neg h]
          have : 0 - mi g r = 0 := by omega
          rw [this, bn_zero, bn_zero]
      | succ t =>
        have : (lex r).countP (fun L => agr g r L && decide (L.length + 1 = t + 1)) = (lex r).countP (fun L => agr g r L && decide (L.length = t)) := by
          refine List.countP_congr fun L _ => ?_
          simp
        rw [this, ih t n2]
        by_cases h : t + 1 < mi g r
        · rw [if_pos h, if_pos h, if_pos (by omega)]
        · rw [if_neg h, if_neg h]
          by_cases h2 : t < mi g r
          · rw [if_pos h2]
            have : t + 1 - mi g r = 0 := by omega
            rw [this, bn_zero, bn_zero]
          · rw [if_neg h2]
            have : t + 1 - mi g r = (t - mi g r) + 1 := by omega
            rw [this]; rfl
    | some v =>
      have hu : un g (c :: r) = un g r := by unfold un; rw [List.countP_cons, q]; simp
      cases v with
      | true =>
        have hm : mi g (c :: r) = mi g r + 1 := by unfold mi; rw [List.countP_cons, q]; simp
        have z : (lex r).countP (fun L => (!true) && (agr g r L && decide (L.length = t))) = 0 := by
          rw [List.countP_eq_zero]; intro L _; simp
        simp only [Bool.true_and]
        rw [z, Nat.add_zero, hm, hu]
        cases t with
        | zero =>
          have : (lex r).countP (fun L => agr g r L && decide (L.length + 1 = 0)) = 0 := by
            rw [List.countP_eq_zero]; intro L _; simp
          rw [this, if_pos (by omega)]
        | succ t =>
          have : (lex r).countP (fun L => agr g r L && decide (L.length + 1 = t + 1)) = (lex r).countP (fun L => agr g r L && decide (L.length = t)) := by
            refine List.countP_congr fun L _ => ?_
            simp
          rw [this, ih t n2]
          by_cases h : t < mi g r
          · rw [if_pos h, if_pos (by omega)]
          · rw [if_neg h, if_neg (by omega)]
            congr 1; omega
      | false =>
        have hm : mi g (c :: r) = mi g r := by unfold mi; rw [List.countP_cons, q]; simp
        have z : (lex r).countP (fun L => false && (agr g r L && decide (L.length + 1 = t))) = 0 := by
          rw [List.countP_eq_zero]; intro L _; simp
        simp only [Bool.not_false, Bool.true_and]
        rw [z, Nat.zero_add, hm, hu, ih t n2]
/-- the sublists that agree -/
theorem count_all (g : Gs) : ∀ {cs : List Int}, cs.Nodup → (lex cs).countP (fun L => agr g cs L) = 2 ^ un g cs
  | [], _ => rfl
  | c :: r, nd => by
    obtain ⟨n1, n2⟩ := List.nodup_cons.mp nd
    rw [lex_count]
    have hmem : ∀ L ∈ lex r, c ∉ L := fun L hL z => n1 ((lex_sub hL).subset z)
    have e1 : (lex r).countP (fun L => agr g (c :: r) (c :: L)) = (lex r).countP (fun L => (match gl g c with
          | some v => v
          | none => true) && agr g r L) := by
      refine List.countP_congr fun L hL => ?_
      rw [agr_cons, agr_skip n1]
      cases gl g c with
      | none => simp
      | some v => cases v <;> simp
    have e2 : (lex r).countP (fun L => agr g (c :: r) L) = (lex r).countP (fun L => (match gl g c with
          | some v => !v
          | none => true) && agr g r L) := by
      refine List.countP_congr fun L hL => ?_
      rw [agr_cons]
      have := hmem L hL
      cases gl g c with
      | none => simp
      | some v => cases v <;> simp [this]
    rw [e1, e2]
    have ih := count_all g n2
    cases q : gl g c with
    | none =>
      have hu : un g (c :: r) = un g r + 1 := by unfold un; rw [List.countP_cons, q]; simp
      simp only [Bool.true_and]
      rw [ih, hu, Nat.pow_succ]; omega
    | some v =>
      have hu : un g (c :: r) = un g r := by unfold un; rw [List.countP_cons, q]; simp
      rw [hu, ← ih]
      cases v <;> simp
end Hm

-- M2
namespace Hm

/-- what a field's numbers ask: covered cells; each opened cell with its covered cells beside it and its need; the total; the rim -/
structure Bd where
  cells : List Int
  nn : List (Int × List Int × Int)
  total : Option Int
  rim : List Int
structure Bd.Good (b : Bd) : Prop where
  nd : b.cells.Nodup
  sub : ∀ e ∈ b.nn, ∀ c ∈ e.2.1, c ∈ b.cells
  rim : b.rim = b.cells.filter fun c => b.nn.any fun e => decide (c ∈ e.2.1)
def okN (b : Bd) (L : List Int) : Bool := b.nn.all fun e => decide (((e.2.1.countP fun c => decide (c ∈ L) : Nat) : Int) = e.2.2)
def okT (b : Bd) (L : List Int) : Bool := match b.total with
  | none => true
  | some t => decide ((L.length : Int) = t)
def ok (b : Bd) (g : Gs) (L : List Int) : Bool := okN b L && (okT b L && agr g b.cells L)
/-- how many layings go with the guesses -/
def N (b : Bd) (g : Gs) : Nat := (lex b.cells).countP (ok b g)
def isBr (xs : List Int) (need : Int) (g : Gs) : Bool := decide ((mi g xs : Int) > need) || decide ((mi g xs : Int) + (un g xs : Int) < need)
def broken (b : Bd) (g : Gs) : Bool := (b.nn.any fun e => isBr e.2.1 e.2.2 g) || (match b.total with
  | none => false
  | some t => isBr b.cells t g)
theorem agr_mem {g : Gs} {cs L : List Int} (h : agr g cs L = true) {c : Int} (hc : c ∈ cs) {v : Bool} (e : gl g c = some v) : decide (c ∈ L) = v := by
  have := List.all_eq_true.mp h c hc
  rw [e] at this
  exact eq_of_beq this
theorem mi_cons (g : Gs) (c : Int) (xs : List Int) : mi g (c :: xs) = mi g xs + (if gl g c = some true then 1 else 0) := by
  unfold mi; rw [List.countP_cons]
  congr 1
  by_cases h : gl g c = some true
  · rw [if_pos h, if_pos (by rw [h]; rfl)]
  · rw [if_neg h, if_neg (by intro e; exact h (by simpa using e))]
theorem un_cons (g : Gs) (c : Int) (xs : List Int) : un g (c :: xs) = un g xs + (if gl g c = none then 1 else 0) := by
  unfold un; rw [List.countP_cons]
  congr 1
  by_cases h : gl g c = none
  · rw [if_pos h, if_pos (by rw [h]; rfl)]
  · rw [if_neg h, if_neg (by intro e; exact h (by simpa using e))]
theorem bounds {g : Gs} {cs L : List Int} (h : agr g cs L = true) : ∀ {xs : List Int}, (∀ c ∈ xs, c ∈ cs) → mi g xs ≤ xs.countP (fun c => decide (c ∈ L)) ∧ xs.countP (fun c => decide (c ∈ L)) ≤ mi g xs + un g xs
  | [], _ => by simp [mi, un]
  | c :: xs, hs => by
    obtain ⟨h1, h2⟩ := bounds h (xs := xs) fun c hc => hs c (List.mem_cons_of_mem _ hc)
    rw [List.countP_cons, mi_cons, un_cons]
    cases q : gl g c with
    | none =>
      rw [if_neg (by simp), if_pos rfl]
      by_cases z : c ∈ L
      · rw [if_pos (decide_eq_true z)]; omega
      · rw [if_neg (by simpa using z)]; omega
    | some v =>
      have := agr_mem h (hs c List.mem_cons_self) q
      cases v with
      | true =>
        have z : c ∈ L := of_decide_eq_true this
        rw [if_pos (decide_eq_true z), if_pos rfl, if_neg (by simp)]; omega
      | false =>
        have z : ¬ c ∈ L := of_decide_eq_false this
        rw [this]; simp; omega
/-- a sublist's length, as a count -/
theorem len_count : ∀ {cs L : List Int}, cs.Nodup → L.Sublist cs → cs.countP (fun c => decide (c ∈ L)) = L.length
  | [], L, _, h => by
    have : L = [] := List.sublist_nil.mp h
    subst this; rfl
  | c :: cs, L, nd, h => by
    obtain ⟨n1, n2⟩ := List.nodup_cons.mp nd
    rw [List.countP_cons]
    cases h with
    | cons _ h =>
      have z : ¬ c ∈ L := fun z => n1 (h.subset z)
      rw [len_count n2 h]; simp [z]
    | cons_cons _ h =>
      rename_i L
      have : cs.countP (fun x => decide (x ∈ c :: L)) = cs.countP (fun x => decide (x ∈ L)) := by
        refine List.countP_congr fun x hx => ?_
        have : ¬ x = c := fun e => n1 (e ▸ hx)
        simp [this]
      rw [this, len_count n2 h]; simp
theorem broken_N {b : Bd} (G : b.Good) {g : Gs} (h : broken b g = true) : N b g = 0 := by
  unfold N
  rw [List.countP_eq_zero]
  intro L hL hok
  have hL := lex_sub hL
  unfold ok at hok
  have h1 := Bool.and_eq_true_iff.mp hok
  have h2 := Bool.and_eq_true_iff.mp h1.2
  unfold broken at h
  rcases Bool.or_eq_true_iff.mp h with h | h
  · obtain ⟨e, he, hb⟩ := List.any_eq_true.mp h
    have a := of_decide_eq_true (List.all_eq_true.mp h1.1 e he)
    obtain ⟨b1, b2⟩ := bounds h2.2 (G.sub e he)
    unfold isBr at hb
    rcases Bool.or_eq_true_iff.mp hb with z | z
    · have := of_decide_eq_true z; omega
    · have := of_decide_eq_true z; omega
  · unfold okT at h2
    cases q : b.total with
    | none => rw [q] at h; cases h
    | some t =>
      rw [q] at h h2
      have a := of_decide_eq_true h2.1
      obtain ⟨b1, b2⟩ := bounds h2.2 (xs := b.cells) fun c hc => hc
      rw [len_count G.nd hL] at b1 b2
      have h : isBr b.cells t g = true := h
      unfold isBr at h
      rcases Bool.or_eq_true_iff.mp h with z | z
      · have := of_decide_eq_true z; omega
      · have := of_decide_eq_true z; omega
/-! ### a guess more -/
theorem gl_snoc (g : Gs) (c : Int) (v : Bool) (x : Int) : gl (g ++ [(c, v)]) x = (gl g x).or (if x = c then some v else none) := by
  unfold gl
  induction g with
  | nil =>
    show List.lookup x [(c, v)] = _
    by_cases h : x = c
    · subst h; simp [List.lookup]
    · have : (x == c) = false := by simpa using h
      simp [List.lookup, this, h]
  | cons p r ih =>
    obtain ⟨k, w⟩ := p
    show List.lookup x ((k, w) :: (r ++ [(c, v)])) = _
    by_cases h : x = k
    · subst h; simp [List.lookup]
    · have : (x == k) = false := by simpa using h
      simp only [List.lookup, this]
      exact ih
theorem agr_snoc {g : Gs} {c : Int} {v : Bool} (h : gl g c = none) : ∀ {cs : List Int} {L : List Int}, c ∈ cs → agr (g ++ [(c, v)]) cs L = (agr g cs L && (decide (c ∈ L) == v)) := by
  intro cs L hc
  rw [Bool.eq_iff_iff, Bool.and_eq_true_iff]
  unfold agr
  rw [List.all_eq_true, List.all_eq_true]
  constructor
  · intro a
    refine ⟨fun x hx => ?_, ?_⟩
    · have := a x hx
      rw [gl_snoc] at this
      cases q : gl g x with
      | none => rfl
      | some w => rw [q] at this; exact this
    · have := a c hc
      rw [gl_snoc, h] at this
      simpa using this
  · rintro ⟨a, e⟩ x hx
    rw [gl_snoc]
    have := a x hx
    cases q : gl g x with
    | some w => rw [q] at this; exact this
    | none =>
      by_cases z : x = c
      · subst z; simpa using e
      · simp [z]
theorem N_split {b : Bd} {g : Gs} {c : Int} (h : gl g c = none) (hc : c ∈ b.cells) : N b g = N b (g ++ [(c, true)]) + N b (g ++ [(c, false)]) := by
  unfold N
  have e : ∀ v L, ok b (g ++ [(c, v)]) L = (ok b g L && (decide (c ∈ L) == v)) := fun v L => by
    unfold ok
    rw [agr_snoc h hc]
    simp only [Bool.and_assoc]
  have key : ∀ l : List (List Int), l.countP (ok b g) = l.countP (ok b (g ++ [(c, true)])) + l.countP (ok b (g ++ [(c, false)])) := by
    intro l
    induction l with
    | nil => rfl
    | cons L r ih =>
      rw [List.countP_cons, List.countP_cons, List.countP_cons, ih, e, e]
      cases ok b g L <;> cases decide (c ∈ L) <;> simp <;> omega
  exact key _
end Hm

-- M3
namespace Hm

def free (g : Gs) (xs : List Int) : List Int := xs.filter fun c => gl g c == none
theorem free_un (g : Gs) (xs : List Int) : (free g xs).length = un g xs := by unfold free un; rw [List.countP_eq_length_filter]
def less (u : List Int) : Option (List Int) → Bool
  | none => true
  | some b => decide (u.length < b.length)
def bestOf (g : Gs) : List (Int × List Int × Int) → Option (List Int) → Option (List Int)
  | [], best => best
  | e :: r, best => bestOf g r (if free g e.2.1 ≠ [] ∧ less (free g e.2.1) best = true then some (free g e.2.1) else best)
def nextCell (b : Bd) (g : Gs) : Option Int := (bestOf g b.nn none).bind fun l => l.head?
theorem bestOf_some (g : Gs) : ∀ {l : List (Int × List Int × Int)} {best : Option (List Int)} {u : List Int}, bestOf g l best = some u → best = some u ∨ ∃ e ∈ l, u = free g e.2.1 ∧ u ≠ []
  | [], best, u, h => .inl h
  | e :: r, best, u, h => by
    unfold bestOf at h
    rcases bestOf_some g h with z | ⟨e', he', z⟩
    · split at z
      · rename_i c
        cases z
        exact .inr ⟨e, List.mem_cons_self, rfl, c.1⟩
      · exact .inl z
    · exact .inr ⟨e', List.mem_cons_of_mem _ he', z⟩
theorem bestOf_none (g : Gs) : ∀ {l : List (Int × List Int × Int)} {best : Option (List Int)}, bestOf g l best = none → best = none ∧ ∀ e ∈ l, free g e.2.1 = []
  | [], best, h => ⟨h, fun e he => by cases he⟩
  | e :: r, best, h => by
    unfold bestOf at h
    obtain ⟨z, zr⟩ := bestOf_none g h
    split at z
    · cases z
    · rename_i c
      subst z
      refine ⟨rfl, fun e' he' => ?_⟩
      rcases List.mem_cons.mp he' with rfl | he'
      · by_cases q : free g e'.2.1 = []
        · exact q
        · exact absurd ⟨q, rfl⟩ c
      · exact zr e' he'
/-- choices, by an int -/
def chI (n : Nat) (k : Int) : Nat := if k < 0 ∨ k > (n : Int) then 0 else chN n k.toNat
theorem chI_bn (n : Nat) (k : Int) : chI n k = if k < 0 then 0 else bn n k.toNat := by
  unfold chI
  by_cases h : k < 0
  · rw [if_pos (.inl h), if_pos h]
  · rw [if_neg h]
    by_cases h2 : k > (n : Int)
    · rw [if_pos (.inr h2), bn_gt (by omega)]
    · rw [if_neg (by omega), chN_bn]
def far (b : Bd) (g : Gs) : Nat :=
  let u := (free g (b.cells.filter fun c => !decide (c ∈ b.rim))).length
  match b.total with
  | none => 2 ^ u
  | some t => chI u (t - (g.countP (·.2) : Nat))
structure GoodG (b : Bd) (g : Gs) : Prop where
  nd : (g.map (·.1)).Nodup
  sub : ∀ p ∈ g, p.1 ∈ b.cells
theorem gl_cons (k : Int) (v : Bool) (r : Gs) (c : Int) : gl ((k, v) :: r) c = if c = k then some v else gl r c := by
  unfold gl
  by_cases h : c = k
  · subst h; simp [List.lookup]
  · have : (c == k) = false := by simpa using h
    simp [List.lookup, this, h]
theorem gl_none {g : Gs} {c : Int} (h : c ∉ g.map (·.1)) : gl g c = none := by
  induction g with
  | nil => rfl
  | cons p r ih =>
    obtain ⟨k, v⟩ := p
    rw [gl_cons, if_neg (fun e => h (by simp [e]))]
    exact ih fun z => h (by simp at z ⊢; exact .inr z)
theorem count_one {f : Int → Bool} {k : Int} {a : Bool} (hf : f k = false) : ∀ {cs : List Int}, cs.Nodup → k ∈ cs → cs.countP (fun c => if c = k then a else f c) = cs.countP f + (if a = true then 1 else 0)
  | c :: cs, nd, h => by
    obtain ⟨n1, n2⟩ := List.nodup_cons.mp nd
    rw [List.countP_cons, List.countP_cons]
    by_cases e : c = k
    · subst e
      have : cs.countP (fun x => if x = c then a else f x) = cs.countP f := by
        refine List.countP_congr fun x hx => ?_
        have : ¬ x = c := fun e => n1 (e ▸ hx)
        rw [if_neg this]
      rw [this, hf]; simp
    · have hk : k ∈ cs := by
        rcases List.mem_cons.mp h with z | z
        · exact absurd z.symm e
        · exact z
      rw [count_one hf n2 hk, if_neg e]; omega
theorem mines_count : ∀ {g : Gs} {cs : List Int}, cs.Nodup → (g.map (·.1)).Nodup → (∀ p ∈ g, p.1 ∈ cs) → g.countP (·.2) = mi g cs
  | [], cs, _, _, _ => by
    unfold mi
    show 0 = _
    rw [eq_comm, List.countP_eq_zero]
    intro c _; simp [gl]
  | (k, v) :: r, cs, nc, nd, hs => by
    obtain ⟨n1, n2⟩ := List.nodup_cons.mp (show (k :: r.map (·.1)).Nodup from nd)
    rw [List.countP_cons, mines_count nc n2 fun p hp => hs p (List.mem_cons_of_mem _ hp)]
    have hk : k ∈ cs := hs (k, v) List.mem_cons_self
    have hn : gl r k = none := gl_none n1
    unfold mi
    have : cs.countP (fun c => gl ((k, v) :: r) c == some true) = cs.countP (fun c => if c = k then v else gl r c == some true) := by
      refine List.countP_congr fun c _ => ?_
      rw [gl_cons]
      by_cases e : c = k
      · rw [if_pos e, if_pos e]; cases v <;> simp
      · rw [if_neg e, if_neg e]
    rw [this, count_one (by rw [hn]; rfl) nc hk]
theorem un_far {b : Bd} (G : b.Good) {g : Gs} (h : ∀ e ∈ b.nn, free g e.2.1 = []) : (free g (b.cells.filter fun c => !decide (c ∈ b.rim))).length = un g b.cells := by
  rw [← free_un]
  congr 1
  unfold free
  rw [List.filter_filter]
  refine List.filter_congr fun c hc => ?_
  cases q : gl g c with
  | some v => simp
  | none =>
    have : ¬ c ∈ b.rim := fun z => by
      rw [G.rim, List.mem_filter] at z
      obtain ⟨e, he, hce⟩ := List.any_eq_true.mp z.2
      have hce := of_decide_eq_true hce
      have : c ∈ free g e.2.1 := by
        unfold free; rw [List.mem_filter]; exact ⟨hce, by rw [q]; rfl⟩
      rw [h e he] at this; cases this
    simp [this]
theorem far_N {b : Bd} (G : b.Good) {g : Gs} (Gg : GoodG b g) (hb : broken b g = false) (h : ∀ e ∈ b.nn, free g e.2.1 = []) : far b g = N b g := by
  have hN : ∀ L ∈ lex b.cells, agr g b.cells L = true → okN b L = true := by
    intro L hL ha
    unfold okN
    rw [List.all_eq_true]
    intro e he
    obtain ⟨b1, b2⟩ := bounds ha (G.sub e he)
    have hu : un g e.2.1 = 0 := by rw [← free_un, h e he]; rfl
    have hb' : isBr e.2.1 e.2.2 g = false := by
      unfold broken at hb
      have := (Bool.or_eq_false_iff.mp hb).1
      rw [List.any_eq_false] at this
      simpa using this e he
    unfold isBr at hb'
    have h1 := of_decide_eq_false (Bool.or_eq_false_iff.mp hb').1
    have h2 := of_decide_eq_false (Bool.or_eq_false_iff.mp hb').2
    exact decide_eq_true (by omega)
  unfold far N
  simp only
  rw [un_far G h]
  cases q : b.total with
  | none =>
    simp only
    rw [← count_all g G.nd]
    refine List.countP_congr fun L hL => ?_
    unfold ok okT
    rw [q]
    constructor
    · intro ha; rw [hN L hL ha]; simpa using ha
    · intro ha
      have := (Bool.and_eq_true_iff.mp ha).2
      simpa using this
  | some t =>
    simp only
    rw [chI_bn, mines_count G.nd Gg.nd Gg.sub]
    by_cases ht : t < 0
    · rw [if_pos (by omega)]
      rw [eq_comm, List.countP_eq_zero]
      intro L hL ha
      unfold ok okT at ha
      rw [q] at ha
      have := of_decide_eq_true (Bool.and_eq_true_iff.mp (Bool.and_eq_true_iff.mp ha).2).1
      omega
    · have e : (lex b.cells).countP (ok b g) = (lex b.cells).countP (fun L => agr g b.cells L && decide (L.length = t.toNat)) := by
        refine List.countP_congr fun L hL => ?_
        unfold ok okT
        rw [q]
        simp only [Bool.and_eq_true, decide_eq_true_eq]
        constructor
        · rintro ⟨_, h2, h3⟩; exact ⟨h3, by omega⟩
        · rintro ⟨h2, h3⟩; exact ⟨hN L hL h2, by omega, h2⟩
      rw [e, count_total g t.toNat G.nd]
      by_cases z : t - (mi g b.cells : Int) < 0
      · rw [if_pos z, if_pos (by omega)]
      · rw [if_neg z, if_neg (by omega)]
        congr 1; omega
/-! ### many_by -/
def manyBy (b : Bd) : Nat → Gs → Option Nat
  | 0, _ => none
  | n + 1, g => if broken b g = true then some 0 else match nextCell b g with
    | none => some (far b g)
    | some c => (manyBy b n (g ++ [(c, true)])).bind fun x => (manyBy b n (g ++ [(c, false)])).bind fun y => some (x + y)
theorem next_some {b : Bd} (G : b.Good) {g : Gs} {c : Int} (h : nextCell b g = some c) : gl g c = none ∧ c ∈ b.cells := by
  unfold nextCell at h
  cases q : bestOf g b.nn none with
  | none => rw [q] at h; cases h
  | some u =>
    rw [q] at h
    rcases bestOf_some g q with z | ⟨e, he, rfl, _⟩
    · cases z
    · have hc : c ∈ free g e.2.1 := List.mem_of_head? h
      unfold free at hc
      rw [List.mem_filter] at hc
      exact ⟨by simpa using hc.2, G.sub e he c hc.1⟩
theorem next_none {b : Bd} {g : Gs} (h : nextCell b g = none) : ∀ e ∈ b.nn, free g e.2.1 = [] := by
  unfold nextCell at h
  cases q : bestOf g b.nn none with
  | none => exact (bestOf_none g q).2
  | some u =>
    rw [q] at h
    rcases bestOf_some g q with z | ⟨e, he, rfl, hne⟩
    · cases z
    · have : (free g e.2.1).head? = none := h
      exact absurd (List.head?_eq_none_iff.mp this) hne
theorem GoodG.snoc {b : Bd} {g : Gs} {c : Int} {v : Bool} (Gg : GoodG b g) (h : gl g c = none) (hc : c ∈ b.cells) : GoodG b (g ++ [(c, v)]) where
  nd := by
    rw [List.map_append]
    refine List.nodup_append.mpr ⟨Gg.nd, by simp, fun x hx y hy e => ?_⟩
    have : y = c := by simpa using hy
    subst this; subst e
    obtain ⟨p, hp, rfl⟩ := List.mem_map.mp hx
    have : ∀ {g : Gs}, p ∈ g → gl g p.1 ≠ none := by
      intro g
      induction g with
      | nil => intro h; cases h
      | cons q r ih =>
        obtain ⟨k, w⟩ := q
        intro h
        rw [gl_cons]
        by_cases z : p.1 = k
        · rw [if_pos z]; simp
        · rw [if_neg z]
          rcases List.mem_cons.mp h with e | e
          · exact absurd (by rw [e]) z
          · exact ih e
    exact this hp h
  sub := fun p hp => by
    rcases List.mem_append.mp hp with z | z
    · exact Gg.sub p z
    · have : p = (c, v) := by simpa using z
      subst this; exact hc
theorem un_snoc {g : Gs} {c : Int} {v : Bool} (h : gl g c = none) : ∀ {cs : List Int}, cs.Nodup → c ∈ cs → un (g ++ [(c, v)]) cs + 1 = un g cs
  | x :: cs, nd, hc => by
    obtain ⟨n1, n2⟩ := List.nodup_cons.mp nd
    rw [un_cons, un_cons, gl_snoc]
    by_cases e : x = c
    · subst e
      have : un (g ++ [(x, v)]) cs = un g cs := by
        unfold un
        refine List.countP_congr fun y hy => ?_
        have : ¬ y = x := fun e => n1 (e ▸ hy)
        rw [gl_snoc, if_neg this]; simp
      rw [this, h]; simp
    · have hk : c ∈ cs := by
        rcases List.mem_cons.mp hc with z | z
        · exact absurd z.symm e
        · exact z
      have := un_snoc h n2 hk (v := v)
      rw [if_neg e]
      simp
      omega
theorem manyBy_N {b : Bd} (G : b.Good) : ∀ (n : Nat) (g : Gs), GoodG b g → un g b.cells < n → manyBy b n g = some (N b g)
  | 0, g, _, h => by omega
  | n + 1, g, Gg, h => by
    unfold manyBy
    cases hb : broken b g with
    | true => rw [if_pos rfl, broken_N G hb]
    | false =>
      rw [if_neg (by decide)]
      cases q : nextCell b g with
      | none => simp only; rw [far_N G Gg hb (next_none q)]
      | some c =>
        obtain ⟨hc, hm⟩ := next_some G q
        have u1 := un_snoc (v := true) hc G.nd hm
        have u2 := un_snoc (v := false) hc G.nd hm
        simp only
        rw [manyBy_N G n _ (Gg.snoc hc hm) (by omega), manyBy_N G n _ (Gg.snoc hc hm) (by omega), N_split hc hm]
        rfl
end Hm

-- M4
namespace Hm

/-! ### several cells guessed alike -/
def setG : Gs → Int → Bool → Gs
  | [], c, v => [(c, v)]
  | (k, w) :: r, c, v => if k = c then (k, v) :: r else (k, w) :: setG r c v
/-- None where they gainsay -/
def withC : Gs → List Int → Bool → Option Gs
  | g, [], _ => some g
  | g, c :: cs, v => if (gl g c).getD v = v then withC (setG g c v) cs v else none
theorem gl_set : ∀ (g : Gs) (c : Int) (v : Bool) (x : Int), gl (setG g c v) x = if x = c then some v else gl g x
  | [], c, v, x => by
    show gl [(c, v)] x = _
    rw [gl_cons]
  | (k, w) :: r, c, v, x => by
    unfold setG
    by_cases h : k = c
    · rw [if_pos h, gl_cons, gl_cons]
      by_cases e : x = k
      · rw [if_pos e, if_pos (e.trans h)]
      · rw [if_neg e, if_neg (fun z => e (z.trans h.symm)), if_neg e]
    · rw [if_neg h, gl_cons, gl_cons, gl_set r c v x]
      by_cases e : x = k
      · rw [if_pos e, if_neg (fun z => h (e.symm.trans z)), if_pos e]
      · rw [if_neg e, if_neg e]
theorem set_keys : ∀ (g : Gs) (c : Int) (v : Bool), ∀ x, x ∈ (setG g c v).map (·.1) ↔ x ∈ g.map (·.1) ∨ x = c
  | [], c, v, x => by show x ∈ [c] ↔ _; simp
  | (k, w) :: r, c, v, x => by
    unfold setG
    by_cases h : k = c
    · rw [if_pos h]
      show x ∈ k :: r.map (·.1) ↔ x ∈ k :: r.map (·.1) ∨ x = c
      constructor
      · intro z; exact .inl z
      · rintro (z | z)
        · exact z
        · rw [z, ← h]; exact List.mem_cons_self
    · rw [if_neg h]
      show x ∈ k :: (setG r c v).map (·.1) ↔ x ∈ k :: r.map (·.1) ∨ x = c
      rw [List.mem_cons, List.mem_cons, set_keys r c v x]
      constructor
      · rintro (z | z | z)
        · exact .inl (.inl z)
        · exact .inl (.inr z)
        · exact .inr z
      · rintro ((z | z) | z)
        · exact .inl z
        · exact .inr (.inl z)
        · exact .inr (.inr z)
theorem set_nd : ∀ {g : Gs} {c : Int} {v : Bool}, (g.map (·.1)).Nodup → ((setG g c v).map (·.1)).Nodup
  | [], c, v, _ => by show [c].Nodup; simp
  | (k, w) :: r, c, v, h => by
    obtain ⟨n1, n2⟩ := List.nodup_cons.mp (show (k :: r.map (·.1)).Nodup from h)
    unfold setG
    by_cases z : k = c
    · rw [if_pos z]; exact h
    · rw [if_neg z]
      show (k :: (setG r c v).map (·.1)).Nodup
      refine List.nodup_cons.mpr ⟨fun m => ?_, set_nd n2⟩
      rcases (set_keys r c v k).mp m with m | m
      · exact n1 m
      · exact z m
theorem GoodG.set {b : Bd} {g : Gs} {c : Int} {v : Bool} (Gg : GoodG b g) (hc : c ∈ b.cells) : GoodG b (setG g c v) where
  nd := set_nd Gg.nd
  sub := fun p hp => by
    rcases (set_keys g c v p.1).mp (List.mem_map.mpr ⟨p, hp, rfl⟩) with z | z
    · obtain ⟨q, hq, e⟩ := List.mem_map.mp z
      rw [← e]; exact Gg.sub q hq
    · rw [z]; exact hc
/-- L has the cells cs just if v -/
def has (cs : List Int) (v : Bool) (L : List Int) : Bool := cs.all fun c => decide (c ∈ L) == v
theorem agr_set {g : Gs} {c : Int} {v : Bool} {cells L : List Int} (hc : c ∈ cells) : (agr (setG g c v) cells L && ((gl g c).getD v == v)) = (agr g cells L && (decide (c ∈ L) == v)) := by
  rw [Bool.eq_iff_iff, Bool.and_eq_true_iff, Bool.and_eq_true_iff]
  unfold agr
  rw [List.all_eq_true, List.all_eq_true]
  constructor
  · rintro ⟨a, e⟩
    have hL : (decide (c ∈ L) == v) = true := by
      have := a c hc
      rw [gl_set, if_pos rfl] at this
      exact this
    refine ⟨fun x hx => ?_, hL⟩
    by_cases z : x = c
    · subst z
      cases q : gl g x with
      | none => rfl
      | some w =>
        rw [q] at e
        have : w = v := eq_of_beq e
        subst this; exact hL
    · have := a x hx
      rw [gl_set, if_neg z] at this; exact this
  · rintro ⟨a, e⟩
    refine ⟨fun x hx => ?_, ?_⟩
    · rw [gl_set]
      by_cases z : x = c
      · subst z; rw [if_pos rfl]; exact e
      · rw [if_neg z]; exact a x hx
    · have := a c hc
      cases q : gl g c with
      | none => simp
      | some w =>
        rw [q] at this
        have h1 : decide (c ∈ L) = w := eq_of_beq this
        have h2 : decide (c ∈ L) = v := eq_of_beq e
        simp [← h1, h2]
theorem withC_N {b : Bd} : ∀ {cs : List Int} {g : Gs} {v : Bool}, GoodG b g → (∀ c ∈ cs, c ∈ b.cells) →
    (match withC g cs v with
    | some g' => GoodG b g' ∧ ∀ L, ok b g' L = (ok b g L && has cs v L)
    | none => ∀ L, (ok b g L && has cs v L) = false)
  | [], g, v, Gg, _ => ⟨Gg, fun L => by simp [has]⟩
  | c :: cs, g, v, Gg, hs => by
    have hc := hs c List.mem_cons_self
    have hh : ∀ L, has (c :: cs) v L = ((decide (c ∈ L) == v) && has cs v L) := fun L => rfl
    unfold withC
    by_cases h : (gl g c).getD v = v
    · rw [if_pos h]
      have ih := withC_N (cs := cs) (v := v) (Gg.set (v := v) hc) fun x hx => hs x (List.mem_cons_of_mem _ hx)
      have key : ∀ L, ok b (setG g c v) L = (ok b g L && (decide (c ∈ L) == v)) := fun L => by
        have := agr_set (g := g) (v := v) (L := L) hc
        have e : ((gl g c).getD v == v) = true := by rw [h]; simp
        rw [e, Bool.and_true] at this
        unfold ok
        rw [this]
        simp only [Bool.and_assoc]
      cases q : withC (setG g c v) cs v with
      | some g' =>
        rw [q] at ih
        refine ⟨ih.1, fun L => ?_⟩
        rw [ih.2 L, key, hh, Bool.and_assoc]
      | none =>
        rw [q] at ih
        intro L
        have := ih L
        rw [key, Bool.and_assoc] at this
        rw [hh]; exact this
    · rw [if_neg h]
      intro L
      rw [hh]
      have := agr_set (g := g) (v := v) (L := L) hc
      have e : ((gl g c).getD v == v) = false := by simpa using h
      rw [e, Bool.and_false] at this
      unfold ok
      cases okN b L <;> cases okT b L <;> simp
      · intro h1 h2
        rw [h1] at this
        have h3 : (decide (c ∈ L) == v) = false := by simpa using this.symm
        rw [h2] at h3
        simp at h3
end Hm

-- M5
namespace Hm

/-! ### the layings in their order -/
theorem lex_nodup : ∀ {cs : List Int}, cs.Nodup → (lex cs).Nodup
  | [], _ => by simp [lex]
  | c :: r, nd => by
    obtain ⟨n1, n2⟩ := List.nodup_cons.mp nd
    have ih := lex_nodup n2
    have ih' := ih
    rw [lex_head r] at ih'
    obtain ⟨h1, h2⟩ := List.nodup_cons.mp ih'
    unfold lex
    refine List.nodup_cons.mpr ⟨fun z => ?_, List.nodup_append.mpr ⟨?_, h2, ?_⟩⟩
    · rcases List.mem_append.mp z with z | z
      · obtain ⟨L, _, e⟩ := List.mem_map.mp z; cases e
      · exact h1 z
    · exact List.Pairwise.map _ (fun a b h e => h (by cases e; rfl)) ih
    · intro a ha b hb e
      subst e
      obtain ⟨L, _, rfl⟩ := List.mem_map.mp ha
      exact n1 ((lex_sub (List.mem_of_mem_tail hb)).subset List.mem_cons_self)
/-- those that begin with p, the rest out of r: behind p itself -/
def tl (p r : List Int) : List (List Int) := (lex r).tail.map (p ++ ·)
def full (p r : List Int) : List (List Int) := (lex r).map (p ++ ·)
theorem full_eq (p r : List Int) : full p r = p :: tl p r := by
  unfold full tl
  rw [lex_head r]
  simp
theorem tl_nil (p : List Int) : tl p [] = [] := rfl
theorem tl_cons (p : List Int) (c : Int) (r : List Int) : tl p (c :: r) = full (p ++ [c]) r ++ tl p r := by
  unfold tl full
  show ((lex r).map (c :: ·) ++ (lex r).tail).map (p ++ ·) = _
  rw [List.map_append, List.map_map]
  congr 1
  refine List.map_congr_left fun L _ => ?_
  simp
section
variable (f : List Int → Bool)
def cnt (p r : List Int) : Nat := (lex r).countP fun L => f (p ++ L)
def en (p : List Int) : Nat := if f p = true then 1 else 0
theorem cnt_full (p r : List Int) : ((full p r).filter f).length = cnt f p r := by
  unfold full cnt
  rw [← List.countP_eq_length_filter, List.countP_map]
  rfl
/-- the k-th, behind p itself -/
def lbT : List Int → List Int → Nat → Option (List Int)
  | _, [], _ => none
  | p, c :: r, k => if k < cnt f (p ++ [c]) r then (if k < en f (p ++ [c]) then some (p ++ [c]) else lbT (p ++ [c]) r (k - en f (p ++ [c]))) else lbT p r (k - cnt f (p ++ [c]) r)
def lbF (p r : List Int) (k : Nat) : Option (List Int) := if k < en f p then some p else lbT f p r (k - en f p)
theorem filter_full (p r : List Int) (k : Nat) : ((full p r).filter f)[k]? = if k < en f p then some p else ((tl p r).filter f)[k - en f p]? := by
  rw [full_eq]
  unfold en
  by_cases h : f p = true
  · rw [List.filter_cons_of_pos h, if_pos h]
    cases k with
    | zero => simp
    | succ k => simp
  · rw [List.filter_cons_of_neg h, if_neg h]; simp
theorem lbT_get : ∀ (r p : List Int) (k : Nat), lbT f p r k = ((tl p r).filter f)[k]?
  | [], p, k => by simp [lbT, tl_nil]
  | c :: r, p, k => by
    unfold lbT
    rw [tl_cons, List.filter_append]
    by_cases h : k < cnt f (p ++ [c]) r
    · rw [if_pos h, List.getElem?_append_left (by rw [cnt_full]; exact h), filter_full]
      by_cases h2 : k < en f (p ++ [c])
      · rw [if_pos h2, if_pos h2]
      · rw [if_neg h2, if_neg h2, lbT_get r (p ++ [c])]
    · rw [if_neg h, List.getElem?_append_right (by rw [cnt_full]; omega), cnt_full, lbT_get r p]
theorem lbF_get (p r : List Int) (k : Nat) : lbF f p r k = ((full p r).filter f)[k]? := by
  unfold lbF
  rw [filter_full, lbT_get]
/-- how many there are ahead of p ++ L, behind p itself -/
def rkT : List Int → List Int → List Int → Nat
  | _, _, [] => 0
  | _, [], _ :: _ => 0
  | p, c :: r, m :: L => if c = m then (match L with
    | [] => 0
    | x :: L' => en f (p ++ [c]) + rkT (p ++ [c]) r (x :: L')) else cnt f (p ++ [c]) r + rkT p r (m :: L)
theorem rkT_get : ∀ (r p : List Int) (m : Int) (L : List Int), r.Nodup → (m :: L).Sublist r → f (p ++ m :: L) = true → ((tl p r).filter f)[rkT f p r (m :: L)]? = some (p ++ m :: L)
  | [], p, m, L, _, h, _ => by cases h
  | c :: r, p, m, L, nd, h, hf => by
    obtain ⟨n1, n2⟩ := List.nodup_cons.mp nd
    unfold rkT
    rw [tl_cons, List.filter_append]
    by_cases e : c = m
    · subst e
      rw [if_pos rfl]
      have hL : L.Sublist r := by
        cases h with
        | cons _ h => exact absurd (h.subset List.mem_cons_self) n1
        | cons_cons _ h => exact h
      cases L with
      | nil =>
        have : 0 < ((full (p ++ [c]) r).filter f).length := by
          rw [full_eq, List.filter_cons_of_pos hf]; simp
        simp only
        rw [List.getElem?_append_left this, full_eq, List.filter_cons_of_pos hf]; rfl
      | cons x L' =>
        have hf' : f ((p ++ [c]) ++ x :: L') = true := by rw [List.append_assoc]; exact hf
        have ih := rkT_get r (p ++ [c]) x L' n2 hL hf'
        simp only
        have key : ((full (p ++ [c]) r).filter f)[en f (p ++ [c]) + rkT f (p ++ [c]) r (x :: L')]? = some ((p ++ [c]) ++ x :: L') := by
          rw [filter_full, if_neg (by omega)]
          have : en f (p ++ [c]) + rkT f (p ++ [c]) r (x :: L') - en f (p ++ [c]) = rkT f (p ++ [c]) r (x :: L') := by omega
          rw [this, ih]
        have hlt := (List.getElem?_eq_some_iff.mp key).1
        rw [List.getElem?_append_left hlt, key, List.append_assoc]; rfl
    · rw [if_neg e]
      have hs : (m :: L).Sublist r := by
        cases h with
        | cons _ h => exact h
        | cons_cons _ h => exact absurd rfl e
      rw [List.getElem?_append_right (by rw [cnt_full]; omega), cnt_full]
      have : cnt f (p ++ [c]) r + rkT f p r (m :: L) - cnt f (p ++ [c]) r = rkT f p r (m :: L) := by omega
      rw [this]
      exact rkT_get r p m L n2 hs hf
/-- how many there are ahead -/
def rkF (p r L : List Int) : Nat := match L with
  | [] => 0
  | m :: L => en f p + rkT f p r (m :: L)
theorem rkF_get {r p L : List Int} (nd : r.Nodup) (h : L.Sublist r) (hf : f (p ++ L) = true) : ((full p r).filter f)[rkF f p r L]? = some (p ++ L) := by
  rw [filter_full]
  cases L with
  | nil =>
    have hf : f p = true := by simpa using hf
    have : en f p = 1 := by unfold en; rw [if_pos hf]
    have e0 : rkF f p r [] = 0 := rfl
    rw [e0, this, if_pos (by omega), List.append_nil]
  | cons m L =>
    unfold rkF
    simp only
    rw [if_neg (by omega)]
    have : en f p + rkT f p r (m :: L) - en f p = rkT f p r (m :: L) := by omega
    rw [this]
    exact rkT_get f r p m L nd h hf
/-- there and back -/
theorem rk_lb {cs : List Int} (nd : cs.Nodup) {k : Nat} {L : List Int} (h : lbF f [] cs k = some L) : rkF f [] cs L = k ∧ L.Sublist cs ∧ f L = true := by
  rw [lbF_get] at h
  have e : full [] cs = lex cs := by unfold full; simp
  rw [e] at h
  have hm := List.mem_of_getElem? h
  obtain ⟨m1, m2⟩ := List.mem_filter.mp hm
  have hs := lex_sub m1
  have g := rkF_get f (p := []) nd hs (by simpa using m2)
  rw [e] at g
  have nd2 : ((lex cs).filter f).Nodup := (lex_nodup nd).filter _
  refine ⟨?_, hs, m2⟩
  have h1 := List.getElem?_eq_some_iff.mp h
  have h2 := List.getElem?_eq_some_iff.mp g
  obtain ⟨l1, e1⟩ := h1
  obtain ⟨l2, e2⟩ := h2
  exact (List.getElem_inj nd2).mp (e2.trans (by simpa using e1.symm))
end
end Hm

-- M6
namespace Hm

/-! ### counts by prefixes -/
theorem has_cons (c : Int) (cs : List Int) (v : Bool) (L : List Int) : has (c :: cs) v L = ((decide (c ∈ L) == v) && has cs v L) := rfl
theorem has_skip {c : Int} {v : Bool} : ∀ {cs L : List Int}, c ∉ cs → has cs v (c :: L) = has cs v L
  | [], L, _ => rfl
  | x :: cs, L, h => by
    have hx : ¬ x = c := fun e => h (by simp [e])
    rw [has_cons, has_cons, has_skip (fun z => h (by simp [z]))]
    simp [hx]
/-- the sublists of q ++ r that have of q just p -/
theorem count_prefix (f : List Int → Bool) (r : List Int) : ∀ (q p : List Int), (q ++ r).Nodup → p.Sublist q →
    (lex (q ++ r)).countP (fun L => f L && (has p true L && has (q.filter fun c => !decide (c ∈ p)) false L)) = (lex r).countP (fun L => f (p ++ L))
  | [], p, nd, h => by
    have : p = [] := List.sublist_nil.mp h
    subst this
    refine List.countP_congr fun L _ => ?_
    simp [has]
  | x :: q, p, nd, h => by
    have nd' : (x :: (q ++ r)).Nodup := nd
    obtain ⟨n1, n2⟩ := List.nodup_cons.mp nd'
    have nq : x ∉ q := fun z => n1 (by simp [z])
    show (lex (x :: (q ++ r))).countP _ = _
    rw [lex_count]
    by_cases hx : x ∈ p
    · -- p begins with x
      cases h with
      | cons _ h => exact absurd (h.subset hx) nq
      | cons_cons _ h =>
        rename_i p
        have np : x ∉ p := fun z => nq (h.subset z)
        have ef : ((x :: q).filter fun c => !decide (c ∈ x :: p)) = q.filter fun c => !decide (c ∈ p) := by
          rw [List.filter_cons_of_neg (by simp)]
          refine List.filter_congr fun c hc => ?_
          have : ¬ c = x := fun e => nq (e ▸ hc)
          simp [this]
        rw [ef]
        have nf : x ∉ q.filter fun c => !decide (c ∈ p) := fun z => nq (List.mem_filter.mp z).1
        have z2 : (lex (q ++ r)).countP (fun L => f L && (has (x :: p) true L && has (q.filter fun c => !decide (c ∈ p)) false L)) = 0 := by
          rw [List.countP_eq_zero]
          intro L hL
          have : x ∉ L := fun z => n1 ((lex_sub hL).subset z)
          rw [has_cons]
          simp [this]
        have e1 : (lex (q ++ r)).countP (fun L => f (x :: L) && (has (x :: p) true (x :: L) && has (q.filter fun c => !decide (c ∈ p)) false (x :: L))) =
            (lex (q ++ r)).countP (fun L => (fun L => f (x :: L)) L && (has p true L && has (q.filter fun c => !decide (c ∈ p)) false L)) := by
          refine List.countP_congr fun L _ => ?_
          rw [has_cons, has_skip np, has_skip nf]
          simp
        rw [z2, Nat.add_zero, e1, count_prefix (fun L => f (x :: L)) r q p n2 h]
        rfl
    · have h' : p.Sublist q := by
        cases h with
        | cons _ h => exact h
        | cons_cons _ h => exact absurd List.mem_cons_self hx
      have ef : ((x :: q).filter fun c => !decide (c ∈ p)) = x :: q.filter fun c => !decide (c ∈ p) := by
        rw [List.filter_cons_of_pos (by simpa using hx)]
      rw [ef]
      have nf : x ∉ q.filter fun c => !decide (c ∈ p) := fun z => nq (List.mem_filter.mp z).1
      have z1 : (lex (q ++ r)).countP (fun L => f (x :: L) && (has p true (x :: L) && has (x :: q.filter fun c => !decide (c ∈ p)) false (x :: L))) = 0 := by
        rw [List.countP_eq_zero]
        intro L _
        rw [has_cons]
        simp
      have e2 : (lex (q ++ r)).countP (fun L => f L && (has p true L && has (x :: q.filter fun c => !decide (c ∈ p)) false L)) =
          (lex (q ++ r)).countP (fun L => f L && (has p true L && has (q.filter fun c => !decide (c ∈ p)) false L)) := by
        refine List.countP_congr fun L hL => ?_
        have : x ∉ L := fun z => n1 ((lex_sub hL).subset z)
        rw [has_cons]
        simp [this]
      rw [z1, Nat.zero_add, e2]
      exact count_prefix f r q p n2 h'
/-! ### many_with -/
def manyW (b : Bd) (n : Nat) : Option Gs → Option Nat
  | none => some 0
  | some g => manyBy b n g
def endsAt (b : Bd) (n : Nat) (g : Gs) (mines : List Int) : Option Nat :=
  manyW b n ((withC g mines true).bind fun l => withC l (b.cells.filter fun c => !decide (c ∈ mines)) false)
def nextMany (b : Bd) (n : Nat) (g : Gs) (mines : List Int) (c : Int) : Option Nat :=
  manyW b n ((withC g (mines ++ [c]) true).bind fun l => withC l (b.cells.filter fun x => decide (x < c) && !decide (x ∈ mines)) false)
theorem un_le (g : Gs) (cs : List Int) : un g cs ≤ cs.length := by unfold un; exact List.countP_le_length
theorem two_with {b : Bd} (G : b.Good) {g : Gs} (Gg : GoodG b g) {n : Nat} (hn : b.cells.length < n) {p q : List Int} (hp : ∀ c ∈ p, c ∈ b.cells) (hq : ∀ c ∈ q, c ∈ b.cells) :
    manyW b n ((withC g p true).bind fun l => withC l q false) = some ((lex b.cells).countP fun L => ok b g L && (has p true L && has q false L)) := by
  have h1 := withC_N (b := b) (cs := p) (v := true) Gg hp
  cases e1 : withC g p true with
  | none =>
    rw [e1] at h1
    show some 0 = _
    congr 1
    rw [eq_comm, List.countP_eq_zero]
    intro L _
    have := h1 L
    rw [← Bool.and_assoc, this]; simp
  | some g1 =>
    rw [e1] at h1
    have h2 := withC_N (b := b) (cs := q) (v := false) h1.1 hq
    show manyW b n (withC g1 q false) = _
    cases e2 : withC g1 q false with
    | none =>
      rw [e2] at h2
      show some 0 = _
      congr 1
      rw [eq_comm, List.countP_eq_zero]
      intro L _
      have := h2 L
      rw [h1.2 L, Bool.and_assoc] at this
      rw [this]; simp
    | some g2 =>
      rw [e2] at h2
      show manyBy b n g2 = _
      rw [manyBy_N G n g2 h2.1 (Nat.lt_of_le_of_lt (un_le _ _) hn)]
      congr 1
      unfold N
      refine List.countP_congr fun L _ => ?_
      rw [h2.2 L, h1.2 L, Bool.and_assoc]
theorem ends_eq {b : Bd} (G : b.Good) {g : Gs} (Gg : GoodG b g) {n : Nat} (hn : b.cells.length < n) {p : List Int} (hp : p.Sublist b.cells) : endsAt b n g p = some (en (ok b g) p) := by
  unfold endsAt
  rw [two_with G Gg hn (fun c hc => hp.subset hc) (fun c hc => (List.mem_filter.mp hc).1)]
  congr 1
  have := count_prefix (ok b g) [] b.cells p (by simpa using G.nd) hp
  rw [List.append_nil] at this
  rw [this]
  show ([[]] : List (List Int)).countP _ = _
  unfold en
  simp [List.countP_cons]
theorem next_eq {b : Bd} (G : b.Good) (asc : b.cells.Pairwise (· < ·)) {g : Gs} (Gg : GoodG b g) {n : Nat} (hn : b.cells.length < n) {p q r : List Int} {c : Int} (hc : b.cells = q ++ c :: r) (hp : p.Sublist q) :
    nextMany b n g p c = some (cnt (ok b g) (p ++ [c]) r) := by
  unfold nextMany
  have hcm : c ∈ b.cells := by rw [hc]; simp
  have hps : ∀ x ∈ p, x ∈ b.cells := fun x hx => by rw [hc]; exact List.mem_append_left _ (hp.subset hx)
  rw [two_with G Gg hn (fun x hx => by
    rcases List.mem_append.mp hx with z | z
    · exact hps x z
    · have : x = c := by simpa using z
      rw [this]; exact hcm) (fun x hx => (List.mem_filter.mp hx).1)]
  congr 1
  rw [hc] at asc
  obtain ⟨a1, a2, a3⟩ := List.pairwise_append.mp asc
  have nd : ((q ++ [c]) ++ r).Nodup := by
    rw [List.append_assoc]
    show (q ++ c :: r).Nodup
    rw [← hc]; exact G.nd
  have e := count_prefix (ok b g) r (q ++ [c]) (p ++ [c]) nd (List.Sublist.append hp (List.Sublist.refl _))
  have ecells : b.cells = (q ++ [c]) ++ r := by rw [hc, List.append_assoc]; rfl
  have ef : (b.cells.filter fun x => decide (x < c) && !decide (x ∈ p)) = (q ++ [c]).filter fun x => !decide (x ∈ p ++ [c]) := by
    rw [hc, List.filter_append, List.filter_append]
    have hlast : (c :: r).filter (fun x => decide (x < c) && !decide (x ∈ p)) = [] := by
      rw [List.filter_eq_nil_iff]
      intro x hx
      rcases List.mem_cons.mp hx with z | z
      · subst z; simp
      · have := (List.pairwise_cons.mp a2).1 x z
        have : ¬ x < c := by omega
        simp [this]
    rw [hlast, List.append_nil]
    have : [c].filter (fun x => !decide (x ∈ p ++ [c])) = [] := by simp
    rw [this, List.append_nil]
    refine List.filter_congr fun x hx => ?_
    have h1 : x < c := a3 x hx c List.mem_cons_self
    have h2 : ¬ x = c := by omega
    simp [h1, h2]
  rw [ef, ecells, e]
  rfl
end Hm

-- M7
namespace Hm

/-- the covered cells behind a prefix -/
def behind (b : Bd) (mines : List Int) : List Int := b.cells.filter fun c => match mines.getLast? with
  | none => true
  | some l => decide (c > l)
def sumNext (b : Bd) (n : Nat) (g : Gs) (p : List Int) (m : Int) : List Int → Option Nat
  | [] => some 0
  | c :: r => if c < m then (nextMany b n g p c).bind fun x => (sumNext b n g p m r).bind fun y => some (x + y) else sumNext b n g p m r
def rankL (b : Bd) (n : Nat) (g : Gs) : List Int → List Int → Option Nat
  | _, [] => some 0
  | p, m :: L => (endsAt b n g p).bind fun e => (sumNext b n g p m (behind b p)).bind fun s => (rankL b n g (p ++ [m]) L).bind fun t => some (e + s + t)
/-- how far one is: q is done with, p of it taken -/
structure At (b : Bd) (q p r : List Int) : Prop where
  cells : b.cells = q ++ r
  sub : p.Sublist q
  last : (p = [] ∧ q = []) ∨ ∃ p0 q0 c, p = p0 ++ [c] ∧ q = q0 ++ [c]
theorem At.behind {b : Bd} (asc : b.cells.Pairwise (· < ·)) {q p r : List Int} (a : At b q p r) : behind b p = r := by
  unfold Hm.behind
  rcases a.last with ⟨rfl, rfl⟩ | ⟨p0, q0, c, rfl, rfl⟩
  · rw [a.cells]; simp
  · rw [List.getLast?_concat]
    rw [a.cells] at asc ⊢
    obtain ⟨a1, a2, a3⟩ := List.pairwise_append.mp asc
    obtain ⟨b1, b2, b3⟩ := List.pairwise_append.mp a1
    rw [List.filter_append]
    have h1 : (q0 ++ [c]).filter (fun x => decide (x > c)) = [] := by
      rw [List.filter_eq_nil_iff]
      intro x hx
      rcases List.mem_append.mp hx with z | z
      · have := b3 x z c (by simp)
        simp; omega
      · have : x = c := by simpa using z
        simp [this]
    have h2 : r.filter (fun x => decide (x > c)) = r := by
      rw [List.filter_eq_self]
      intro x hx
      have := a3 c (by simp) x hx
      simp; omega
    show (q0 ++ [c]).filter (fun x => decide (x > c)) ++ r.filter (fun x => decide (x > c)) = r
    rw [h1, h2]; rfl
theorem At.step {b : Bd} {q p r1 r2 : List Int} {c : Int} (a : At b q p (r1 ++ c :: r2)) : At b (q ++ r1 ++ [c]) (p ++ [c]) r2 where
  cells := by rw [a.cells]; simp
  sub := List.Sublist.append (a.sub.trans (List.sublist_append_left q r1)) (List.Sublist.refl _)
  last := .inr ⟨p, q ++ r1, c, rfl, rfl⟩
/-- those ahead of m, each with what stands behind it -/
def sumB (f : List Int → Bool) (p : List Int) : List Int → List Int → Nat
  | [], _ => 0
  | c :: r1, r2 => cnt f (p ++ [c]) (r1 ++ r2) + sumB f p r1 r2
theorem sumNext_eq {b : Bd} (G : b.Good) (asc : b.cells.Pairwise (· < ·)) {g : Gs} (Gg : GoodG b g) {n : Nat} (hn : b.cells.length < n) {p : List Int} {m : Int} {r2 : List Int} : ∀ {r1 q : List Int}, b.cells = q ++ (r1 ++ m :: r2) → p.Sublist q →
    sumNext b n g p m (r1 ++ m :: r2) = some (sumB (ok b g) p r1 (m :: r2))
  | [], q, hc, hp => by
    have key : ∀ l : List Int, (∀ x ∈ l, ¬ x < m) → sumNext b n g p m l = some 0 := by
      intro l
      induction l with
      | nil => intro _; rfl
      | cons x l ih =>
        intro h
        unfold sumNext
        rw [if_neg (h x List.mem_cons_self)]
        exact ih fun y hy => h y (List.mem_cons_of_mem _ hy)
    refine key _ fun x hx => ?_
    rcases List.mem_cons.mp hx with rfl | hx
    · omega
    · rw [hc] at asc
      have := (List.pairwise_cons.mp (List.pairwise_append.mp asc).2.1).1 x hx
      omega
  | c :: r1, q, hc, hp => by
    have hlt : c < m := by
      rw [hc] at asc
      have h2 := (List.pairwise_append.mp asc).2.1
      exact (List.pairwise_cons.mp h2).1 m (by simp)
    show sumNext b n g p m (c :: (r1 ++ m :: r2)) = _
    unfold sumNext
    rw [if_pos hlt, next_eq G asc Gg hn (q := q) (r := r1 ++ m :: r2) hc hp]
    rw [sumNext_eq G asc Gg hn (q := q ++ [c]) (r1 := r1) (by rw [hc]; simp) (hp.trans (List.sublist_append_left q [c]))]
    rfl
theorem rkT_split (f : List Int → Bool) (p : List Int) (m : Int) (L r2 : List Int) : ∀ (r1 : List Int), m ∉ r1 → rkT f p (r1 ++ m :: r2) (m :: L) = sumB f p r1 (m :: r2) + rkF f (p ++ [m]) r2 L
  | [], _ => by
    show rkT f p (m :: r2) (m :: L) = 0 + _
    unfold rkT rkF
    rw [if_pos rfl, Nat.zero_add]
  | c :: r1, h => by
    show rkT f p (c :: (r1 ++ m :: r2)) (m :: L) = (cnt f (p ++ [c]) (r1 ++ m :: r2) + sumB f p r1 (m :: r2)) + _
    have hc : ¬ c = m := fun e => h (by simp [e])
    have : rkT f p (c :: (r1 ++ m :: r2)) (m :: L) = cnt f (p ++ [c]) (r1 ++ m :: r2) + rkT f p (r1 ++ m :: r2) (m :: L) := by
      conv => lhs; unfold rkT
      rw [if_neg hc]
    rw [this, rkT_split f p m L r2 r1 (fun z => h (by simp [z]))]
    omega
theorem rankL_eq {b : Bd} (G : b.Good) (asc : b.cells.Pairwise (· < ·)) {g : Gs} (Gg : GoodG b g) {n : Nat} (hn : b.cells.length < n) : ∀ {L q p r : List Int}, At b q p r → L.Sublist r → rankL b n g p L = some (rkF (ok b g) p r L)
  | [], q, p, r, a, h => rfl
  | m :: L, q, p, r, a, h => by
    -- where m stands
    obtain ⟨r1, r2, rfl, h2⟩ : ∃ r1 r2, r = r1 ++ m :: r2 ∧ L.Sublist r2 := by
      clear a
      induction r with
      | nil => cases h
      | cons x r ih =>
        cases h with
        | cons _ h =>
          obtain ⟨r1, r2, e, h2⟩ := ih h
          exact ⟨x :: r1, r2, by rw [e]; rfl, h2⟩
        | cons_cons _ h => exact ⟨[], r, rfl, h⟩
    have hps : p.Sublist b.cells := by rw [a.cells]; exact a.sub.trans (List.sublist_append_left q _)
    have hm : m ∉ r1 := by
      have nd := G.nd
      rw [a.cells] at nd
      have := (List.nodup_append.mp (List.nodup_append.mp nd).2.1).2.2
      intro z
      exact this m z m List.mem_cons_self rfl
    unfold rankL
    rw [ends_eq G Gg hn hps, a.behind asc]
    simp only [Option.bind_some]
    rw [sumNext_eq G asc Gg hn a.cells a.sub]
    simp only [Option.bind_some]
    rw [rankL_eq G asc Gg hn a.step h2]
    simp only [Option.bind_some]
    congr 1
    show _ = en (ok b g) p + rkT (ok b g) p (r1 ++ m :: r2) (m :: L)
    rw [rkT_split _ p m L r2 r1 hm]
    omega
/-! ### laying_by -/
/-- the walk over the cells behind: found, or what is left -/
def pick (b : Bd) (n : Nat) (g : Gs) (p : List Int) : List Int → Nat → Option (Option Int × Nat)
  | [], k => some (none, k)
  | c :: r, k => (nextMany b n g p c).bind fun x => if k < x then some (some c, k) else pick b n g p r (k - x)
def layL (b : Bd) (n : Nat) (g : Gs) : Nat → List Int → Nat → Option (List Int)
  | 0, _, _ => none
  | t + 1, p, k => (endsAt b n g p).bind fun e => if k < e then some p else (pick b n g p (behind b p) (k - e)).bind fun y => match y.1 with
    | some c => layL b n g t (p ++ [c]) y.2
    | none => layL b n g t p y.2
theorem layL_eq {b : Bd} (G : b.Good) (asc : b.cells.Pairwise (· < ·)) {g : Gs} (Gg : GoodG b g) {n : Nat} (hn : b.cells.length < n) : ∀ (t : Nat) {q p r : List Int} (k : Nat) {L : List Int}, At b q p r → r.length < t → lbF (ok b g) p r k = some L → layL b n g t p k = some L
  | 0, q, p, r, k, L, a, h, _ => by omega
  | t + 1, q, p, r, k, L, a, h, hL => by
    have hps : p.Sublist b.cells := by rw [a.cells]; exact a.sub.trans (List.sublist_append_left q _)
    unfold layL
    rw [ends_eq G Gg hn hps, a.behind asc]
    simp only [Option.bind_some]
    unfold lbF at hL
    by_cases hk : k < en (ok b g) p
    · rw [if_pos hk] at hL ⊢; exact hL
    · rw [if_neg hk] at hL ⊢
      -- the walk
      have key : ∀ (r1 r2 : List Int) (k : Nat), r = r1 ++ r2 → lbT (ok b g) p r2 k = some L → (pick b n g p r2 k).bind (fun y => match y.1 with
          | some c => layL b n g t (p ++ [c]) y.2
          | none => layL b n g t p y.2) = some L := by
        intro r1 r2
        induction r2 generalizing r1 with
        | nil => intro k _ h; cases h
        | cons c r2 ih =>
          intro k e hk2
          have hc : b.cells = (q ++ r1) ++ c :: r2 := by rw [a.cells, e]; simp
          have nx := next_eq G asc Gg hn (p := p) hc (a.sub.trans (List.sublist_append_left q r1))
          unfold pick
          rw [nx]
          simp only [Option.bind_some]
          unfold lbT at hk2
          by_cases hx : k < cnt (ok b g) (p ++ [c]) r2
          · rw [if_pos hx] at hk2 ⊢
            simp only [Option.bind_some]
            have a2 : At b (q ++ r1 ++ [c]) (p ++ [c]) r2 := by
              have := a
              rw [e] at this
              exact this.step
            refine layL_eq G asc Gg hn t k a2 (by rw [e] at h; simp at h; omega) ?_
            unfold lbF
            exact hk2
          · rw [if_neg hx] at hk2 ⊢
            exact ih (r1 ++ [c]) (k - cnt (ok b g) (p ++ [c]) r2) (by rw [e]; simp) hk2
      exact key [] r _ rfl hL
end Hm

-- M8
namespace Hm

/-! ### boards without numbers -/
def blank (cells : List Int) (t : Int) : Bd := ⟨cells, [], some t, []⟩
theorem blank_good {cells : List Int} {t : Int} (nd : cells.Nodup) : (blank cells t).Good where
  nd := nd
  sub := fun e he => by cases he
  rim := by show [] = _; unfold blank; simp
theorem agr_none (cells L : List Int) : agr [] cells L = true := by
  unfold agr; rw [List.all_eq_true]; intro c _; rfl
theorem blank_N {cells : List Int} {t : Nat} (nd : cells.Nodup) (g : Gs) : N (blank cells t) g = if t < mi g cells then 0 else bn (un g cells) (t - mi g cells) := by
  rw [← count_total g t nd]
  unfold N
  refine List.countP_congr fun L _ => ?_
  unfold ok okN okT blank
  simp only [List.all_nil, Bool.true_and, Bool.and_eq_true, decide_eq_true_eq]
  constructor
  · rintro ⟨a, c⟩; exact ⟨c, by omega⟩
  · rintro ⟨a, c⟩; exact ⟨by omega, a⟩
/-- the test of a laying of a blank board -/
theorem blank_ok {cells : List Int} {t : Nat} (L : List Int) : ok (blank cells t) [] L = decide (L.length = t) := by
  unfold ok okN okT blank
  rw [agr_none]
  simp only [List.all_nil, Bool.true_and, Bool.and_true]
  rw [Bool.eq_iff_iff]; simp; omega
theorem cnt_len (t : Nat) : ∀ (r p : List Int), r.Nodup → cnt (fun L => decide (L.length = t)) p r = if t < p.length then 0 else bn r.length (t - p.length) := by
  intro r p nd
  have h := count_total [] (t - p.length) nd
  have e0 : mi [] r = 0 := by unfold mi; rw [List.countP_eq_zero]; intro c _; simp [gl]
  have e1 : un [] r = r.length := by unfold un; rw [List.countP_eq_length]; intro c _; rfl
  rw [e0, e1] at h
  unfold cnt
  by_cases z : t < p.length
  · rw [if_pos z, List.countP_eq_zero]
    intro L _; simp; omega
  · rw [if_neg z]
    rw [if_neg (by omega), Nat.sub_zero] at h
    rw [← h]
    refine List.countP_congr fun L _ => ?_
    rw [agr_none]; simp; omega
/-- as the law reckons it: the k-th choice of t -/
def chosen (t : Nat) : List Int → List Int → Nat → Option (List Int)
  | p, [], _ => if p.length < t then none else some p
  | p, c :: r, k => if p.length < t then (if k < bn r.length (t - p.length - 1) then chosen t (p ++ [c]) r k else chosen t p r (k - bn r.length (t - p.length - 1))) else some p
theorem chosen_lb (t : Nat) : ∀ (r p : List Int) (k : Nat) (L : List Int), r.Nodup → p.length ≤ t → (p.length = t → k = 0) → lbF (fun L => decide (L.length = t)) p r k = some L → chosen t p r k = some L
  | [], p, k, L, nd, hp, hk, h => by
    unfold chosen
    unfold lbF at h
    by_cases z : p.length < t
    · have e0 : en (fun L : List Int => decide (L.length = t)) p = 0 := by unfold en; rw [if_neg (by simp; omega)]
      rw [e0, if_neg (by omega)] at h
      simp [lbT] at h
    · have : p.length = t := by omega
      rw [if_neg z]
      have e1 : en (fun L : List Int => decide (L.length = t)) p = 1 := by unfold en; rw [if_pos (by simp [this])]
      rw [hk this, e1, if_pos (by omega)] at h
      exact h
  | c :: r, p, k, L, nd, hp, hk, h => by
    obtain ⟨n1, n2⟩ := List.nodup_cons.mp nd
    unfold chosen
    by_cases z : p.length < t
    · rw [if_pos z]
      have e0 : en (fun L : List Int => decide (L.length = t)) p = 0 := by unfold en; rw [if_neg (by simp; omega)]
      unfold lbF at h
      rw [e0, if_neg (by omega), Nat.sub_zero] at h
      unfold lbT at h
      have ec : cnt (fun L : List Int => decide (L.length = t)) (p ++ [c]) r = bn r.length (t - p.length - 1) := by
        rw [cnt_len t r (p ++ [c]) n2]
        have hl : (p ++ [c]).length = p.length + 1 := by simp
        rw [hl, if_neg (by omega)]
        congr 1
      rw [ec] at h
      by_cases q : k < bn r.length (t - p.length - 1)
      · rw [if_pos q] at h ⊢
        refine chosen_lb t r (p ++ [c]) k L n2 (by simp; omega) (fun e => ?_) ?_
        · have hl : (p ++ [c]).length = p.length + 1 := by simp
          have : t - p.length - 1 = 0 := by omega
          rw [this, bn_zero] at q
          omega
        · unfold lbF; exact h
      · rw [if_neg q] at h ⊢
        refine chosen_lb t r p (k - bn r.length (t - p.length - 1)) L n2 hp (fun e => by omega) ?_
        unfold lbF
        rw [e0, if_neg (by omega), Nat.sub_zero]
        exact h
    · have : p.length = t := by omega
      rw [if_neg z]
      unfold lbF en at h
      simp only [this, decide_true, if_true] at h
      rw [hk this, if_pos (by omega)] at h
      exact h
end Hm

-- M9
namespace Hm

/-! ### blocks of cells, each with its count -/
theorem block (rest : List Int) (R : List Int → Bool) : ∀ (ws : List Int) (k : Nat), (ws ++ rest).Nodup → (∀ x ∈ ws, ∀ L, R (x :: L) = R L) →
    (lex (ws ++ rest)).countP (fun L => decide (ws.countP (fun c => decide (c ∈ L)) = k) && R L) = bn ws.length k * (lex rest).countP R
  | [], k, _, _ => by
    cases k with
    | zero => simp [bn]
    | succ k => simp [bn]
  | x :: ws, k, nd, hR => by
    obtain ⟨n1, n2⟩ := List.nodup_cons.mp (show (x :: (ws ++ rest)).Nodup from nd)
    show (lex (x :: (ws ++ rest))).countP _ = _
    rw [lex_count]
    have hw : x ∉ ws := fun z => n1 (by simp [z])
    have ih := fun k => block rest R ws k n2 fun y hy => hR y (List.mem_cons_of_mem _ hy)
    have c1 : ∀ L : List Int, (x :: ws).countP (fun c => decide (c ∈ x :: L)) = ws.countP (fun c => decide (c ∈ L)) + 1 := fun L => by
      rw [List.countP_cons]
      have : ws.countP (fun c => decide (c ∈ x :: L)) = ws.countP (fun c => decide (c ∈ L)) := by
        refine List.countP_congr fun y hy => ?_
        have : ¬ y = x := fun e => hw (e ▸ hy)
        simp [this]
      rw [this]; simp
    have e2 : (lex (ws ++ rest)).countP (fun L => decide ((x :: ws).countP (fun c => decide (c ∈ L)) = k) && R L) = (lex (ws ++ rest)).countP (fun L => decide (ws.countP (fun c => decide (c ∈ L)) = k) && R L) := by
      refine List.countP_congr fun L hL => ?_
      have : x ∉ L := fun z => n1 ((lex_sub hL).subset z)
      rw [List.countP_cons]; simp [this]
    rw [e2, ih k]
    cases k with
    | zero =>
      have : (lex (ws ++ rest)).countP (fun L => decide ((x :: ws).countP (fun c => decide (c ∈ x :: L)) = 0) && R (x :: L)) = 0 := by
        rw [List.countP_eq_zero]
        intro L _
        rw [c1]; simp
      rw [this, Nat.zero_add, bn_zero, bn_zero]
    | succ k =>
      have : (lex (ws ++ rest)).countP (fun L => decide ((x :: ws).countP (fun c => decide (c ∈ x :: L)) = k + 1) && R (x :: L)) = (lex (ws ++ rest)).countP (fun L => decide (ws.countP (fun c => decide (c ∈ L)) = k) && R L) := by
        refine List.countP_congr fun L _ => ?_
        rw [c1, hR x List.mem_cons_self]; simp
      rw [this, ih k, ← Nat.add_mul]
      rfl
/-- the far cells alone -/
theorem block_end (ws : List Int) (k : Nat) (nd : ws.Nodup) : (lex ws).countP (fun L => decide (ws.countP (fun c => decide (c ∈ L)) = k)) = bn ws.length k := by
  have := block [] (fun _ => true) ws k (by simpa using nd) (fun _ _ _ => rfl)
  simpa [lex] using this
theorem lex_length : ∀ ws : List Int, (lex ws).length = 2 ^ ws.length
  | [] => rfl
  | c :: r => by
    have h := lex_length r
    rw [lex_head r] at h
    unfold lex
    simp at h ⊢
    rw [lex_head r]
    simp
    rw [Nat.pow_succ]
    omega
def cellsB (bs : List (List Int × Nat)) (far : List Int) : List Int := match bs with
  | [] => far
  | e :: r => e.1 ++ cellsB r far
def prodB : List (List Int × Nat) → Nat
  | [] => 1
  | e :: r => bn e.1.length e.2 * prodB r
def okB (bs : List (List Int × Nat)) (L : List Int) : Bool := bs.all fun e => decide (e.1.countP (fun c => decide (c ∈ L)) = e.2)
theorem count_skip {x : Int} {L : List Int} : ∀ {ws : List Int}, x ∉ ws → ws.countP (fun c => decide (c ∈ x :: L)) = ws.countP (fun c => decide (c ∈ L)) := fun {ws} h => by
  refine List.countP_congr fun y hy => ?_
  have : ¬ y = x := fun e => h (e ▸ hy)
  simp [this]
theorem okB_skip {x : Int} {L : List Int} : ∀ {bs : List (List Int × Nat)}, (∀ e ∈ bs, x ∉ e.1) → okB bs (x :: L) = okB bs L
  | [], _ => rfl
  | e :: r, h => by
    show (decide (e.1.countP (fun c => decide (c ∈ x :: L)) = e.2) && okB r (x :: L)) = (decide (e.1.countP (fun c => decide (c ∈ L)) = e.2) && okB r L)
    rw [count_skip (h e List.mem_cons_self), okB_skip fun e' he => h e' (List.mem_cons_of_mem _ he)]
theorem mem_cellsB {far : List Int} : ∀ {bs : List (List Int × Nat)} {e : List Int × Nat}, e ∈ bs → ∀ x ∈ e.1, x ∈ cellsB bs far
  | b :: r, e, h, x, hx => by
    show x ∈ b.1 ++ cellsB r far
    rcases List.mem_cons.mp h with rfl | h
    · exact List.mem_append_left _ hx
    · exact List.mem_append_right _ (mem_cellsB h x hx)
theorem far_cellsB {far : List Int} : ∀ {bs : List (List Int × Nat)}, ∀ x ∈ far, x ∈ cellsB bs far
  | [], x, hx => hx
  | b :: r, x, hx => List.mem_append_right _ (far_cellsB x hx)
theorem blocks (far : List Int) (R : List Int → Bool) : ∀ (bs : List (List Int × Nat)), (cellsB bs far).Nodup → (∀ e ∈ bs, ∀ x ∈ e.1, ∀ L, R (x :: L) = R L) →
    (lex (cellsB bs far)).countP (fun L => okB bs L && R L) = prodB bs * (lex far).countP R
  | [], _, _ => by simp [cellsB, prodB, okB]
  | e :: r, nd, hR => by
    have nd' : (e.1 ++ cellsB r far).Nodup := nd
    obtain ⟨a1, a2, a3⟩ := List.nodup_append.mp nd'
    have h := block (cellsB r far) (fun L => okB r L && R L) e.1 e.2 nd' fun x hx L => by
      rw [okB_skip fun e' he z => a3 x hx x (mem_cellsB he x z) rfl, hR e List.mem_cons_self x hx]
    have e1 : (lex (cellsB (e :: r) far)).countP (fun L => okB (e :: r) L && R L) = (lex (e.1 ++ cellsB r far)).countP (fun L => decide (e.1.countP (fun c => decide (c ∈ L)) = e.2) && (okB r L && R L)) := by
      refine List.countP_congr fun L _ => ?_
      show ((decide (e.1.countP (fun c => decide (c ∈ L)) = e.2) && okB r L) && R L) = true ↔ _
      rw [Bool.and_assoc]
    rw [e1, h, blocks far R r a2 fun e' he => hR e' (List.mem_cons_of_mem _ he)]
    show _ = bn e.1.length e.2 * prodB r * _
    rw [Nat.mul_assoc]
/-- a sublist's length by blocks -/
theorem len_blocks (far : List Int) (L : List Int) : ∀ (bs : List (List Int × Nat)), okB bs L = true → (cellsB bs far).countP (fun c => decide (c ∈ L)) = (bs.map (·.2)).sum + far.countP (fun c => decide (c ∈ L))
  | [], _ => by simp [cellsB]
  | e :: r, h => by
    have h' : (decide (e.1.countP (fun c => decide (c ∈ L)) = e.2) && okB r L) = true := h
    have h1 := Bool.and_eq_true_iff.mp h'
    show (e.1 ++ cellsB r far).countP _ = _
    rw [List.countP_append, of_decide_eq_true h1.1, len_blocks far L r h1.2]
    simp [Nat.add_assoc]
end Hm

-- M10
namespace Hm
/-- the numbers are those of the blocks -/
def Stars (b : Bd) (bs : List (List Int × Nat)) (far : List Int) : Prop := b.cells = cellsB bs far ∧ ∀ L, okN b L = okB bs L
theorem stars_all {b : Bd} {bs : List (List Int × Nat)} {far : List Int} (s : Stars b bs far) (nd : b.cells.Nodup) (ht : b.total = none) : N b [] = prodB bs * 2 ^ far.length := by
  have h := blocks far (fun _ => true) bs (by rw [← s.1]; exact nd) (fun _ _ _ _ _ => rfl)
  have e : (lex far).countP (fun _ => true) = 2 ^ far.length := by rw [← lex_length]; simp
  rw [e] at h
  rw [← h, ← s.1]
  unfold N
  refine List.countP_congr fun L _ => ?_
  unfold ok okT
  rw [ht, agr_none, s.2 L]
  simp
theorem stars_total {b : Bd} {bs : List (List Int × Nat)} {far : List Int} {more : Nat} (s : Stars b bs far) (nd : b.cells.Nodup) (ht : b.total = some (((bs.map (·.2)).sum + more : Nat) : Int)) : N b [] = prodB bs * bn far.length more := by
  have nd' := nd
  rw [s.1] at nd'
  have hdis : ∀ e ∈ bs, ∀ x ∈ e.1, x ∉ far := by
    have : ∀ {bs : List (List Int × Nat)}, (cellsB bs far).Nodup → ∀ e ∈ bs, ∀ x ∈ e.1, x ∉ far := by
      intro bs
      induction bs with
      | nil => intro _ e he; cases he
      | cons a r ih =>
        intro nd e he x hx hf
        obtain ⟨a1, a2, a3⟩ := List.nodup_append.mp (show (a.1 ++ cellsB r far).Nodup from nd)
        rcases List.mem_cons.mp he with rfl | he
        · exact a3 x hx x (far_cellsB x hf) rfl
        · exact ih a2 e he x hx hf
    exact this nd'
  have ndf : far.Nodup := by
    have : ∀ {bs : List (List Int × Nat)}, (cellsB bs far).Nodup → far.Nodup := by
      intro bs
      induction bs with
      | nil => intro h; exact h
      | cons a r ih => intro h; exact ih (List.nodup_append.mp (show (a.1 ++ cellsB r far).Nodup from h)).2.1
    exact this nd'
  have h := blocks far (fun L => decide (far.countP (fun c => decide (c ∈ L)) = more)) bs nd' (fun e he x hx L => by
    rw [count_skip (hdis e he x hx)])
  rw [block_end far more ndf] at h
  rw [← h, ← s.1]
  unfold N
  refine List.countP_congr fun L hL => ?_
  have hl := len_count nd (lex_sub hL)
  unfold ok okT
  rw [ht, agr_none, s.2 L]
  simp only [Bool.and_true, Bool.and_eq_true, decide_eq_true_eq]
  constructor
  · rintro ⟨a, c⟩
    refine ⟨a, ?_⟩
    have := len_blocks far L bs a
    rw [← s.1, hl] at this
    omega
  · rintro ⟨a, c⟩
    refine ⟨a, ?_⟩
    have := len_blocks far L bs a
    rw [← s.1, hl] at this
    omega
end Hm

-- Rk
namespace Dv
open PySem PySem.Spec PyProof.Rows L2

/-! ### rules by which simp reckons -/
section
variable {α β : Type} {ε : Ep}
@[simp] theorem rk_bd (m : M α) (k : α → M β) : bd m k ε = (m ε).bd k := rfl
@[simp] theorem rk_bok (a : α) (k : α → M β) : (Rs.ok a ε).bd k = k a ε := rfl
@[simp] theorem rk_berr (x : Xc) (k : α → M β) : (Rs.err x ε).bd k = .err x ε := rfl
@[simp] theorem rk_bst (k : α → M β) : (Rs.stuck).bd k = .stuck := rfl
@[simp] theorem rk_pr (a : α) : pr a ε = .ok a ε := rfl
@[simp] theorem rk_lok (a : α) : lft (.ok a) ε = .ok a ε := rfl
@[simp] theorem rk_lerr (x : Xc) : (lft (.err x) : M α) ε = .err x ε := rfl
@[simp] theorem rk_lst : (lft .stuck : M α) ε = .stuck := rfl
@[simp] theorem rk_ok (a : α) (k : α → Ot β) : (Ot.ok a).bd k = k a := rfl
@[simp] theorem rk_er (x : Xc) (k : α → Ot β) : (Ot.err x).bd k = .err x := rfl
@[simp] theorem rk_st (k : α → Ot β) : (Ot.stuck).bd k = .stuck := rfl
@[simp] theorem rk_os (a : α) : ofO (some a) = .ok a := rfl
@[simp] theorem rk_on : ofO (none : Option α) = .stuck := rfl
end
section
variable {ε : Ep}
@[simp] theorem rk_cC (d : D) : cC d ε = .ok (.dat d) ε := rfl
@[simp] theorem rk_cV (i : Nat) : cV i ε = match ε[i]? with
  | some (.dat d) => .ok (.dat d) ε
  | _ => .stuck := rfl
@[simp] theorem rk_c2 (f : SV → SV → Ot SV) (a b : ME) : c2 f a b ε = (a ε).bd fun x => bd b fun y => lft (f x y) := rfl
@[simp] theorem rk_c1 (f : SV → Ot SV) (a : ME) : c1 f a ε = (a ε).bd fun x => lft (f x) := rfl
@[simp] theorem rk_l2 (g : D → D → Ot SV) (x y : SV) : l2 g x y = (ofO x.toD).bd fun a => (ofO y.toD).bd fun b => g a b := rfl
@[simp] theorem rk_l1 (g : D → Ot SV) (x : SV) : l1 g x = (ofO x.toD).bd g := rfl
@[simp] theorem rk_td (d : D) : (SV.dat d).toD = some d := by unfold SV.toD; rfl
@[simp] theorem rk_tol (xs : List D) : (SV.ol xs).toD = some (.lst xs) := by unfold SV.toD; rfl
@[simp] theorem rk_tod (xs : List (Key × D)) : (SV.od xs).toD = some (.dct false xs) := by unfold SV.toD; rfl
@[simp] theorem rk_toi (C : Str) (fs : List (Str × SV)) : (SV.oi C fs).toD = (toDF fs).map (D.obj C) := by
  unfold SV.toD; cases toDF fs <;> rfl
@[simp] theorem rk_tdf0 : toDF [] = some [] := by unfold toDF; rfl
@[simp] theorem rk_tdf (f : Str) (s : SV) (r : List (Str × SV)) : toDF ((f, s) :: r) = s.toD.bind fun d => (toDF r).map fun gs => (f, d) :: gs := by
  rw [toDF]
  cases s.toD with
  | none => rfl
  | some d => cases toDF r <;> rfl
@[simp] theorem rk_ds0 : toDs [] = some [] := rfl
@[simp] theorem rk_ds (s : SV) (r : List SV) : toDs (s :: r) = s.toD.bind fun d => (toDs r).map fun ds => d :: ds := by
  rw [toDs]
  cases s.toD with
  | none => rfl
  | some d => cases toDs r <;> rfl
@[simp] theorem rk_asB (b : Bool) : asB (.dat (.bl b)) = .ok b := rfl
@[simp] theorem rk_tB (m : ME) : tB m ε = (m ε).bd fun r => bd (lft (ofO r.toD)) fun d => lft (ofO d.tru?) := rfl
@[simp] theorem rk_tL (m : ME) : tL m ε = (m ε).bd fun r => lft (asB r) := rfl
@[simp] theorem rk_tNt (t : MT) : tNt t ε = (t ε).bd fun b => pr (!b) := rfl
@[simp] theorem rk_tAn (t u : MT) : tAn t u ε = (t ε).bd fun b => cond b u (pr false) := by
  rfl
@[simp] theorem rk_tOo (t u : MT) : tOo t u ε = (t ε).bd fun b => cond b (pr true) u := by
  rfl
@[simp] theorem rk_cAn (a b : ME) : cAn a b ε = (a ε).bd fun r => bd (lft (asB r)) fun c => cond c b (pr (.dat (.bl false))) := by
  rfl
@[simp] theorem rk_cOo (a b : ME) : cOo a b ε = (a ε).bd fun r => bd (lft (asB r)) fun c => cond c (pr (.dat (.bl true))) b := by
  rfl
@[simp] theorem rk_cNt (a : ME) : cNt a ε = (a ε).bd fun r => bd (lft (asB r)) fun c => pr (.dat (.bl (!c))) := rfl
@[simp] theorem rk_cIf (t : MT) (a b : ME) : cIf t a b ε = (t ε).bd fun c => cond c a b := by
  rfl
@[simp] theorem rk_c3 (f g : SV → SV → Ot SV) (a b c : ME) : c3 f g a b c ε = (a ε).bd fun x => bd b fun y => bd (lft (ofO x.toD)) fun dx => bd (lft (ofO y.toD)) fun dy => bd (lft (f (.dat dx) (.dat dy))) fun z => bd (lft (asB z)) fun k => cond k (bd c fun u => lft (g (.dat dy) u)) (pr (.dat (.bl false))) := by
  rfl
@[simp] theorem rk_cond_app {α : Type} (c : Bool) (a b : M α) : (cond c a b) ε = cond c (a ε) (b ε) := by cases c <;> rfl
@[simp] theorem rk_aN : aN ε = .ok [] ε := rfl
@[simp] theorem rk_aC (m : ME) (r : MA) : aC m r ε = (m ε).bd fun x => bd r fun xs => pr (x :: xs) := rfl
@[simp] theorem rk_cA (f : List D → Ot SV) (m : MA) : cA f m ε = (m ε).bd fun rs => bd (lft (ofO (toDs rs))) fun ds => lft (f ds) := rfl
@[simp] theorem rk_cTup (m : MA) : cTup m ε = cA tupO m ε := rfl
@[simp] theorem rk_cLst (m : MA) : cLst m ε = cA lstO m ε := rfl
theorem sizeLine_le {n : Nat} (h : n ≤ 16777216) : n ≤ sizeLine := by rw [sizeLine_eq]; exact h
@[simp] theorem rk_tupO0 : tupO [] = okd (.tup []) := by unfold tupO; rw [if_pos (sizeLine_le (by decide))]
@[simp] theorem rk_tupO1 (a : D) : tupO [a] = okd (.tup [a]) := by unfold tupO; rw [if_pos (sizeLine_le (by show 1 ≤ _; decide))]
@[simp] theorem rk_tupO2 (a b : D) : tupO [a, b] = okd (.tup [a, b]) := by unfold tupO; rw [if_pos (sizeLine_le (by show 2 ≤ _; decide))]
@[simp] theorem rk_tupO3 (a b c : D) : tupO [a, b, c] = okd (.tup [a, b, c]) := by unfold tupO; rw [if_pos (sizeLine_le (by show 3 ≤ _; decide))]
@[simp] theorem rk_tupO4 (a b c d : D) : tupO [a, b, c, d] = okd (.tup [a, b, c, d]) := by unfold tupO; rw [if_pos (sizeLine_le (by show 4 ≤ _; decide))]
@[simp] theorem rk_lstO0 : lstO [] = .ok (.ol []) := by unfold lstO; rw [if_pos (sizeLine_le (by decide))]
@[simp] theorem rk_lstO1 (a : D) : lstO [a] = .ok (.ol [a]) := by unfold lstO; rw [if_pos (sizeLine_le (by show 1 ≤ _; decide))]
@[simp] theorem rk_lstO2 (a b : D) : lstO [a, b] = .ok (.ol [a, b]) := by unfold lstO; rw [if_pos (sizeLine_le (by show 2 ≤ _; decide))]
@[simp] theorem rk_cCall (g : List D → Ot SV) (mm : MA) (df : List D) : cCall g mm df ε = (mm ε).bd fun rs => bd (lft (ofO (toDs rs))) fun ds => lft (g (ds ++ df)) := rfl
@[simp] theorem rk_objF (C f C' : Str) (fs : List (Str × D)) : objF C f (.dat (.obj C' fs)) = if C' = C then (ofO (fs.lookup f)).bd okd else .stuck := rfl
@[simp] theorem rk_objM (C m C' : Str) (fs : List (Str × D)) : objM C m (.dat (.obj C' fs)) = if C' = C then (match fs.lookup m with | none => .ok (.obj C' fs) | some _ => .stuck) else .stuck := rfl
@[simp] theorem rk_cMeth (C m : Str) (g : List D → Ot SV) (me : ME) (mm : MA) (df : List D) : cMeth C m g me mm df ε = (me ε).bd fun r => bd (lft (objM C m r)) fun d => bd mm fun rs => bd (lft (ofO (toDs rs))) fun ds => lft (g (d :: (ds ++ df))) := rfl
-- statements
@[simp] theorem rk_sSeq (a b : MS) : sSeq a b ε = (a ε).bd fun f => match f with
  | .nx => b
  | .rt r => pr (.rt r)
  | .bk => pr .bk
  | .ct => pr .ct := rfl
@[simp] theorem rk_sNil : sNil ε = .ok .nx ε := rfl
@[simp] theorem rk_sNev : sNev ε = .stuck := rfl
@[simp] theorem rk_sExp (m : ME) : sExp m ε = (m ε).bd fun _ => pr .nx := rfl
@[simp] theorem rk_sRet (m : ME) : sRet m ε = (m ε).bd fun r => pr (.rt r) := rfl
@[simp] theorem rk_sRetN : sRetN ε = .ok (.rt (.dat .non)) ε := rfl
@[simp] theorem rk_sIf (t : MT) (a b : MS) : sIf t a b ε = (t ε).bd fun c => cond c a b := by
  rfl
@[simp] theorem rk_putS (i : Nat) (r : SV) : putS i r ε = .ok .nx (ε.set i r) := rfl
@[simp] theorem rk_sSet (i : Nat) (m : ME) : sSet i m ε = (m ε).bd fun r => putS i r := rfl
@[simp] theorem rk_sRetV (i : Nat) : sRetV i ε = match ε[i]? with
  | some .un => .stuck
  | some r => .ok (.rt r) (ε.set i .un)
  | none => .stuck := rfl
@[simp] theorem rk_fzS (i : Nat) : fzS i ε = match ε[i]? with
  | some s => match s.toD with
    | some d => .ok d (ε.set i (.dat d))
    | none => .stuck
  | none => .stuck := rfl
@[simp] theorem rk_cVF (i : Nat) : cVF i ε = (fzS i ε).bd fun d => pr (.dat d) := rfl
@[simp] theorem rk_cFz (m : ME) : cFz m ε = (m ε).bd fun r => bd (lft (ofO r.toD)) fun d => pr (.dat d) := rfl
@[simp] theorem rk_fnS (n len : Nat) (m : MS) (ds : List D) : fnS n len m ds = if ds.length = n then fnR (m (ds.map .dat ++ List.replicate (len - n) .un)) else .stuck := rfl
@[simp] theorem rk_fnR1 (r : SV) : fnR (.ok (.rt r) ε) = .ok r := rfl
@[simp] theorem rk_fnR2 : fnR (.ok .nx ε) = okd .non := rfl
@[simp] theorem rk_fnR3 (x : Xc) : fnR (.err x ε) = .err x := rfl
@[simp] theorem rk_lend (i : Nat) (m : ME) : lend i m ε = match ε[i]? with
  | some s => match s.toD with
    | some d => lendR2 ε (m (ε.set i (.dat d)))
    | none => .stuck
  | none => .stuck := rfl
@[simp] theorem rk_lendT (i : Nat) (m : MT) : lendT i m ε = match ε[i]? with
  | some s => match s.toD with
    | some d => lendRT ε (m (ε.set i (.dat d)))
    | none => .stuck
  | none => .stuck := rfl
@[simp] theorem rk_lendRT (ε' : Ep) (b : Bool) : lendRT ε (.ok b ε') = .ok b ε := rfl
@[simp] theorem rk_lendR2d (ε' : Ep) (d : D) : lendR2 ε (.ok (.dat d) ε') = if d.flat = true then .ok (.dat d) ε else .stuck := rfl
@[simp] theorem rk_lendR2l (ε' : Ep) (xs : List D) : lendR2 ε (.ok (.ol xs) ε') = if flats xs = true then .ok (.ol xs) ε else .stuck := rfl
@[simp] theorem rk_lendRd (ε' : Ep) (d : D) : lendR ε (.ok (.dat d) ε') = if d.flat = true then .ok (.dat d) ε else .stuck := rfl
@[simp] theorem rk_lockE (i : Nat) (p : Option Str) (m : ME) : lockE i p m ε = match ε[i]? with
  | some (.dat d) => match lkD p d with
    | some d' => lendR ε (m (ε.set i (.dat d')))
    | none => .stuck
  | _ => .stuck := rfl
@[simp] theorem rk_sFor (mi : MI) (pt : Pt) (body : MS) : sFor mi pt body ε = (mi ε).bd fun items => forL pt body items := rfl
@[simp] theorem rk_forL0 (pt : Pt) (body : MS) : forL pt body [] ε = .ok .nx ε := rfl
@[simp] theorem rk_iAny (m : ME) : iAny m ε = (m ε).bd fun r => bd (lft (ofO r.toD)) fun d => lft (ofO (itemsO d)) := rfl
@[simp] theorem rk_iEnu (m : ME) : iEnu m ε = (m ε).bd fun r => bd (lft (ofO r.toD)) fun d => lft (ofO (enumO d)) := rfl
@[simp] theorem rk_iZi (a b : ME) : iZi a b ε = (a ε).bd fun r => bd b fun q => bd (lft (ofO r.toD)) fun d => bd (lft (ofO q.toD)) fun d' => lft (ofO (zipO d d')) := rfl
@[simp] theorem rk_iRg1 (a : ME) : iRg1 a ε = (a ε).bd fun r => bd (lft (ofO r.toD)) fun d => lft (rg1O d) := rfl
@[simp] theorem rk_iRg2 (a b : ME) : iRg2 a b ε = (a ε).bd fun r => bd b fun q => bd (lft (ofO r.toD)) fun d => bd (lft (ofO q.toD)) fun d' => lft (rg2O d d') := rfl
@[simp] theorem rk_iVal (m : ME) : iVal m ε = (m ε).bd fun r => bd (lft (ofO r.toD)) fun d => lft (ofO (valsO d)) := rfl
@[simp] theorem rk_iItm (m : ME) : iItm m ε = (m ε).bd fun r => bd (lft (ofO r.toD)) fun d => lft (ofO (itmsO d)) := rfl
@[simp] theorem rk_bindN (i : Nat) (d : D) : bindP (.nm i) d ε = if Nat.blt i ε.length = true then .ok () (ε.set i (.dat d)) else .stuck := rfl
@[simp] theorem rk_bindT (l : List Nat) (ds : List D) : bindP (.tp l) (.tup ds) ε = if (ds.length == l.length && bnds ε.length l) = true then .ok () (setAll ε l ds) else .stuck := rfl
@[simp] theorem rk_setAll0 (ds : List D) : setAll ε [] ds = ε := by cases ds <;> rfl
@[simp] theorem rk_setAll (i : Nat) (l : List Nat) (d : D) (ds : List D) : setAll ε (i :: l) (d :: ds) = setAll (ε.set i (.dat d)) l ds := rfl
@[simp] theorem rk_bnds0 (n : Nat) : bnds n [] = true := rfl
@[simp] theorem rk_bnds (n i : Nat) (l : List Nat) : bnds n (i :: l) = (Nat.blt i n && bnds n l) := rfl
@[simp] theorem rk_wip0 : wipE ε [] = ε := rfl
@[simp] theorem rk_wip (v : Nat) (vs : List Nat) : wipE ε (v :: vs) = (wipE ε vs).set v .un := rfl
@[simp] theorem rk_wipM (vs : List Nat) : wipM vs ε = .ok () (wipE ε vs) := rfl
@[simp] theorem rk_res0 (ε3 : Ep) : resE ε [] ε3 = ε3 := rfl
@[simp] theorem rk_res (v : Nat) (vs : List Nat) (ε3 : Ep) : resE ε (v :: vs) ε3 = resE ε vs (ε3.set v (ε[v]?.getD .un)) := rfl
@[simp] theorem rk_sPar (l : List Nat) (m : MA) : sPar l m ε = (m ε).bd fun rs => fun ε => if (rs.length == l.length && bnds ε.length l) = true then .ok .nx (setE ε l rs) else .stuck := rfl
@[simp] theorem rk_setE0 (rs : List SV) : setE ε [] rs = ε := by cases rs <;> rfl
@[simp] theorem rk_setE (i : Nat) (l : List Nat) (d : SV) (ds : List SV) : setE ε (i :: l) (d :: ds) = setE (ε.set i d) l ds := rfl
@[simp] theorem rk_sUnp (p : Pt) (m : ME) : sUnp p m ε = (m ε).bd fun r => bd (lft (ofO r.toD)) fun d => bd (bindP p d) fun _ => pr .nx := rfl
@[simp] theorem rk_sAug (i : Nat) (f : SV → SV → Ot SV) (m : ME) : sAug i f m ε = (cV i ε).bd fun x => bd m fun y => bd (lft (f x y)) fun z => putS i z := rfl
@[simp] theorem rk_cIx (a b : ME) : cIx a b ε = c2 (l2 ixO) a b ε := rfl
@[simp] theorem rk_oN : oN ε = .ok none ε := rfl
@[simp] theorem rk_oS (m : ME) : oS m ε = (m ε).bd fun r => lft (asI r) := rfl
@[simp] theorem rk_asI (i : Int) : asI (.dat (.int i)) = .ok (some i) := rfl
@[simp] theorem rk_cSl (m : ME) (l h : MP) : cSl m l h ε = (m ε).bd fun r => bd (lft (ofO r.toD)) fun d => bd l fun lo => bd h fun hi => lft (slO lo hi d) := rfl
@[simp] theorem rk_gdM (b : Bool) : gdM b ε = if b = true then .ok () ε else .stuck := rfl
@[simp] theorem rk_cM (T : String) (f : D → List D → Ot SV) (mo : ME) (mm : MA) : cM T f mo mm ε = (mo ε).bd fun r => bd (lft (ofO r.toD)) fun d => bd (gdM (d.tyOk T)) fun _ => bd mm fun rs => bd (lft (ofO (toDs rs))) fun ds => lft (f d ds) := rfl
@[simp] theorem rk_cGet1 (mo me : ME) : cGet1 mo me ε = (mo ε).bd fun r => bd (lft (asDct r)) fun kvs => bd me fun y => bd (lft (ofO (y.toD.bind keyOf?))) fun k => pr (.dat ((lookD kvs k).getD .non)) := rfl
@[simp] theorem rk_cGet2 (mo me mx : ME) : cGet2 mo me mx ε = (mo ε).bd fun r => bd (lft (asDct r)) fun kvs => bd me fun y => bd (lft (ofO (y.toD.bind keyOf?))) fun k => bd mx fun z => bd (lft (ofO z.toD)) fun dz => pr (.dat ((lookD kvs k).getD dz)) := rfl
@[simp] theorem rk_asDct (lk : Bool) (kvs : List (Key × D)) : asDct (.dat (.dct lk kvs)) = .ok kvs := by unfold asDct; simp
@[simp] theorem rk_keyI (i : Int) : keyOf? (.int i) = some (.inl i) := rfl
@[simp] theorem rk_keyS (x : Str) : keyOf? (.str x) = some (.inr x) := rfl
@[simp] theorem rk_cDisp1 (mk mv : ME) : cDisp1 mk mv ε = (mk ε).bd fun y => bd (lft (ofO (y.toD.bind keyOf?))) fun k => bd mv fun x => bd (lft (ofO x.toD)) fun d => pr (.od [(k, d)]) := rfl
@[simp] theorem rk_cRg (f : List D → Ot SV) (a b : ME) : cRg f a b ε = (a ε).bd fun r => bd b fun q => bd (lft (ofO r.toD)) fun d => bd (lft (ofO q.toD)) fun d' => lft (tupRgO f d d') := rfl
end
/-! ### operations on ints, bools -/
section
variable (i j : Int) (a b : Bool)
@[simp] theorem rk_lt : oLt (.dat (.int i)) (.dat (.int j)) = okd (.bl (decide (i < j))) := rfl
@[simp] theorem rk_le : oLe (.dat (.int i)) (.dat (.int j)) = okd (.bl (decide (i ≤ j))) := rfl
@[simp] theorem rk_gt : oGt (.dat (.int i)) (.dat (.int j)) = okd (.bl (decide (j < i))) := rfl
@[simp] theorem rk_ge : oGe (.dat (.int i)) (.dat (.int j)) = okd (.bl (decide (j ≤ i))) := rfl
@[simp] theorem rk_sub : oSub (.dat (.int i)) (.dat (.int j)) = okd (.int (i - j)) := rfl
@[simp] theorem rk_add : oAdd (.dat (.int i)) (.dat (.int j)) = okd (.int (i + j)) := rfl
@[simp] theorem rk_eq : oEq (.dat (.int i)) (.dat (.int j)) = okd (.bl (decide (i = j))) := by
  show okd (.bl (i == j)) = _
  congr 2
@[simp] theorem rk_ne : oNe (.dat (.int i)) (.dat (.int j)) = okd (.bl (!decide (i = j))) := by
  show okd (.bl (!(i == j))) = _
  congr 3
@[simp] theorem rk_eqb : oEq (.dat (.bl a)) (.dat (.bl b)) = okd (.bl (a == b)) := rfl
@[simp] theorem rk_neb : oNe (.dat (.bl a)) (.dat (.bl b)) = okd (.bl (!(a == b))) := rfl
@[simp] theorem rk_mul2 : mul2O (.int i) (.int j) = mulO (.int i) (.int j) := rfl
theorem rk_mul (h : i.natAbs < 2 ^ 64 ∨ j.natAbs < 2 ^ 64) : mulO (.int i) (.int j) = okd (.int (i * j)) := by
  show (if (Nat.blt i.natAbs (2 ^ 64) || Nat.blt j.natAbs (2 ^ 64)) = true then _ else _) = _
  rw [if_pos]
  rcases h with h | h
  · rw [Bool.or_eq_true]; exact .inl (Nat.blt_eq.mpr h)
  · rw [Bool.or_eq_true]; exact .inr (Nat.blt_eq.mpr h)
theorem rk_fdiv (h : 0 < j) (h2 : j.natAbs < 2 ^ 64) : oFdiv (.dat (.int i)) (.dat (.int j)) = okd (.int (i / j)) := by
  show (if (decide (0 < j) && Nat.blt j.natAbs.log2 9000) = true then _ else _) = _
  rw [if_pos]
  rw [Bool.and_eq_true]
  exact ⟨decide_eq_true h, Nat.blt_eq.mpr (Nat.lt_of_lt_of_le ((Nat.log2_lt (by omega)).mpr h2) (by decide))⟩
theorem rk_mod (h : 0 < j) : oMod (.dat (.int i)) (.dat (.int j)) = okd (.int (i % j)) := by
  show (if decide (0 < j) = true then _ else _) = _
  rw [if_pos (decide_eq_true h)]
@[simp] theorem rk_isN (d : D) : oIsN (.dat d) (.dat .non) = okd (.bl d.isN) := by
  show okd (.bl (d.isN ^^ false)) = _
  simp
@[simp] theorem rk_notN (d : D) : oNotN (.dat d) (.dat .non) = okd (.bl (!d.isN)) := by
  show okd (.bl (d.isN ^^ true)) = _
  simp
@[simp] theorem rk_isNn : D.isN .non = true := rfl
@[simp] theorem rk_isNi : D.isN (.int i) = false := rfl
@[simp] theorem rk_isNb : D.isN (.bl a) = false := rfl
@[simp] theorem rk_isNs (x : Str) : D.isN (.str x) = false := rfl
@[simp] theorem rk_isNl (x : List D) : D.isN (.lst x) = false := rfl
@[simp] theorem rk_isNt (x : List D) : D.isN (.tup x) = false := rfl
@[simp] theorem rk_isNd (l : Bool) (x : List (Key × D)) : D.isN (.dct l x) = false := rfl
@[simp] theorem rk_isNo (C : Str) (x : List (Str × D)) : D.isN (.obj C x) = false := rfl
@[simp] theorem rk_isB : oIsB (.dat (.bl a)) (.dat (.bl b)) = okd (.bl (decide (a = b))) := by
  show okd (.bl (decide (a = b) ^^ false)) = _
  simp
@[simp] theorem rk_isBn : oIsB (.dat .non) (.dat (.bl b)) = okd (.bl false) := rfl
@[simp] theorem rk_truB : D.tru? (.bl a) = some a := rfl
@[simp] theorem rk_truI : D.tru? (.int i) = some (i != 0) := rfl
theorem rk_inL (c : Int) (xs : List Int) : oIn (.dat (.int c)) (.dat (.lst (dI xs))) = okd (.bl (decide (c ∈ xs))) := by
  show (ofO (if (true && (pls (dI xs) && decide (min (deps (dI xs)) 0 ≤ 60))) = true then some (D.bl (inDs (.int c) (dI xs) ^^ false)) else none)).bd okd = _
  rw [pls_dI, inDs_dI]; simp
theorem rk_inT (c : Int) (xs : List Int) : oIn (.dat (.int c)) (.dat (.tup (dI xs))) = okd (.bl (decide (c ∈ xs))) := by
  show (ofO (if (true && (pls (dI xs) && decide (min (deps (dI xs)) 0 ≤ 60))) = true then some (D.bl (inDs (.int c) (dI xs) ^^ false)) else none)).bd okd = _
  rw [pls_dI, inDs_dI]; simp
theorem rk_ninL (c : Int) (xs : List Int) : oNin (.dat (.int c)) (.dat (.lst (dI xs))) = okd (.bl (!decide (c ∈ xs))) := by
  show (ofO (if (true && (pls (dI xs) && decide (min (deps (dI xs)) 0 ≤ 60))) = true then some (D.bl (inDs (.int c) (dI xs) ^^ true)) else none)).bd okd = _
  rw [pls_dI, inDs_dI]; simp
@[simp] theorem rk_lenL (xs : List D) : lenO [.lst xs] = okd (.int xs.length) := rfl
@[simp] theorem rk_lenT (xs : List D) : lenO [.tup xs] = okd (.int xs.length) := rfl
@[simp] theorem rk_lenS (x : Str) : lenO [.str x] = okd (.int x.length) := rfl
@[simp] theorem rk_itL (xs : List D) : itemsO (.lst xs) = some xs := rfl
@[simp] theorem rk_itT (xs : List D) : itemsO (.tup xs) = some xs := rfl
@[simp] theorem rk_itF (xs : List D) : itemsO (.frl xs) = some xs := rfl
@[simp] theorem rk_flI : D.flat (.int i) = true := by unfold D.flat; rfl
@[simp] theorem rk_flB : D.flat (.bl a) = true := by unfold D.flat; rfl
@[simp] theorem rk_flN : D.flat .non = true := by unfold D.flat; rfl
@[simp] theorem rk_flS (x : Str) : D.flat (.str x) = true := by unfold D.flat; rfl
@[simp] theorem rk_flT (xs : List D) : D.flat (.tup xs) = flats xs := by rw [D.flat]
theorem flats_dI : ∀ xs : List Int, flats (dI xs) = true
  | [] => by unfold dI; rw [List.map_nil, flats]
  | x :: r => by
    show flats (.int x :: dI r) = true
    rw [flats, flats_dI r]; simp
end
end Dv

-- Rk2
namespace Dv
open PySem PySem.Spec PyProof.Rows L2
/-! ### loops -/
def turn (pt : Pt) (body : MS) (d : D) (ε : Ep) : Rs Fl := (bindP pt d ε).bd fun _ => body
theorem forL_turn (pt : Pt) (body : MS) (d : D) (r : List D) (ε : Ep) : forL pt body (d :: r) ε = (turn pt body d ε).bd fun f => match f with
    | .nx => forL pt body r
    | .ct => forL pt body r
    | .bk => pr .nx
    | .rt v => pr (.rt v) := by
  show bd (bindP pt d) _ ε = _
  unfold turn bd
  cases bindP pt d ε <;> rfl
/-- a loop by its turns' numbers -/
theorem forL_ix' {pt : Pt} {body : MS} (I : Nat → Ep) : ∀ (items : List D) (k : Nat), (∀ i (hi : i < items.length), turn pt body items[i] (I (k + i)) = .ok .nx (I (k + i + 1)) ∨ turn pt body items[i] (I (k + i)) = .ok .ct (I (k + i + 1))) →
    forL pt body items (I k) = .ok .nx (I (k + items.length))
  | [], k, _ => rfl
  | d :: r, k, h => by
    have h0 := h 0 (by simp)
    have ih := forL_ix' I r (k + 1) fun i hi => by
      have := h (i + 1) (by simp; omega)
      simpa [Nat.add_assoc, Nat.add_comm 1] using this
    rw [forL_turn]
    have e : k + (d :: r).length = k + 1 + r.length := by simp; omega
    rw [e, ← ih]
    rcases h0 with h0 | h0
    all_goals
      have h0 : turn pt body d (I k) = _ := h0
      rw [h0]
      rfl
theorem forL_ix {pt : Pt} {body : MS} {items : List D} (I : Nat → Ep) (h : ∀ i (hi : i < items.length), turn pt body items[i] (I i) = .ok .nx (I (i + 1))) :
    forL pt body items (I 0) = .ok .nx (I items.length) := by
  have := forL_ix' I items 0 fun i hi => .inl (by simpa using h i hi)
  simpa using this
theorem forL_range {pt : Pt} {body : MS} {m : Nat} {ε : Ep} (I : Nat → Ep) (e0 : ε = I 0) (h : ∀ i, i < m → turn pt body (.int (i : Nat)) (I i) = .ok .nx (I (i + 1))) :
    forL pt body ((List.range m).map fun i => D.int (i : Nat)) ε = .ok .nx (I m) := by
  subst e0
  have := forL_ix (items := (List.range m).map fun i => D.int (i : Nat)) I fun i hi => by
    simp at hi
    simpa using h i hi
  simpa using this
/-- a loop that folds -/
theorem forL_foldM' {pt : Pt} {body : MS} {α S : Type} (en : α → D) (enc : S → Option α → Ep) (step : S → α → S) : ∀ (xs : List α) (s : S) (o : Option α), (∀ s o, ∀ a ∈ xs, turn pt body (en a) (enc s o) = .ok .nx (enc (step s a) (some a))) →
    forL pt body (xs.map en) (enc s o) = .ok .nx (enc (xs.foldl step s) (xs.getLast?.or o))
  | [], s, o, _ => rfl
  | a :: r, s, o, h => by
    have ih := forL_foldM' en enc step r (step s a) (some a) fun s o b hb => h s o b (List.mem_cons_of_mem _ hb)
    rw [List.map_cons, forL_turn, h s o a List.mem_cons_self]
    show forL pt body (r.map en) (enc (step s a) (some a)) = _
    rw [ih]
    congr 2
    cases r with
    | nil => rfl
    | cons b r => rw [List.getLast?_cons_cons]; simp [List.getLast?_cons]
/-- a loop that ends at the first -/
theorem forL_search' {pt : Pt} {body : MS} {α : Type} (en : α → D) (p : α → Bool) (out : α → SV) (J : Option α → Ep) (K : α → Ep) : ∀ (xs : List α) (o : Option α),
    (∀ o, ∀ a ∈ xs, turn pt body (en a) (J o) = cond (p a) (.ok (.rt (out a)) (K a)) (.ok .nx (J (some a)))) →
    forL pt body (xs.map en) (J o) = match xs.find? p with
      | some a => .ok (.rt (out a)) (K a)
      | none => .ok .nx (J (xs.getLast?.or o))
  | [], o, _ => rfl
  | a :: r, o, h => by
    have ih := forL_search' en p out J K r (some a) fun o b hb => h o b (List.mem_cons_of_mem _ hb)
    rw [List.map_cons, forL_turn, h o a List.mem_cons_self, List.find?_cons]
    cases q : p a with
    | true => rfl
    | false =>
      show forL pt body (r.map en) (J (some a)) = _
      rw [ih]
      cases r.find? p with
      | some b => rfl
      | none =>
        show Rs.ok Fl.nx _ = Rs.ok Fl.nx _
        congr 2
        cases r with
        | nil => rfl
        | cons b r => rw [List.getLast?_cons_cons]; simp [List.getLast?_cons]
theorem forL_foldM {pt : Pt} {body : MS} {ε : Ep} {α S : Type} (en : α → D) (enc : S → Option α → Ep) (step : S → α → S) (xs : List α) (s : S) (e0 : ε = enc s none) (h : ∀ s o, ∀ a ∈ xs, turn pt body (en a) (enc s o) = .ok .nx (enc (step s a) (some a))) :
    forL pt body (xs.map en) ε = .ok .nx (enc (xs.foldl step s) (xs.getLast?)) := by
  subst e0
  rw [forL_foldM' en enc step xs s none h]; simp
theorem forL_search {pt : Pt} {body : MS} {ε : Ep} {α : Type} (en : α → D) (p : α → Bool) (out : α → SV) (J : Option α → Ep) (K : α → Ep) (xs : List α) (e0 : ε = J none)
    (h : ∀ o, ∀ a ∈ xs, turn pt body (en a) (J o) = cond (p a) (.ok (.rt (out a)) (K a)) (.ok .nx (J (some a)))) :
    forL pt body (xs.map en) ε = match xs.find? p with
      | some a => .ok (.rt (out a)) (K a)
      | none => .ok .nx (J xs.getLast?) := by
  subst e0
  rw [forL_search' en p out J K xs none h]; simp
/-! ### comprehensions -/
def lcStep (pt : Pt) (mt : MT) (me : ME) (vs : List Nat) (d : D) : M (Option D) := bd (bindP pt d) fun _ => bd mt fun b => cond b (bd me fun x => bd (lft (ofO x.toD)) fun dx => bd (wipM vs) fun _ => pr (some dx)) (bd (wipM vs) fun _ => pr none)
theorem lcL_step (pt : Pt) (mt : MT) (me : ME) (vs : List Nat) (d : D) (r acc : List D) (ε : Ep) : lcL pt mt me vs (d :: r) acc ε = (lcStep pt mt me vs d ε).bd fun o => match o with
    | some x => lcL pt mt me vs r (acc ++ [x])
    | none => lcL pt mt me vs r acc := by
  show bd (bindP pt d) _ ε = _
  unfold lcStep bd
  cases bindP pt d ε with
  | err x ε' => rfl
  | stuck => rfl
  | ok u ε' =>
    show (mt ε').bd _ = ((mt ε').bd _).bd _
    cases mt ε' with
    | err x ε' => rfl
    | stuck => rfl
    | ok b ε' =>
      cases b with
      | false => rfl
      | true =>
        show (me ε').bd _ = ((me ε').bd _).bd _
        cases me ε' with
        | err x ε' => rfl
        | stuck => rfl
        | ok x ε' =>
          show (lft (ofO x.toD) ε').bd _ = ((lft (ofO x.toD) ε').bd _).bd _
          cases x.toD <;> rfl
theorem lcL_pure {pt : Pt} {mt : MT} {me : ME} {vs : List Nat} {ε : Ep} {α : Type} (en : α → D) (p : α → Bool) (f : α → D) : ∀ (items : List α) (acc : List D),
    (∀ a ∈ items, lcStep pt mt me vs (en a) ε = cond (p a) (.ok (some (f a)) ε) (.ok none ε)) →
    lcL pt mt me vs (items.map en) acc ε = .ok (acc ++ (items.filter p).map f) ε
  | [], acc, _ => by simp [lcL]
  | a :: r, acc, h => by
    have ih := fun acc => lcL_pure en p f r acc fun b hb => h b (List.mem_cons_of_mem _ hb)
    rw [List.map_cons, lcL_step, h a List.mem_cons_self]
    cases q : p a with
    | true =>
      show lcL pt mt me vs (r.map en) (acc ++ [f a]) ε = _
      rw [ih, List.filter_cons_of_pos q, List.map_cons, List.append_assoc]
      rfl
    | false =>
      show lcL pt mt me vs (r.map en) acc ε = _
      rw [ih, List.filter_cons_of_neg (by rw [q]; decide)]
theorem cLc_pure {mi : MI} {pt : Pt} {mt : MT} {me : ME} {vs : List Nat} {ε : Ep} {α : Type} (items : List α) (en : α → D) (p : α → Bool) (f : α → D) (e : mi ε = .ok (items.map en) ε) (hl : items.length ≤ 16777216)
    (h : ∀ a ∈ items, lcStep pt mt me vs (en a) (wipE ε vs) = cond (p a) (.ok (some (f a)) (wipE ε vs)) (.ok none (wipE ε vs)))
    (hr : resE ε vs (wipE ε vs) = ε) : cLc mi pt mt me vs ε = .ok (.ol ((items.filter p).map f)) ε := by
  unfold cLc
  rw [bd_ok e]
  rw [if_pos (by rw [List.length_map]; exact Nat.ble_eq_true_of_le hl)]
  rw [lcL_pure en p f items [] h]
  show Rs.ok (SV.ol ([] ++ (items.filter p).map f)) (resE ε vs (wipE ε vs)) = _
  rw [hr, List.nil_append]
/-- out of ints, ints -/
theorem cLc_ints {mi : MI} {pt : Pt} {mt : MT} {me : ME} {vs : List Nat} {ε : Ep} (items : List Int) (p : Int → Bool) (e : mi ε = .ok (dI items) ε) (hl : items.length ≤ 16777216)
    (h : ∀ a ∈ items, lcStep pt mt me vs (.int a) (wipE ε vs) = cond (p a) (.ok (some (.int a)) (wipE ε vs)) (.ok none (wipE ε vs)))
    (hr : resE ε vs (wipE ε vs) = ε) : cLc mi pt mt me vs ε = .ok (.ol (dI (items.filter p))) ε := cLc_pure items .int p .int e hl h hr
/-- all of them -/
theorem cLc_all {mi : MI} {pt : Pt} {me : ME} {vs : List Nat} {ε : Ep} {α : Type} (items : List α) (en : α → D) (f : α → D) (e : mi ε = .ok (items.map en) ε) (hl : items.length ≤ 16777216)
    (h : ∀ a ∈ items, lcStep pt (pr true) me vs (en a) (wipE ε vs) = .ok (some (f a)) (wipE ε vs))
    (hr : resE ε vs (wipE ε vs) = ε) : cLc mi pt (pr true) me vs ε = .ok (.ol (items.map f)) ε := by
  have := cLc_pure items en (fun _ => true) f e hl (fun a ha => by rw [h a ha]; rfl) hr
  rw [this, List.filter_eq_self.mpr (fun _ _ => rfl)]
def dB (xs : List Bool) : List D := xs.map .bl
theorem cLc_bools {mi : MI} {pt : Pt} {me : ME} {vs : List Nat} {ε : Ep} {α : Type} (items : List α) (en : α → D) (f : α → Bool) (e : mi ε = .ok (items.map en) ε) (hl : items.length ≤ 16777216)
    (h : ∀ a ∈ items, lcStep pt (pr true) me vs (en a) (wipE ε vs) = .ok (some (.bl (f a))) (wipE ε vs))
    (hr : resE ε vs (wipE ε vs) = ε) : cLc mi pt (pr true) me vs ε = .ok (.ol (dB (items.map f))) ε := by
  rw [cLc_all items en (fun a => .bl (f a)) e hl h hr]
  unfold dB; rw [List.map_map]; rfl
theorem bools_dB : ∀ xs : List Bool, bools? (dB xs) = some xs
  | [] => rfl
  | x :: r => by
    show (bools? (dB r)).map (x :: ·) = _
    rw [bools_dB r]; rfl
@[simp] theorem rk_allB (xs : List Bool) : allO [.lst (dB xs)] = okd (.bl (xs.all id)) := by
  show (ofO ((some (dB xs)).bind bools?)).bd _ = _
  rw [Option.bind_some, bools_dB]; rfl
@[simp] theorem rk_anyB (xs : List Bool) : anyO [.lst (dB xs)] = okd (.bl (xs.any id)) := by
  show (ofO ((some (dB xs)).bind bools?)).bd _ = _
  rw [Option.bind_some, bools_dB]; rfl
@[simp] theorem rk_allL {α : Type} (xs : List α) (f : α → Bool) : (xs.map f).all id = xs.all f := by
  induction xs with
  | nil => rfl
  | cons a r ih => simp
@[simp] theorem rk_anyL {α : Type} (xs : List α) (f : α → Bool) : (xs.map f).any id = xs.any f := by
  induction xs with
  | nil => rfl
  | cons a r ih => simp
/-! ### ranges -/
theorem rg_ok {n : Nat} (h : n ≤ 1000000000) : rg1O (.int (n : Int)) = .ok ((List.range n).map fun i => .int (i : Nat)) := by
  show (if (decide (-1000000000 ≤ (n : Int)) && decide ((n : Int) ≤ 1000000000)) = true then Ot.ok (rgD 0 (n : Int).toNat) else .stuck) = _
  rw [if_pos (by simp; omega)]
  unfold rgD
  simp
end Dv
namespace Dv
open PySem PySem.Spec PyProof.Rows L2
/-! ### a loop that may end with one and the same answer -/
theorem forL_foldO {pt : Pt} {body : MS} {α S : Type} (en : α → D) (enc : S → Option α → Ep) (step : S → α → Option S) (P : S → Prop) (out : SV) : ∀ (xs : List α) (s : S) (o : Option α), P s →
    (∀ s o, ∀ a ∈ xs, P s → match step s a with
      | some s' => P s' ∧ turn pt body (en a) (enc s o) = .ok .nx (enc s' (some a))
      | none => ∃ ε', turn pt body (en a) (enc s o) = .ok (.rt out) ε') →
    match xs.foldlM step s with
    | some s' => ∃ o', forL pt body (xs.map en) (enc s o) = .ok .nx (enc s' o')
    | none => ∃ ε', forL pt body (xs.map en) (enc s o) = .ok (.rt out) ε'
  | [], s, o, _, _ => ⟨o, rfl⟩
  | a :: r, s, o, hp, h => by
    have h0 := h s o a List.mem_cons_self hp
    rw [List.foldlM_cons, List.map_cons, forL_turn]
    cases q : step s a with
    | none =>
      rw [q] at h0
      obtain ⟨ε', e⟩ := h0
      rw [e]
      exact ⟨ε', rfl⟩
    | some s' =>
      rw [q] at h0
      have h1 : turn pt body (en a) (enc s o) = .ok .nx (enc s' (some a)) := h0.2
      rw [h1]
      exact forL_foldO en enc step P out r s' (some a) h0.1 fun s o b hb => h s o b (List.mem_cons_of_mem _ hb)
section
variable (i j : Int) (a b : Bool)
@[simp] theorem rk_ne_ol (x : SV) (ys : List D) : oNe x (.ol ys) = oNe x (.dat (.lst ys)) := by unfold oNe; simp
@[simp] theorem rk_eq_ol (x : SV) (ys : List D) : oEq x (.ol ys) = oEq x (.dat (.lst ys)) := by unfold oEq; simp
theorem rk_neL (xs ys : List Int) : oNe (.dat (.lst (dI xs))) (.dat (.lst (dI ys))) = okd (.bl (!decide (xs = ys))) := by
  show (ofO (if (pls (dI xs) && pls (dI ys) && decide (min (deps (dI xs) + 1) (deps (dI ys) + 1) ≤ 60)) = true then some (D.bl (!eqvs (dI xs) (dI ys))) else none)).bd okd = _
  rw [pls_dI, pls_dI, deps_dI, deps_dI, eqvs_dI]; simp
theorem rk_eqL (xs ys : List Int) : oEq (.dat (.lst (dI xs))) (.dat (.lst (dI ys))) = okd (.bl (decide (xs = ys))) := by
  show (ofO (if (pls (dI xs) && pls (dI ys) && decide (min (deps (dI xs) + 1) (deps (dI ys) + 1) ≤ 60)) = true then some (D.bl (eqvs (dI xs) (dI ys))) else none)).bd okd = _
  rw [pls_dI, pls_dI, deps_dI, deps_dI, eqvs_dI]; simp
theorem rk_neT (xs ys : List Int) : oNe (.dat (.tup (dI xs))) (.dat (.tup (dI ys))) = okd (.bl (!decide (xs = ys))) := by
  show (ofO (if (pls (dI xs) && pls (dI ys) && decide (min (deps (dI xs) + 1) (deps (dI ys) + 1) ≤ 60)) = true then some (D.bl (!eqvs (dI xs) (dI ys))) else none)).bd okd = _
  rw [pls_dI, pls_dI, deps_dI, deps_dI, eqvs_dI]; simp
theorem rk_eqT (xs ys : List Int) : oEq (.dat (.tup (dI xs))) (.dat (.tup (dI ys))) = okd (.bl (decide (xs = ys))) := by
  show (ofO (if (pls (dI xs) && pls (dI ys) && decide (min (deps (dI xs) + 1) (deps (dI ys) + 1) ≤ 60)) = true then some (D.bl (eqvs (dI xs) (dI ys))) else none)).bd okd = _
  rw [pls_dI, pls_dI, deps_dI, deps_dI, eqvs_dI]; simp
theorem rk_neL0 (xs : List Int) : oNe (.dat (.lst (dI xs))) (.dat (.lst [])) = okd (.bl (!decide (xs = []))) := rk_neL xs []
theorem rk_eqL0 (xs : List Int) : oEq (.dat (.lst (dI xs))) (.dat (.lst [])) = okd (.bl (decide (xs = []))) := rk_eqL xs []
theorem dI_length (xs : List Int) : (dI xs).length = xs.length := len_dI xs
theorem sortedOL (xs : List Int) : sortedO [.lst (dI xs)] = .ok (.ol (dI (srtI xs))) := by
  show (ofO ((some (dI xs)).bind ints?)).bd _ = _
  rw [Option.bind_some, ints_dI]; rfl
theorem sortedB_of {ds : List D} {r : SV} (h : sortedO ds = .ok r) : sortedB ds = .ok r := by unfold sortedB; rw [h]
theorem sortedL (xs : List Int) : sortedB [.lst (dI xs)] = .ok (.ol (dI (srtI xs))) := sortedB_of (sortedOL xs)
theorem srtI_id {xs : List Int} (h : xs.Pairwise (· < ·)) : srtI xs = xs := by
  unfold srtI
  apply List.mergeSort_of_pairwise
  exact h.imp fun h => by simp; omega
end
end Dv
namespace Dv
@[simp] theorem rk_condok {α : Type} (c : Bool) (a b : α) (ε : Ep) : (bif c then Rs.ok a ε else Rs.ok b ε) = Rs.ok (bif c then a else b) ε := by cases c <;> rfl
@[simp] theorem rk_conddat (c : Bool) (a b : D) : (bif c then SV.dat a else SV.dat b) = SV.dat (bif c then a else b) := by cases c <;> rfl
@[simp] theorem rk_condbl (c a b : Bool) : (bif c then D.bl a else D.bl b) = D.bl (bif c then a else b) := by cases c <;> rfl
end Dv
namespace Dv
open L2
section
variable {α : Type}
theorem atI_nat (xs : List α) (i : Nat) : atI xs (i : Int) = xs[i]? := by
  unfold atI ixN
  rw [if_pos (Int.natCast_nonneg i)]
  by_cases h : (i : Int) < (xs.length : Int)
  · rw [if_pos h]; rfl
  · rw [if_neg h, List.getElem?_eq_none (by omega)]; rfl
@[simp] theorem rk_at0 (a : α) (r : List α) : atI (a :: r) 0 = some a := by
  have := atI_nat (a :: r) 0; simpa using this
@[simp] theorem rk_at1 (a b : α) (r : List α) : atI (a :: b :: r) 1 = some b := by
  have := atI_nat (a :: b :: r) 1; simpa using this
@[simp] theorem rk_at2 (a b c : α) (r : List α) : atI (a :: b :: c :: r) 2 = some c := by
  have := atI_nat (a :: b :: c :: r) 2; simpa using this
@[simp] theorem rk_at3 (a b c d : α) (r : List α) : atI (a :: b :: c :: d :: r) 3 = some d := by
  have := atI_nat (a :: b :: c :: d :: r) 3; simpa using this
theorem atI_lastD (xs : List α) : atI xs (-1) = xs.getLast? := by
  unfold atI ixN
  rw [if_neg (by decide)]
  cases xs with
  | nil => rfl
  | cons a r =>
    rw [if_pos (by simp; omega)]
    have : ((-1 : Int) + ((a :: r).length : Nat)).toNat = r.length := by simp; omega
    rw [this, List.getLast?_eq_getElem?]; simp
@[simp] theorem rk_ixL (xs : List D) (i : Int) : ixO (.lst xs) (.int i) = (ofO (atI xs i)).bd okd := rfl
@[simp] theorem rk_ixT (xs : List D) (i : Int) : ixO (.tup xs) (.int i) = (ofO (atI xs i)).bd okd := rfl
@[simp] theorem rk_ixF (xs : List D) (i : Int) : ixO (.frl xs) (.int i) = (ofO (atI xs i)).bd okd := rfl
@[simp] theorem rk_ixD (lk : Bool) (kvs : List (Key × D)) (i : Int) : ixO (.dct lk kvs) (.int i) = (ofO (lookD kvs (.inl i))).bd okd := rfl
theorem atI_dI (xs : List Int) (i : Int) : atI (dI xs) i = (atI xs i).map .int := atI_map D.int xs i
end
end Dv
namespace Dv
open PySem PySem.Spec PyProof.Rows L2
section
variable {ε : Ep}
@[simp] theorem rk_sPut (pl : Pl) (mi mv : ME) : sPut pl mi mv ε = (mv ε).bd fun r => bd (lft (ofO r.toD)) fun d => ifOw pl (bd mi fun q => bd (lft (ofO q.toD)) fun i => bd (modP pl (putO i d)) fun _ => pr .nx) := rfl
@[simp] theorem rk_sPutT (pl : Pl) (mi : ME) (j : Nat) (me : ME) : sPutT pl mi j me ε = (me ε).bd fun r => bd (lft (ofO r.toD)) fun d => bd (lft (ofO (pair? d))) fun p => ifOw pl (bd mi fun q => bd (lft (ofO q.toD)) fun i => bd (modP pl (putO i p.1)) fun _ => bd (bindP (.nm j) p.2) fun _ => pr .nx) := rfl
@[simp] theorem rk_pair (a b : D) : pair? (.tup [a, b]) = some (a, b) := rfl
@[simp] theorem rk_ifOw {α : Type} (pl : Pl) (m : M α) : ifOw pl m ε = if isOwn (getPl pl ε) = true then m ε else .stuck := rfl
@[simp] theorem rk_ifL {α : Type} (pl : Pl) (m : M α) : ifL pl m ε = if isOl (getPl pl ε) = true then m ε else .stuck := rfl
@[simp] theorem rk_modP (pl : Pl) (g : SV → Option SV) : modP pl g ε = match getPl pl ε with
  | some s => match g s with
    | some s' => .ok () (setPl pl s' ε)
    | none => .stuck
  | none => .stuck := rfl
@[simp] theorem rk_getS (i : Nat) : getPl (.s i) ε = ε[i]? := rfl
@[simp] theorem rk_setS (i : Nat) (s : SV) : setPl (.s i) s ε = ε.set i s := rfl
@[simp] theorem rk_isOwnL (xs : List D) : isOwn (some (.ol xs)) = true := rfl
@[simp] theorem rk_isOwnD (xs : List (Key × D)) : isOwn (some (.od xs)) = true := rfl
@[simp] theorem rk_isOlL (xs : List D) : isOl (some (.ol xs)) = true := rfl
@[simp] theorem rk_cApp (pl : Pl) (m : ME) : cApp pl m ε = ifL pl (bd m fun r => bd (lft (ofO r.toD)) fun d => bd (modP pl (appO d)) fun _ => pr (.dat .non)) ε := rfl
@[simp] theorem rk_cExt (pl : Pl) (m : ME) : cExt pl m ε = ifL pl (bd m fun r => bd (lft (ofO r.toD)) fun d => bd (modP pl (extO d)) fun _ => pr (.dat .non)) ε := rfl
theorem rk_app (d : D) (xs : List D) (h : xs.length < 16777216) : appO d (.ol xs) = some (.ol (xs ++ [d])) := by
  show (if Nat.blt xs.length 16777216 = true then _ else _) = _
  rw [if_pos (Nat.blt_eq.mpr h)]
theorem rk_putD (i : Int) (d : D) (kvs : List (Key × D)) (h : kvs.length < 16777216) : putO (.int i) d (.od kvs) = some (.od (setD kvs (.inl i) d)) := by
  show (if Nat.blt kvs.length 16777216 = true then _ else _) = _
  rw [if_pos (Nat.blt_eq.mpr h)]
theorem rk_putL (i : Nat) (d : D) (xs : List D) (h : i < xs.length) : putO (.int (i : Nat)) d (.ol xs) = some (.ol (xs.set i d)) := by
  show (ixN xs.length (i : Int)).map _ = _
  have : ixN xs.length (i : Int) = some i := by
    unfold ixN
    rw [if_pos (Int.natCast_nonneg i), if_pos (by omega)]; simp
  rw [this]; rfl
@[simp] theorem rk_i2 (f : Int → Int → D) (i j : Int) : i2 f (.int i) (.int j) = some (f i j) := rfl
@[simp] theorem rk_dictD (lk : Bool) (kvs : List (Key × D)) : dictO [.dct lk kvs] = .ok (.od kvs) := rfl
@[simp] theorem rk_tupleL (xs : List D) : tupleO [.lst xs] = okd (.tup xs) := rfl
@[simp] theorem rk_tupleT (xs : List D) : tupleO [.tup xs] = okd (.tup xs) := rfl
@[simp] theorem rk_listL (xs : List D) : listO [.lst xs] = .ok (.ol xs) := rfl
@[simp] theorem rk_listT (xs : List D) : listO [.tup xs] = .ok (.ol xs) := rfl
@[simp] theorem rk_abs (i : Int) : absO [.int i] = okd (.int (if i < 0 then -i else i)) := rfl
@[simp] theorem rk_int (i : Int) : intO [.int i] = okd (.int i) := rfl
@[simp] theorem rk_max (i j : Int) : maxO [.int i, .int j] = okd (.int (if j > i then j else i)) := rfl
@[simp] theorem rk_min (i j : Int) : minO [.int i, .int j] = okd (.int (if j < i then j else i)) := rfl
@[simp] theorem rk_neg (i : Int) : negO (.int i) = okd (.int (-i)) := rfl
end
end Dv
namespace Dv
open PySem PySem.Spec PyProof.Rows L2
theorem cut_tail (xs : List D) : Dv.cutD xs (some 1) none = xs.tail := by
  unfold Dv.cutD
  rw [show (some (1 : Int)) = some ((1 : Nat) : Int) from rfl, HT.sIx_nat, HT.sIx_none]
  cases xs with
  | nil => rfl
  | cons a r =>
    have : min 1 (a :: r).length = 1 := by simp
    rw [this]; simp
theorem cut_to (xs : List D) (k : Nat) : Dv.cutD xs none (some (k : Int)) = xs.take k := by
  unfold Dv.cutD
  rw [HT.sIx_nat, HT.sIx_none]
  simp
@[simp] theorem rk_slT (lo hi : Option Int) (xs : List D) : slO lo hi (.tup xs) = okd (.tup (Dv.cutD xs lo hi)) := rfl
@[simp] theorem rk_slL (lo hi : Option Int) (xs : List D) : slO lo hi (.lst xs) = .ok (.ol (Dv.cutD xs lo hi)) := rfl
theorem rk_zipT (xs ys : List D) : zipO (.tup xs) (.tup ys) = some (ziD xs ys) := rfl
end Dv
namespace Dv
open PySem PySem.Spec PyProof.Rows L2
/-- a loop that folds, with what holds of what is left -/
theorem forL_foldP' {pt : Pt} {body : MS} {α S : Type} (en : α → D) (enc : S → Option α → Ep) (step : S → α → S) (P : List α → S → Prop) : ∀ (xs : List α) (s : S) (o : Option α), P xs s → (∀ a r s o, P (a :: r) s → turn pt body (en a) (enc s o) = .ok .nx (enc (step s a) (some a)) ∧ P r (step s a)) →
    forL pt body (xs.map en) (enc s o) = .ok .nx (enc (xs.foldl step s) (xs.getLast?.or o)) ∧ P [] (xs.foldl step s)
  | [], s, o, hp, _ => ⟨rfl, hp⟩
  | a :: r, s, o, hp, h => by
    obtain ⟨h1, h2⟩ := h a r s o hp
    obtain ⟨ih, ip⟩ := forL_foldP' en enc step P r (step s a) (some a) h2 h
    refine ⟨?_, ip⟩
    rw [List.map_cons, forL_turn, h1]
    show forL pt body (r.map en) (enc (step s a) (some a)) = _
    rw [ih]
    congr 2
    cases r with
    | nil => rfl
    | cons b r => rw [List.getLast?_cons_cons]; simp [List.getLast?_cons]
theorem forL_foldP {pt : Pt} {body : MS} {ε : Ep} {α S : Type} (en : α → D) (enc : S → Option α → Ep) (step : S → α → S) (P : List α → S → Prop) (xs : List α) (s : S) (e0 : ε = enc s none) (hp : P xs s) (h : ∀ a r s o, P (a :: r) s → turn pt body (en a) (enc s o) = .ok .nx (enc (step s a) (some a)) ∧ P r (step s a)) :
    forL pt body (xs.map en) ε = .ok .nx (enc (xs.foldl step s) (xs.getLast?)) := by
  subst e0
  rw [(forL_foldP' en enc step P xs s none hp h).1]; simp
/-- ints out of anything -/
theorem cLc_intsF {mi : MI} {pt : Pt} {mt : MT} {me : ME} {vs : List Nat} {ε : Ep} {α : Type} (items : List α) (en : α → D) (p : α → Bool) (f : α → Int) (e : mi ε = .ok (items.map en) ε) (hl : items.length ≤ 16777216)
    (h : ∀ a ∈ items, lcStep pt mt me vs (en a) (wipE ε vs) = cond (p a) (.ok (some (.int (f a))) (wipE ε vs)) (.ok none (wipE ε vs)))
    (hr : resE ε vs (wipE ε vs) = ε) : cLc mi pt mt me vs ε = .ok (.ol (dI ((items.filter p).map f))) ε := by
  rw [cLc_pure items en p (fun a => .int (f a)) e hl h hr]
  unfold dI; rw [List.map_map]; rfl
theorem foldl_filter {α : Type} (p : α → Bool) (f : α → Int) : ∀ (xs : List α) (acc : List Int), xs.foldl (fun acc a => if p a = true then acc ++ [f a] else acc) acc = acc ++ (xs.filter p).map f
  | [], acc => by simp
  | a :: r, acc => by
    rw [List.foldl_cons, foldl_filter p f r]
    cases q : p a <;> simp [q]
theorem srtI_mem (xs : List Int) (x : Int) : x ∈ srtI xs ↔ x ∈ xs := by unfold srtI; exact List.mem_mergeSort
theorem srtI_len (xs : List Int) : (srtI xs).length = xs.length := by unfold srtI; exact List.length_mergeSort _
end Dv
namespace Dv
open PySem PySem.Spec PyProof.Rows L2
section
variable {ε : Ep}
@[simp] theorem rk_sFld (i : Nat) (C x : Str) (m : ME) : sFld i C x m ε = (m ε).bd fun r => setF1 i (fldO C x r) := rfl
@[simp] theorem rk_setF1 (i : Nat) (g : SV → Option SV) : setF1 i g ε = match ε[i]? with
  | some s => match g s with
    | some s' => .ok .nx (ε.set i s')
    | none => .stuck
  | none => .stuck := rfl
@[simp] theorem rk_cFldO (i : Nat) (C x : Str) : cFldO i C x ε = match getPl (.f i C x) ε with
  | some (.dat d) => .ok (.dat d) ε
  | _ => .stuck := rfl
@[simp] theorem rk_fnM (n len : Nat) (m : MS) (s : SV) (ds : List D) : fnM n len m s ds = if (s.own? && ds.length + 1 == n) = true then fnRM (m (s :: (ds.map .dat ++ List.replicate (len - n) .un))) else .stuck := rfl
@[simp] theorem rk_fnRM1 (r s : SV) : fnRM (.ok (.rt r) (s :: ε)) = .ok r s := rfl
@[simp] theorem rk_fnRM2 (s : SV) : fnRM (.ok .nx (s :: ε)) = .ok (.dat .non) s := rfl
@[simp] theorem rk_ownL (xs : List D) : (SV.ol xs).own? = true := rfl
@[simp] theorem rk_ownD (xs : List (Key × D)) : (SV.od xs).own? = true := rfl
@[simp] theorem rk_ownI (C : Str) (xs : List (Str × SV)) : (SV.oi C xs).own? = true := rfl
@[simp] theorem rk_mkR (s : SV) : mkR (.ok (.dat .non) s) ε = .ok s ε := rfl
@[simp] theorem rk_cMake (C : Str) (g : SV → List D → Rm) (mm : MA) (df : List D) : cMake C g mm df ε = (mm ε).bd fun rs => bd (lft (ofO (toDs rs))) fun ds => mkR (g (.oi C []) (ds ++ df)) := rfl
@[simp] theorem rk_valsO (kvs : List (Key × D)) : valsO (.dct true kvs) = some (kvs.map (·.2)) := rfl
@[simp] theorem rk_hasO (i : Nat) : hasO i ε = match ε[i]? with
  | some s => s.own?
  | none => false := rfl
@[simp] theorem rk_ifO {α : Type} (i : Nat) (m : M α) : ifO i m ε = if hasO i ε = true then m ε else .stuck := rfl
@[simp] theorem rk_onS (i : Nat) (g : SV → Rm) : onS i g ε = match ε[i]? with
  | some s => if s.own? = true then (match g s with
    | .ok r s' => .ok r (ε.set i s')
    | .err x s' => .err x (ε.set i s')
    | .stuck => .stuck) else .stuck
  | none => .stuck := rfl
@[simp] theorem rk_cCallM (i : Nat) (g : SV → List D → Rm) (mm : MA) (df : List D) : cCallM i g mm df ε = ifO i (bd mm fun rs => bd (lft (ofO (toDs rs))) fun ds => onS i fun s => g s (ds ++ df)) ε := rfl
@[simp] theorem rk_cCallT (m0 : ME) (g : SV → List D → Rm) (mm : MA) : cCallT m0 g mm ε = (m0 ε).bd fun s => bd mm fun rs => bd (lft (ofO (toDs rs))) fun ds => fun ε => if s.own? = true then (match g s ds with
  | .ok r _ => .ok r ε
  | .err x _ => .err x ε
  | .stuck => .stuck) else .stuck := rfl
end
theorem enD_map {α : Type} (f : α → D) (l : List α) : enD (l.map f) = l.zipIdx.map fun p => .tup [.int (p.2 : Nat), f p.1] := by
  unfold enD
  rw [List.zipIdx_map, List.map_map]; rfl
theorem zipIdx_asc {α : Type} : ∀ (l : List α) (k : Nat), (l.zipIdx k).Pairwise (fun p q => p.2 < q.2) ∧ ∀ p ∈ l.zipIdx k, k ≤ p.2
  | [], k => ⟨by simp, by simp⟩
  | a :: r, k => by
    obtain ⟨h1, h2⟩ := zipIdx_asc r (k + 1)
    rw [List.zipIdx_cons]
    refine ⟨List.pairwise_cons.mpr ⟨fun p hp => ?_, h1⟩, fun p hp => ?_⟩
    · have := h2 p hp; show k < p.2; omega
    · rcases List.mem_cons.mp hp with rfl | hp
      · exact Nat.le_refl _
      · have := h2 p hp; omega
theorem zipIdx_get {α : Type} (l : List α) (p : α × Nat) (h : p ∈ l.zipIdx) : l[p.2]? = some p.1 := List.mem_zipIdx_iff_getElem?.mp h
end Dv
namespace Dv
open PySem PySem.Spec PyProof.Rows L2
section
variable {ε : Ep}
@[simp] theorem rk_fnL (i n len : Nat) (m : MS) (ds : List D) : fnL i n len m ds = if ds.length = n then fnRF (m ((lkAt i ds).map .dat ++ List.replicate (len - n) .un)) else .stuck := rfl
@[simp] theorem rk_fnRF1 (d : D) : fnRF (.ok (.rt (.dat d)) ε) = if d.flat = true then okd d else .stuck := rfl
@[simp] theorem rk_fnRF2 : fnRF (.ok .nx ε) = okd .non := rfl
@[simp] theorem rk_lkAt (a : D) (lk : Bool) (kvs : List (Key × D)) : lkAt 1 [a, .dct lk kvs] = [a, .dct true kvs] := rfl
end
end Dv
namespace Dv
open PySem PySem.Spec PyProof.Rows L2
/-! ### {k: v for ..} over ints -/
def dcStep (pt : Pt) (mt : MT) (mk me : ME) (vs : List Nat) (d : D) : M (Option (Key × D)) := bd (bindP pt d) fun _ => bd mt fun b => cond b (bd mk fun y => bd (lft (ofO (y.toD.bind keyOf?))) fun k => bd me fun x => bd (lft (ofO x.toD)) fun dx => bd (wipM vs) fun _ => pr (some (k, dx))) (bd (wipM vs) fun _ => pr none)
theorem dcL_step (pt : Pt) (mt : MT) (mk me : ME) (vs : List Nat) (d : D) (r : List D) (acc : List (Key × D)) (ε : Ep) : dcL pt mt mk me vs (d :: r) acc ε = (dcStep pt mt mk me vs d ε).bd fun o => match o with
    | some x => dcL pt mt mk me vs r (setD acc x.1 x.2)
    | none => dcL pt mt mk me vs r acc := by
  show bd (bindP pt d) _ ε = _
  unfold dcStep bd
  cases bindP pt d ε with
  | err x ε' => rfl
  | stuck => rfl
  | ok u ε' =>
    show (mt ε').bd _ = ((mt ε').bd _).bd _
    cases mt ε' with
    | err x ε' => rfl
    | stuck => rfl
    | ok b ε' =>
      cases b with
      | false => rfl
      | true =>
        show (mk ε').bd _ = ((mk ε').bd _).bd _
        cases mk ε' with
        | err x ε' => rfl
        | stuck => rfl
        | ok y ε' =>
          show (lft (ofO (y.toD.bind keyOf?)) ε').bd _ = ((lft (ofO (y.toD.bind keyOf?)) ε').bd _).bd _
          cases y.toD.bind keyOf? with
          | none => rfl
          | some k =>
            show (me ε').bd _ = ((me ε').bd _).bd _
            cases me ε' with
            | err x ε' => rfl
            | stuck => rfl
            | ok x ε' =>
              show (lft (ofO x.toD) ε').bd _ = ((lft (ofO x.toD) ε').bd _).bd _
              cases x.toD <;> rfl
theorem setD_newI (kvs : List (Key × D)) (i : Int) (d : D) (h : ∀ kv ∈ kvs, kv.1 ≠ .inl i) : setD kvs (.inl i) d = kvs ++ [(.inl i, d)] := by
  unfold setD
  have : hasD kvs (.inl i) = false := by
    unfold hasD
    rw [List.any_eq_false]
    intro kv hkv
    simpa using h kv hkv
  rw [this]; simp
theorem dcL_ints {pt : Pt} {mt : MT} {mk me : ME} {vs : List Nat} {ε : Ep} {α : Type} (en : α → D) (k : α → Int) (f : α → D) : ∀ (items : List α) (acc : List (Key × D)), (items.map k).Nodup → (∀ kv ∈ acc, ∀ a ∈ items, kv.1 ≠ .inl (k a)) →
    (∀ a ∈ items, dcStep pt mt mk me vs (en a) ε = .ok (some (.inl (k a), f a)) ε) →
    dcL pt mt mk me vs (items.map en) acc ε = .ok (acc ++ items.map fun a => (.inl (k a), f a)) ε
  | [], acc, _, _, _ => by simp [dcL]
  | a :: r, acc, nd, hd, h => by
    obtain ⟨n1, n2⟩ := List.nodup_cons.mp (show (k a :: r.map k).Nodup from nd)
    rw [List.map_cons, dcL_step, h a List.mem_cons_self]
    show dcL pt mt mk me vs (r.map en) (setD acc (.inl (k a)) (f a)) ε = _
    rw [setD_newI _ _ _ fun kv hkv => hd kv hkv a List.mem_cons_self]
    rw [dcL_ints en k f r _ n2 (fun kv hkv b hb => ?_) fun b hb => h b (List.mem_cons_of_mem _ hb)]
    · simp
    · rcases List.mem_append.mp hkv with z | z
      · exact hd kv z b (List.mem_cons_of_mem _ hb)
      · have : kv = (.inl (k a), f a) := by simpa using z
        subst this
        intro e
        have := Sum.inl.inj e
        exact n1 (List.mem_map.mpr ⟨b, hb, this.symm⟩)
theorem cDc_ints {mi : MI} {pt : Pt} {mk me : ME} {vs : List Nat} {ε : Ep} {α : Type} (items : List α) (en : α → D) (k : α → Int) (f : α → D) (e : mi ε = .ok (items.map en) ε) (hl : items.length ≤ 16777216) (nd : (items.map k).Nodup)
    (h : ∀ a ∈ items, dcStep pt (pr true) mk me vs (en a) (wipE ε vs) = .ok (some (.inl (k a), f a)) (wipE ε vs))
    (hr : resE ε vs (wipE ε vs) = ε) : cDc mi pt (pr true) mk me vs ε = .ok (.od (items.map fun a => (.inl (k a), f a))) ε := by
  unfold cDc
  rw [bd_ok e]
  rw [if_pos (by rw [List.length_map]; exact Nat.ble_eq_true_of_le hl)]
  rw [dcL_ints en k f items [] nd (fun _ h => by cases h) h]
  show Rs.ok (SV.od ([] ++ _)) (resE ε vs (wipE ε vs)) = _
  rw [hr, List.nil_append]
end Dv
namespace Dv
open PySem PySem.Spec PyProof.Rows L2
@[simp] theorem rk_cCallK (n : Nat) (π : List Nat) (g : List D → Ot SV) (mm : MA) (ε : Ep) : cCallK n π g mm ε = cA (kwO n π g) mm ε := rfl
@[simp] theorem rk_kwO (n : Nat) (π : List Nat) (g : List D → Ot SV) (ds : List D) : kwO n π g ds = if ds.length = n then g (perm .non π ds) else .stuck := rfl
@[simp] theorem rk_perm0 {α : Type} (d : α) (xs : List α) : perm d [] xs = [] := rfl
@[simp] theorem rk_perm {α : Type} (d : α) (i : Nat) (π : List Nat) (xs : List α) : perm d (i :: π) xs = xs.getD i d :: perm d π xs := rfl
end Dv

-- Mk1
namespace Wk
open PySem PySem.Spec PyProof.Rows L2 Dv Hm

/-! ### choices -/
theorem choices_loop {n m : Nat} (hn : n ≤ 1000000) (hm : m ≤ n) : g_choices [.int (n : Int), .int (m : Int)] = okd (.int (chN n m : Nat)) := by
  unfold g_choices m_choices
  have h1 : ¬ ((m : Int) < 0) := by omega
  have h2 : ¬ (n : Int) < m := by omega
  simp [h1, h2, rg_ok (show m ≤ 1000000000 by omega)]
  rw [forL_range (I := fun i => [.dat (.int (n : Int)), .dat (.int (m : Int)), .dat (.int (chN n i : Nat)), match i with | 0 => .un | i + 1 => .dat (.int (i : Nat))]) (by simp [chN]) ?h]
  case h =>
    intro i hi
    have e2 : ((chN n i : Nat) : Int) * ((n : Int) - (i : Int)) / ((i : Int) + 1) = ((chN n (i + 1) : Nat) : Int) := by
      show _ = ((chN n i * (n - i) / (i + 1) : Nat) : Int)
      have : (n : Int) - (i : Int) = ((n - i : Nat) : Int) := by omega
      rw [this]
      simp
    have e1 : mulO (.int (chN n i : Nat)) (.int ((n : Int) - (i : Int))) = okd (.int (((chN n i : Nat) : Int) * ((n : Int) - (i : Int)))) := rk_mul _ _ (.inr (by omega))
    have e3 := fun k => rk_fdiv k ((i : Int) + 1) (by omega) (by omega)
    simp [turn, e1, e3, e2]
  simp
theorem choices_eq {n : Nat} {k : Int} (hn : n ≤ 1000000) : g_choices [.int (n : Int), .int k] = okd (.int (chI n k : Nat)) := by
  unfold chI
  by_cases h : k < 0 ∨ k > (n : Int)
  · rw [if_pos h]
    unfold g_choices m_choices
    by_cases h1 : k < 0
    · simp [h1]
    · have h2 : (n : Int) < k := by omega
      simp [h1, h2]
  · rw [if_neg h]
    obtain ⟨m, rfl⟩ : ∃ m : Nat, k = m := ⟨k.toNat, by omega⟩
    rw [choices_loop hn (by omega)]
    simp
end Wk

-- Mk2
namespace Wk
open PySem PySem.Spec PyProof.Rows L2 Dv Hm

/-! ### guesses, bonds, as data -/
def kvG (g : Gs) : List (Key × D) := g.map fun p => (.inl p.1, .bl p.2)
def encG (lk : Bool) (g : Gs) : D := .dct lk (kvG g)
theorem look_kvG (g : Gs) (c : Int) : lookD (kvG g) (.inl c) = (gl g c).map D.bl := by
  induction g with
  | nil => rfl
  | cons p r ih =>
    obtain ⟨k, v⟩ := p
    rw [gl_cons]
    show (if (Sum.inl k : Key) = .inl c then some (D.bl v) else lookD (kvG r) (.inl c)) = _
    by_cases h : c = k
    · subst h; simp
    · have : ¬ (Sum.inl k : Key) = .inl c := fun e => by cases e; exact h rfl
      rw [if_neg this, if_neg h, ih]
theorem has_kvG (g : Gs) (c : Int) : hasK (.inl c) (kvG g) = (gl g c).isSome := by
  induction g with
  | nil => rfl
  | cons p r ih =>
    obtain ⟨k, v⟩ := p
    rw [gl_cons]
    show (decide ((Sum.inl k : Key) = .inl c) || hasK (.inl c) (kvG r)) = _
    by_cases h : c = k
    · subst h; simp
    · have : ¬ (Sum.inl k : Key) = .inl c := fun e => by cases e; exact h rfl
      rw [if_neg h, ih]; simp [this]
theorem rk_ninG (lk : Bool) (g : Gs) (c : Int) : oNin (.dat (.int c)) (.dat (encG lk g)) = okd (.bl (gl g c == none)) := by
  show (ofO (some (D.bl (hasK (.inl c) (kvG g) ^^ true)))).bd okd = _
  rw [has_kvG]
  cases gl g c <;> rfl
theorem rk_inG (lk : Bool) (g : Gs) (c : Int) : oIn (.dat (.int c)) (.dat (encG lk g)) = okd (.bl (gl g c).isSome) := by
  show (ofO (some (D.bl (hasK (.inl c) (kvG g) ^^ false)))).bd okd = _
  rw [has_kvG]
  cases gl g c <;> rfl
theorem rk_asG (lk : Bool) (g : Gs) : asDct (.dat (encG lk g)) = .ok (kvG g) := rk_asDct lk (kvG g)
theorem rk_isG (g : Gs) (c : Int) : oIsB (.dat ((lookD (kvG g) (.inl c)).getD .non)) (.dat (.bl true)) = okd (.bl (gl g c == some true)) := by
  rw [look_kvG]
  cases gl g c with
  | none => rfl
  | some b => cases b <;> rfl
def encT : Option Int → D
  | none => .non
  | some t => .int t
def nearD (nn : List (Int × List Int × Int)) : List (Key × D) := nn.map fun e => (.inl e.1, .lst (dI e.2.1))
def needD (nn : List (Int × List Int × Int)) : List (Key × D) := nn.map fun e => (.inl e.1, .int e.2.2)
def encB (b : Bd) : D := .obj "Bonds" [("own_cells", .lst (dI b.cells)), ("own_near", .dct false (nearD b.nn)), ("own_needs", .dct false (needD b.nn)), ("own_total", encT b.total), ("own_rim", .lst (dI b.rim))]
structure WB (b : Bd) : Prop where
  good : b.Good
  asc : b.cells.Pairwise (· < ·)
  keys : (b.nn.map (·.1)).Pairwise (· < ·)
  few : b.nn.length < 64
  small : b.cells.length ≤ 64
  near : ∀ e ∈ b.nn, e.2.1.length ≤ 1000

theorem lk_nodup {nn : List (Int × List Int × Int)} {f : List Int × Int → D} (h : (nn.map (·.1)).Pairwise (· < ·)) {e : Int × List Int × Int} (he : e ∈ nn) : lookD (nn.map fun e => ((.inl e.1 : Key), f e.2)) (.inl e.1) = some (f e.2) := by
  induction nn with
  | nil => cases he
  | cons a r ih =>
    show (if (Sum.inl a.1 : Key) = .inl e.1 then some (f a.2) else lookD (r.map fun e => ((.inl e.1 : Key), f e.2)) (.inl e.1)) = _
    obtain ⟨h1, h2⟩ := List.pairwise_cons.mp (show ((a.1) :: (r.map (·.1))).Pairwise (· < ·) from h)
    rcases List.mem_cons.mp he with q | he
    · rw [q, if_pos rfl]
    · have : a.1 < e.1 := h1 _ (List.mem_map.mpr ⟨e, he, rfl⟩)
      rw [if_neg (fun q => by have := Sum.inl.inj q; omega)]
      exact ih h2 he
section
variable {b : Bd}
@[simp] theorem oF_cells : objF ("Bonds" : Str) ("own_cells" : Str) (.dat (encB b)) = okd (.lst (dI b.cells)) := by rfl
@[simp] theorem oF_near : objF ("Bonds" : Str) ("own_near" : Str) (.dat (encB b)) = okd (.dct false (nearD b.nn)) := by rfl
@[simp] theorem oF_needs : objF ("Bonds" : Str) ("own_needs" : Str) (.dat (encB b)) = okd (.dct false (needD b.nn)) := by rfl
@[simp] theorem oF_total : objF ("Bonds" : Str) ("own_total" : Str) (.dat (encB b)) = okd (encT b.total) := by rfl
@[simp] theorem oF_rim : objF ("Bonds" : Str) ("own_rim" : Str) (.dat (encB b)) = okd (.lst (dI b.rim)) := by rfl
@[simp] theorem oM_cells : objM ("Bonds" : Str) ("cells" : Str) (.dat (encB b)) = .ok (encB b) := by rfl
@[simp] theorem oM_rim : objM ("Bonds" : Str) ("rim" : Str) (.dat (encB b)) = .ok (encB b) := by rfl
@[simp] theorem oM_far : objM ("Bonds" : Str) ("far" : Str) (.dat (encB b)) = .ok (encB b) := by rfl
@[simp] theorem oM_opened : objM ("Bonds" : Str) ("opened" : Str) (.dat (encB b)) = .ok (encB b) := by rfl
@[simp] theorem oM_near : objM ("Bonds" : Str) ("near" : Str) (.dat (encB b)) = .ok (encB b) := by rfl
@[simp] theorem oM_need : objM ("Bonds" : Str) ("need" : Str) (.dat (encB b)) = .ok (encB b) := by rfl
@[simp] theorem oM_total : objM ("Bonds" : Str) ("total" : Str) (.dat (encB b)) = .ok (encB b) := by rfl
@[simp] theorem oM_isb : objM ("Bonds" : Str) ("is_broken" : Str) (.dat (encB b)) = .ok (encB b) := by rfl
@[simp] theorem oM_bn : objM ("Bonds" : Str) ("broken_number" : Str) (.dat (encB b)) = .ok (encB b) := by rfl
@[simp] theorem oM_itb : objM ("Bonds" : Str) ("is_total_broken" : Str) (.dat (encB b)) = .ok (encB b) := by rfl
@[simp] theorem oM_br : objM ("Bonds" : Str) ("broken" : Str) (.dat (encB b)) = .ok (encB b) := by rfl
@[simp] theorem oM_nc : objM ("Bonds" : Str) ("next_cell" : Str) (.dat (encB b)) = .ok (encB b) := by rfl
theorem Bonds_cells_eq : g_Bonds_cells [encB b] = okd (.lst (dI b.cells)) := by
  unfold g_Bonds_cells m_Bonds_cells; simp
theorem Bonds_rim_eq : g_Bonds_rim [encB b] = okd (.lst (dI b.rim)) := by
  unfold g_Bonds_rim m_Bonds_rim; simp
theorem Bonds_total_eq : g_Bonds_total [encB b] = okd (encT b.total) := by
  unfold g_Bonds_total m_Bonds_total; simp
theorem Bonds_far_eq (W : WB b) : g_Bonds_far [encB b] = .ok (.ol (dI (b.cells.filter fun c => !decide (c ∈ b.rim)))) := by
  unfold g_Bonds_far m_Bonds_far
  simp
  rw [cLc_ints b.cells (fun c => !decide (c ∈ b.rim)) (by simp) (by have := W.small; omega) (fun a ha => by simp [lcStep, rk_ninL]) (by simp)]
  simp
theorem Bonds_opened_eq (W : WB b) : g_Bonds_opened [encB b] = .ok (.ol (dI (b.nn.map (·.1)))) := by
  unfold g_Bonds_opened m_Bonds_opened
  have : sortedB [.dct false (nearD b.nn)] = .ok (.ol (dI (b.nn.map (·.1)))) := by
    refine sortedB_of ?_
    have e : keyInts? (nearD b.nn) = some (b.nn.map (·.1)) := by
      unfold nearD
      generalize b.nn = nn
      induction nn with
      | nil => rfl
      | cons a r ih =>
        show (keyInts? (r.map fun e => ((.inl e.1 : Key), D.lst (dI e.2.1)))).map (a.1 :: ·) = _
        rw [ih]; rfl
    show (ofO (keyInts? (nearD b.nn))).bd _ = _
    rw [e]
    show (if Nat.blt (b.nn.map (·.1)).length 64 = true then Ot.ok (SV.ol ((srtI (b.nn.map (·.1))).map .int)) else .stuck) = _
    rw [if_pos (Nat.blt_eq.mpr (by rw [List.length_map]; exact W.few)), srtI_id W.keys]; rfl
  simp [this]
theorem Bonds_near_eq (W : WB b) {e : Int × List Int × Int} (he : e ∈ b.nn) : g_Bonds_near [encB b, .int e.1] = okd (.lst (dI e.2.1)) := by
  have h : lookD (nearD b.nn) (.inl e.1) = some (.lst (dI e.2.1)) := lk_nodup (f := fun x => .lst (dI x.1)) W.keys he
  unfold g_Bonds_near m_Bonds_near
  simp [ixO, h]
theorem Bonds_need_eq (W : WB b) {e : Int × List Int × Int} (he : e ∈ b.nn) : g_Bonds_need [encB b, .int e.1] = okd (.int e.2.2) := by
  have h : lookD (needD b.nn) (.inl e.1) = some (.int e.2.2) := lk_nodup (f := fun x => .int x.2) W.keys he
  unfold g_Bonds_need m_Bonds_need
  simp [ixO, h]
theorem is_broken_eq (d : D) (xs : List Int) (hx : xs.length ≤ 1000) (need : Int) (lk : Bool) (g : Gs) : g_Bonds_is_broken [d, .lst (dI xs), .int need, encG lk g] = okd (.bl (isBr xs need g)) := by
  unfold g_Bonds_is_broken m_Bonds_is_broken
  simp
  rw [cLc_ints xs (fun c => gl g c == some true) (by simp) (by omega) (fun a ha => by simp [lcStep, rk_asG, rk_isG]) (by simp)]
  simp
  rw [cLc_ints xs (fun c => gl g c == none) (by simp) (by omega) (fun a ha => by simp [lcStep, rk_ninG]) (by simp)]
  simp [dI_length, ← List.countP_eq_length_filter]
  simp [isBr, mi, un]
theorem broken_number_eq (W : WB b) (lk : Bool) (g : Gs) : g_Bonds_broken_number [encB b, encG lk g] = okd (match b.nn.find? (fun e => isBr e.2.1 e.2.2 g) with
    | some e => .int e.1
    | none => .non) := by
  unfold g_Bonds_broken_number m_Bonds_broken_number
  simp [Bonds_opened_eq W]
  have key := fun s => @forL_search (.nm 2) s
  have e0 : dI (b.nn.map (·.1)) = b.nn.map fun e => D.int e.1 := by unfold dI; rw [List.map_map]; rfl
  rw [e0, forL_search (fun e : Int × List Int × Int => D.int e.1) (fun e => isBr e.2.1 e.2.2 g) (fun e => .dat (.int e.1))
    (fun o => [.dat (encB b), .dat (encG lk g), match o with | none => .un | some e => .dat (.int e.1)]) (fun e => [.dat (encB b), .dat (encG lk g), .dat (.int e.1)]) b.nn (by rfl)
    (fun o e he => by
      simp [turn, Bonds_near_eq W he, Bonds_need_eq W he, is_broken_eq _ _ (W.near e he)])]
  cases b.nn.find? (fun e => isBr e.2.1 e.2.2 g) <;> simp
def brT (b : Bd) (g : Gs) : Bool := match b.total with
  | none => false
  | some t => isBr b.cells t g
theorem is_total_broken_eq (W : WB b) (lk : Bool) (g : Gs) : g_Bonds_is_total_broken [encB b, encG lk g] = okd (.bl (brT b g)) := by
  unfold g_Bonds_is_total_broken m_Bonds_is_total_broken brT
  cases q : b.total with
  | none => simp [q, encT]
  | some t => simp [q, encT, is_broken_eq _ _ (Nat.le_trans W.small (by decide))]
def brD (b : Bd) (g : Gs) : D := match b.nn.find? (fun e => isBr e.2.1 e.2.2 g) with
  | some e => .int e.1
  | none => if brT b g = true then k_TOTAL else .non
theorem brD_isN (b : Bd) (g : Gs) : (brD b g).isN = !broken b g := by
  unfold brD broken
  cases q : b.nn.find? (fun e => isBr e.2.1 e.2.2 g) with
  | some e =>
    have h1 := List.find?_some q
    have h2 := List.mem_of_find?_eq_some q
    have : (b.nn.any fun e => isBr e.2.1 e.2.2 g) = true := List.any_eq_true.mpr ⟨e, h2, h1⟩
    rw [this]; rfl
  | none =>
    have : (b.nn.any fun e => isBr e.2.1 e.2.2 g) = false := by
      rw [List.any_eq_false]
      exact List.find?_eq_none.mp q
    rw [this, Bool.false_or]
    show (if brT b g = true then k_TOTAL else .non).isN = !brT b g
    cases brT b g <;> rfl
theorem broken_eq (W : WB b) (lk : Bool) (g : Gs) : g_Bonds_broken [encB b, encG lk g] = okd (brD b g) := by
  unfold g_Bonds_broken m_Bonds_broken brD
  simp [broken_number_eq W]
  cases q : b.nn.find? (fun e => isBr e.2.1 e.2.2 g) with
  | some e => simp
  | none =>
    simp [is_total_broken_eq W]
def encL : Option (List Int) → D
  | none => .non
  | some u => .lst (dI u)
theorem less_lem (best : Option (List Int)) : (encL best).isN = best.isNone := by cases best <;> rfl
theorem next_cell_eq (W : WB b) (lk : Bool) (g : Gs) : g_Bonds_next_cell [encB b, encG lk g] = okd (match nextCell b g with
    | some c => .int c
    | none => .non) := by
  unfold g_Bonds_next_cell m_Bonds_next_cell
  simp [Bonds_opened_eq W]
  have e0 : dI (b.nn.map (·.1)) = b.nn.map fun e => D.int e.1 := by unfold dI; rw [List.map_map]; rfl
  have ef : ∀ (l : List (Int × List Int × Int)) (o : Option (List Int)), l.foldl (fun best e => if free g e.2.1 ≠ [] ∧ less (free g e.2.1) best = true then some (free g e.2.1) else best) o = bestOf g l o := by
    intro l
    induction l with
    | nil => intro o; rfl
    | cons a r ih => intro o; exact ih _
  rw [e0, forL_foldM (fun e : Int × List Int × Int => D.int e.1) (fun best o => [.dat (encB b), .dat (encG lk g), .dat (encL best), match o with | none => .un | some e => .dat (.int e.1), match o with | none => .un | some e => .dat (.lst (dI (free g e.2.1))), .un])
    (fun best e => if free g e.2.1 ≠ [] ∧ less (free g e.2.1) best = true then some (free g e.2.1) else best) b.nn none (by rfl)
    (fun best o e he => by
      simp [turn, Bonds_near_eq W he]
      rw [cLc_ints e.2.1 (fun c => gl g c == none) (by simp [Bonds_near_eq W he]) (by have := W.near e he; omega) (fun a ha => by simp [lcStep, rk_ninG]) (by simp)]
      show _ = _
      have ez : (e.2.1.filter fun c => gl g c == none) = free g e.2.1 := rfl
      rw [ez]
      simp [rk_neL0, less_lem]
      by_cases h : free g e.2.1 = []
      · simp [h]
      · cases best with
        | none => simp [h, less, encL]
        | some u =>
          simp [h, less, encL, dI_length]
          by_cases h2 : (free g e.2.1).length < u.length
          · simp [h2]
          · simp [h2])]
  rw [ef]
  unfold nextCell
  simp [less_lem]
  cases q : bestOf g b.nn none with
  | none => simp
  | some u =>
    simp [encL]
    cases u with
    | nil =>
      rcases bestOf_some g q with h | ⟨_, _, _, h⟩
      · cases h
      · exact absurd rfl h
    | cons c r => simp [dI]
end
end Wk

-- Mk3
namespace Wk
open PySem PySem.Spec PyProof.Rows L2 Dv Hm
section
variable {b : Bd}
theorem far_le (g : Gs) (xs : List Int) : (free g xs).length ≤ xs.length := by unfold free; exact List.length_filter_le _ _
theorem kvG_items (g : Gs) : itemsO (encG true g) = some (dI (g.map (·.1))) := by
  show some ((kvG g).map fun kv => kD kv.1) = _
  unfold kvG dI; rw [List.map_map, List.map_map]; rfl
theorem gl_mem {g : Gs} (nd : (g.map (·.1)).Nodup) {p : Int × Bool} (hp : p ∈ g) : gl g p.1 = some p.2 := by
  induction g with
  | nil => cases hp
  | cons q r ih =>
    obtain ⟨k, v⟩ := q
    obtain ⟨n1, n2⟩ := List.nodup_cons.mp (show (k :: r.map (·.1)).Nodup from nd)
    rw [gl_cons]
    rcases List.mem_cons.mp hp with rfl | hp
    · rw [if_pos rfl]
    · rw [if_neg (fun e => n1 (List.mem_map.mpr ⟨p, hp, e⟩))]
      exact ih n2 hp
theorem gl_key {g : Gs} (nd : (g.map (·.1)).Nodup) {c : Int} (h : c ∈ g.map (·.1)) : ∃ v, gl g c = some v := by
  obtain ⟨p, hp, rfl⟩ := List.mem_map.mp h
  exact ⟨p.2, gl_mem nd hp⟩
theorem mines_filter {g : Gs} (nd : (g.map (·.1)).Nodup) : ((g.map (·.1)).filter fun c => (gl g c).getD false).length = g.countP (·.2) := by
  have key : ∀ (h : Gs), (∀ p ∈ h, gl g p.1 = some p.2) → ((h.map (·.1)).filter fun c => (gl g c).getD false).length = h.countP (·.2) := by
    intro h
    induction h with
    | nil => intro _; rfl
    | cons p r ih =>
      intro hp
      have h0 := hp p List.mem_cons_self
      rw [List.map_cons, List.filter_cons, List.countP_cons, h0, ← ih fun q hq => hp q (List.mem_cons_of_mem _ hq)]
      cases p.2 <;> simp
  exact key g fun p hp => gl_mem nd hp
theorem g_len {g : Gs} (Gg : GoodG b g) (W : WB b) : g.length ≤ 64 := by
  have h : ∀ (xs ys : List Int), xs.Nodup → (∀ x ∈ xs, x ∈ ys) → xs.length ≤ ys.length := by
    intro xs
    induction xs with
    | nil => intro ys _ _; simp
    | cons x r ih =>
      intro ys nd hs
      obtain ⟨n1, n2⟩ := List.nodup_cons.mp nd
      have hx := hs x List.mem_cons_self
      have := ih (ys.erase x) n2 fun y hy => (List.mem_erase_of_ne (fun e => n1 (by rw [← e]; exact hy))).mpr (hs y (List.mem_cons_of_mem _ hy))
      rw [List.length_erase_of_mem hx] at this
      have := List.length_pos_of_mem hx
      simp; omega
  have := h (g.map (·.1)) b.cells Gg.nd fun x hx => by
    obtain ⟨p, hp, rfl⟩ := List.mem_map.mp hx
    exact Gg.sub p hp
  rw [List.length_map] at this
  exact Nat.le_trans this W.small
theorem encT_isN (t : Option Int) : (encT t).isN = t.isNone := by cases t <;> rfl
theorem far_choices_eq (W : WB b) {g : Gs} (Gg : GoodG b g) : g_far_choices [encB b, encG false g] = okd (.int (far b g : Nat)) := by
  have hg := g_len Gg W
  unfold g_far_choices m_far_choices
  simp
  rw [cLc_ints (b.cells.filter fun c => !decide (c ∈ b.rim)) (fun c => gl g c == none) (by simp [Bonds_far_eq W]) (Nat.le_trans (List.length_filter_le _ _) (by have := W.small; omega)) (fun a ha => by simp [lcStep, rk_ninG]) (by simp)]
  have hu : (free g (b.cells.filter fun c => !decide (c ∈ b.rim))).length ≤ 64 := Nat.le_trans (far_le _ _) (Nat.le_trans (List.length_filter_le _ _) W.small)
  have ez : ((b.cells.filter fun c => !decide (c ∈ b.rim)).filter fun c => gl g c == none) = free g (b.cells.filter fun c => !decide (c ∈ b.rim)) := rfl
  rw [ez]
  unfold far
  generalize (free g (b.cells.filter fun c => !decide (c ∈ b.rim))) = us at hu
  simp [Bonds_total_eq, encT_isN, dI_length]
  cases q : b.total with
  | none =>
    simp [rg_ok (show us.length ≤ 1000000000 by omega)]
    rw [forL_range (I := fun i => [.dat (encB b), .dat (encG false g), .dat (.int (us.length : Nat)), .dat (.int ((2 : Int) ^ i)), match i with | 0 => .un | i + 1 => .dat (.int (i : Nat)), .un, .un]) (by rfl) (fun i hi => by
      have := rk_mul 2 ((2 : Int) ^ i) (.inl (by decide))
      have e2 : (2 : Int) * (2 : Int) ^ i = (2 : Int) ^ (i + 1) := by rw [Int.pow_succ]; omega
      rw [e2] at this
      simp [turn, this])]
    simp
  | some t =>
    simp [encT, lkD, encG]
    have e1 := kvG_items g
    unfold encG at e1
    rw [cLc_ints (g.map (·.1)) (fun c => (gl g c).getD false) (by simp [e1]) (by rw [List.length_map]; omega) (fun a ha => by
      obtain ⟨v, hv⟩ := gl_key Gg.nd ha
      simp [lcStep, look_kvG, hv]) (by simp)]
    have := choices_eq (n := us.length) (k := t - (g.countP (·.2) : Nat)) (by omega)
    simp [dI_length, mines_filter Gg.nd, Bonds_total_eq, q, encT, this]
end
end Wk

-- Mk4
namespace Wk
open PySem PySem.Spec PyProof.Rows L2 Dv Hm
section
variable {b : Bd}
theorem hasD_kvG (g : Gs) (c : Int) : hasD (kvG g) (.inl c) = (gl g c).isSome := by
  induction g with
  | nil => rfl
  | cons p r ih =>
    obtain ⟨k, v⟩ := p
    rw [gl_cons]
    show (decide ((Sum.inl k : Key) = .inl c) || hasD (kvG r) (.inl c)) = _
    by_cases h : c = k
    · subst h; simp
    · have : ¬ (Sum.inl k : Key) = .inl c := fun e => by cases e; exact h rfl
      rw [if_neg h, ih]; simp [this]
theorem setG_none : ∀ {g : Gs} {c : Int} {v : Bool}, gl g c = none → setG g c v = g ++ [(c, v)]
  | [], c, v, _ => rfl
  | (k, w) :: r, c, v, h => by
    rw [gl_cons] at h
    by_cases e : c = k
    · rw [if_pos e] at h; cases h
    · rw [if_neg e] at h
      unfold setG
      rw [if_neg (fun z => e z.symm), setG_none h]; rfl
theorem setD_kvG {g : Gs} (nd : (g.map (·.1)).Nodup) (c : Int) (v : Bool) : setD (kvG g) (.inl c) (.bl v) = kvG (setG g c v) := by
  unfold setD
  rw [hasD_kvG]
  cases q : gl g c with
  | none =>
    rw [setG_none q]
    simp [kvG]
  | some w =>
    simp only [Option.isSome_some, if_true]
    induction g with
    | nil => cases q
    | cons p r ih =>
      obtain ⟨k, u⟩ := p
      obtain ⟨n1, n2⟩ := List.nodup_cons.mp (show (k :: r.map (·.1)).Nodup from nd)
      rw [gl_cons] at q
      unfold setG
      by_cases e : k = c
      · subst e
        rw [if_pos rfl]
        show (if (Sum.inl k : Key) = .inl k then ((Sum.inl k : Key), D.bl v) else _) :: (kvG r).map _ = (.inl k, .bl v) :: kvG r
        rw [if_pos rfl]
        congr 1
        have : ∀ x ∈ kvG r, (if x.1 = (.inl k : Key) then (x.1, D.bl v) else x) = x := fun x hx => by
          unfold kvG at hx
          obtain ⟨p, hp, rfl⟩ := List.mem_map.mp hx
          rw [if_neg]
          intro z
          have : p.1 = k := Sum.inl.inj z
          exact n1 (List.mem_map.mpr ⟨p, hp, this⟩)
        rw [List.map_congr_left this]; simp
      · rw [if_neg (fun z => e z.symm)] at q
        rw [if_neg e]
        have hk : ¬ (Sum.inl k : Key) = .inl c := fun z => e (Sum.inl.inj z)
        show (if (Sum.inl k : Key) = .inl c then ((Sum.inl k : Key), D.bl v) else (.inl k, .bl u)) :: (kvG r).map _ = (.inl k, .bl u) :: kvG (setG r c v)
        rw [if_neg hk, ih n2 q]
theorem kvG_len (g : Gs) : (kvG g).length = g.length := by unfold kvG; simp
theorem with_guess_eq (W : WB b) {g : Gs} (Gg : GoodG b g) (lk : Bool) (c : Int) (v : Bool) : g_with_guess [encG lk g, .int c, .bl v] = .ok (.od (kvG (setG g c v))) := by
  have hg := g_len Gg W
  unfold g_with_guess m_with_guess
  have e : dictO [encG lk g] = .ok (.od (kvG g)) := rfl
  have e2 := rk_putD c (.bl v) (kvG g) (by rw [kvG_len]; omega)
  rw [setD_kvG Gg.nd] at e2
  simp [e, e2]
theorem many_by_gn (W : WB b) : ∀ (n : Nat) (g : Gs) (x : Nat), GoodG b g → manyBy b n g = some x → gn_many_by n [encB b, encG false g] = okd (.int (x : Nat))
  | 0, g, x, _, h => by cases h
  | n + 1, g, x, Gg, h => by
    unfold manyBy at h
    unfold gn_many_by m_many_by
    simp [broken_eq W, brD_isN]
    cases hb : broken b g with
    | true =>
      rw [hb] at h
      simp at h
      subst h
      simp
    | false =>
      rw [hb] at h
      simp [next_cell_eq W]
      cases q : nextCell b g with
      | none =>
        rw [q] at h
        simp at h
        subst h
        simp [far_choices_eq W Gg]
      | some c =>
        rw [q] at h
        obtain ⟨hc, hm⟩ := next_some W.good q
        have w1 := with_guess_eq W Gg false c true
        have w2 := with_guess_eq W Gg false c false
        rw [setG_none hc] at w1 w2
        obtain ⟨y, hy, z, hz, e⟩ : ∃ y, manyBy b n (g ++ [(c, true)]) = some y ∧ ∃ z, manyBy b n (g ++ [(c, false)]) = some z ∧ y + z = x := by
          simp only [Bool.false_eq_true, if_false] at h
          cases h1 : manyBy b n (g ++ [(c, true)]) with
          | none => rw [h1] at h; cases h
          | some y =>
            cases h2 : manyBy b n (g ++ [(c, false)]) with
            | none => rw [h1, h2] at h; cases h
            | some z =>
              rw [h1, h2] at h
              exact ⟨y, rfl, z, rfl, by simpa using h⟩
        have i1 := many_by_gn W n _ y (Gg.snoc hc hm) hy
        have i2 := many_by_gn W n _ z (Gg.snoc hc hm) hz
        unfold encG at i1 i2
        simp [w1, w2, i1, i2]
        omega
theorem many_by_eq (W : WB b) {g : Gs} (Gg : GoodG b g) : g_many_by [encB b, encG false g] = okd (.int (N b g : Nat)) := by
  unfold g_many_by
  exact many_by_gn W _ g _ Gg (manyBy_N W.good _ g Gg (Nat.lt_of_le_of_lt (Nat.le_trans (un_le g b.cells) W.small) (by decide)))
theorem withC_fold : ∀ (cs : List Int) (g : Gs) (v : Bool), withC g cs v = cs.foldlM (fun g c => if (gl g c).getD v = v then some (setG g c v) else none) g
  | [], g, v => rfl
  | c :: cs, g, v => by
    rw [List.foldlM_cons]
    unfold withC
    by_cases h : (gl g c).getD v = v
    · rw [if_pos h, if_pos h, withC_fold cs]; rfl
    · rw [if_neg h, if_neg h]; rfl
def encO : Option Gs → SV
  | none => .dat .non
  | some g => .od (kvG g)
theorem with_cells_eq (W : WB b) {g : Gs} (Gg : GoodG b g) (lk : Bool) {cs : List Int} (hc : ∀ c ∈ cs, c ∈ b.cells) (v : Bool) : g_with_cells [encG lk g, .lst (dI cs), .bl v] = .ok (encO (withC g cs v)) := by
  have e : dictO [encG lk g] = .ok (.od (kvG g)) := rfl
  unfold g_with_cells m_with_cells
  have key := forL_foldO (pt := .nm 4) (body := (sSeq (sIf (tL (c2 oNe (lend 3 (cGet2 (cV 3) (cV 4) (cV 2))) (cV 2))) (sRet (cC .non)) sNil) (sPut (.s 3) (cV 4) (cV 2)))) D.int
    (fun (s : Gs) o => [.dat (encG lk g), .dat (.lst (dI cs)), .dat (.bl v), .od (kvG s), match o with | none => .un | some c => .dat (.int c)]) (fun g c => if (gl g c).getD v = v then some (setG g c v) else none) (GoodG b) (.dat .non) cs g none Gg
    (fun s o c hcs hs => by
      have hl := g_len hs W
      have e2 := rk_putD c (.bl v) (kvG s) (by rw [kvG_len]; omega)
      rw [setD_kvG hs.nd] at e2
      have e3 : (((gl s c).map D.bl).getD (.bl v)) = .bl ((gl s c).getD v) := by cases gl s c <;> rfl
      by_cases h : (gl s c).getD v = v
      · rw [if_pos h]
        refine ⟨hs.set (hc c hcs), ?_⟩
        simp [turn, look_kvG, e3, h, e2]
      · rw [if_neg h]
        have h2 : ((gl s c).getD v == v) = false := by simpa using h
        simp [turn, look_kvG, e3, h2])
  rw [← withC_fold] at key
  simp [e]
  cases q : withC g cs v with
  | none =>
    rw [q] at key
    obtain ⟨ε', e'⟩ := key
    refine Eq.trans (congrArg (fun z => fnR (Rs.bd z _)) e') ?_
    simp [encO]
  | some g' =>
    rw [q] at key
    obtain ⟨o', e'⟩ := key
    refine Eq.trans (congrArg (fun z => fnR (Rs.bd z _)) e') ?_
    simp [encO]
theorem many_with_none : g_many_with [encB b, .non] = okd (.int 0) := by
  unfold g_many_with m_many_with; simp
theorem many_with_some (W : WB b) {g : Gs} (Gg : GoodG b g) : g_many_with [encB b, .dct false (kvG g)] = okd (.int (N b g : Nat)) := by
  have := many_by_eq W Gg
  unfold encG at this
  unfold g_many_with m_many_with; simp [this]
theorem withC_good (W : WB b) {g g' : Gs} (Gg : GoodG b g) {cs : List Int} (hc : ∀ c ∈ cs, c ∈ b.cells) {v : Bool} (h : withC g cs v = some g') : GoodG b g' := by
  have := withC_N Gg (cs := cs) (v := v) hc
  rw [h] at this
  exact this.1
theorem manyBy_lt (W : WB b) {g : Gs} (Gg : GoodG b g) : manyBy b 70 g = some (N b g) := manyBy_N W.good _ g Gg (Nat.lt_of_le_of_lt (Nat.le_trans (un_le g b.cells) W.small) (by decide))
theorem encO_toD (o : Option Gs) : (encO o).toD = some (match o with | none => .non | some g => .dct false (kvG g)) := by cases o <;> simp [encO]
theorem two_with_eq (W : WB b) {g : Gs} (Gg : GoodG b g) {p q : List Int} (hp : ∀ c ∈ p, c ∈ b.cells) (hq : ∀ c ∈ q, c ∈ b.cells) {x : Nat}
    (h : (manyW b 70 ((withC g p true).bind fun h => withC h q false)) = some x) :
    (match withC g p true with
    | none => g_many_with [encB b, .non]
    | some g' => (match withC g' q false with
      | none => g_many_with [encB b, .non]
      | some g'' => g_many_with [encB b, .dct false (kvG g'')])) = okd (.int (x : Nat)) := by
  cases q1 : withC g p true with
  | none =>
    rw [q1] at h
    have : 0 = x := by simpa [manyW] using h
    subst this; simp [many_with_none]
  | some g' =>
    rw [q1] at h
    simp only [Option.bind_some] at h ⊢
    have G1 := withC_good W Gg hp q1
    cases q2 : withC g' q false with
    | none =>
      rw [q2] at h
      have : 0 = x := by simpa [manyW] using h
      subst this; simp [many_with_none]
    | some g'' =>
      rw [q2] at h
      have G2 := withC_good W G1 hq q2
      have h : manyBy b 70 g'' = some x := h
      rw [manyBy_lt W G2] at h
      cases h
      simp [many_with_some W G2]
theorem ends_at_eq (W : WB b) {g : Gs} (Gg : GoodG b g) {p : List Int} (hp : ∀ c ∈ p, c ∈ b.cells) {x : Nat} (h : endsAt b 70 g p = some x) : g_ends_at [encB b, encG false g, .lst (dI p)] = okd (.int (x : Nat)) := by
  have key := two_with_eq W Gg hp (q := b.cells.filter fun c => !decide (c ∈ p)) (fun c hc => (List.mem_filter.mp hc).1) h
  have c1 := with_cells_eq W Gg false hp true
  unfold g_ends_at m_ends_at
  simp
  rw [cLc_ints b.cells (fun c => !decide (c ∈ p)) (by simp [Bonds_cells_eq]) (by have := W.small; omega) (fun a ha => by simp [lcStep, rk_ninL]) (by simp)]
  simp [c1, encO_toD]
  cases q1 : withC g p true with
  | none =>
    rw [q1] at key
    simp at key
    simp [key]
  | some g' =>
    rw [q1] at key
    simp only at key
    have G1 := withC_good W Gg hp q1
    have c2 := with_cells_eq W G1 false (cs := b.cells.filter fun c => !decide (c ∈ p)) (fun c hc => (List.mem_filter.mp hc).1) false
    unfold encG at c2
    simp [c2, encO_toD]
    cases q2 : withC g' (b.cells.filter fun c => !decide (c ∈ p)) false with
    | none =>
      rw [q2] at key
      simp at key
      simp [key]
    | some g'' =>
      rw [q2] at key
      simp at key
      simp [key]
end
end Wk

-- Mk5
namespace Wk
open PySem PySem.Spec PyProof.Rows L2 Dv Hm
section
variable {b : Bd}
theorem dI_append (xs ys : List Int) : dI (xs ++ ys) = dI xs ++ dI ys := by unfold dI; simp
theorem addO_dI (xs ys : List Int) (h : xs.length + ys.length ≤ 16777216) : oAdd (.dat (.lst (dI xs))) (.ol (dI ys)) = .ok (.ol (dI (xs ++ ys))) := by
  show addO (.lst (dI xs)) (.lst (dI ys)) = _
  show (if lenOk ((dI xs).length + (dI ys).length) = true then _ else _) = _
  rw [if_pos (show lenOk ((dI xs).length + (dI ys).length) = true from Nat.ble_eq_true_of_le (by rw [dI_length, dI_length]; exact h)), dI_append]
theorem next_many_eq (W : WB b) {g : Gs} (Gg : GoodG b g) {p : List Int} (hp : ∀ c ∈ p, c ∈ b.cells) (hpl : p.length ≤ 100) {c : Int} (hc : c ∈ b.cells) {x : Nat} (h : nextMany b 70 g p c = some x) : g_next_many [encB b, encG false g, .lst (dI p), .int c] = okd (.int (x : Nat)) := by
  have hp1 : ∀ a ∈ p ++ [c], a ∈ b.cells := fun a ha => by
    rcases List.mem_append.mp ha with z | z
    · exact hp a z
    · have : a = c := by simpa using z
      rw [this]; exact hc
  have hq1 : ∀ a ∈ (b.cells.filter fun x => decide (x < c) && !decide (x ∈ p)), a ∈ b.cells := fun a ha => (List.mem_filter.mp ha).1
  have key := two_with_eq W Gg hp1 hq1 h
  have c1 := with_cells_eq W Gg false hp1 true
  have ea := addO_dI p [c] (by simp; omega)
  have ec : dI [c] = [.int c] := rfl
  rw [ec] at ea
  unfold g_next_many m_next_many
  simp
  rw [cLc_ints b.cells (fun x => decide (x < c) && !decide (x ∈ p)) (by simp [Bonds_cells_eq]) (by have := W.small; omega) (fun a ha => by
    by_cases z : a < c
    · simp [lcStep, rk_ninL, z]
    · simp [lcStep, rk_ninL, z]) (by simp)]
  simp [ea, c1, encO_toD]
  cases q1 : withC g (p ++ [c]) true with
  | none =>
    rw [q1] at key
    simp at key
    simp [key]
  | some g' =>
    rw [q1] at key
    simp only at key
    have G1 := withC_good W Gg hp1 q1
    have c2 := with_cells_eq W G1 false hq1 false
    unfold encG at c2
    simp [c2, encO_toD]
    cases q2 : withC g' (b.cells.filter fun x => decide (x < c) && !decide (x ∈ p)) false with
    | none =>
      rw [q2] at key
      simp at key
      simp [key]
    | some g'' =>
      rw [q2] at key
      simp at key
      simp [key]
theorem behind_of_eq (W : WB b) (p : List Int) : g_behind_of [encB b, .lst (dI p)] = .ok (.ol (dI (behind b p))) := by
  unfold g_behind_of m_behind_of
  simp
  rw [cLc_ints b.cells (fun c => match p.getLast? with | none => true | some l => decide (c > l)) (by simp [Bonds_cells_eq]) (by have := W.small; omega) (fun a ha => by
    cases q : p.getLast? with
    | none =>
      have : p = [] := List.getLast?_eq_none_iff.mp q
      subst this
      have := rk_eqL0 []
      simp [lcStep, this]
    | some l =>
      have : p ≠ [] := fun e => by rw [e] at q; cases q
      have e2 : atI (dI p) (-1) = some (.int l) := by rw [atI_lastD]; unfold dI; rw [List.getLast?_map, q]; rfl
      simp [lcStep, rk_eqL0, this, e2]) (by simp)]
  simp
  rfl
theorem goes_with_eq (W : WB b) {g : Gs} (Gg : GoodG b g) (lk : Bool) (L : List Int) : g_goes_with [.tup (dI L), encG lk g] = okd (.bl ((g.map (·.1)).all fun c => decide (c ∈ L) == (gl g c).getD false)) := by
  have hg := g_len Gg W
  have e1 := kvG_items g
  unfold encG at e1
  unfold g_goes_with m_goes_with encG
  simp [lkD]
  rw [cLc_bools (g.map (·.1)) .int (fun c => decide (c ∈ L) == (gl g c).getD false) (by simp [e1, dI]) (by rw [List.length_map]; omega) (fun a ha => by
    obtain ⟨v, hv⟩ := gl_key Gg.nd ha
    simp [lcStep, rk_inT, look_kvG, hv]) (by simp)]
  simp [-List.all_map]
/-! ### ranks -/
theorem behind_sub (p : List Int) : ∀ c ∈ behind b p, c ∈ b.cells := fun c hc => by unfold behind at hc; exact (List.mem_filter.mp hc).1
theorem rank_inner (W : WB b) {g : Gs} (Gg : GoodG b g) {p : List Int} (hp : ∀ c ∈ p, c ∈ b.cells) (hpl : p.length ≤ 100) (d : D) (m : Int) : ∀ (l : List Int) (s f : Nat) (o : SV), (∀ c ∈ l, c ∈ b.cells) → sumNext b 70 g p m l = some s →
    ∃ o', forL (.nm 6) (sIf (tL (c2 oLtA (cV 6) (cV 5))) (sAug 3 (l2 fun a b => (ofO (i2 (fun i j => .int (i + j)) a b)).bd okd) (lend 4 (cCall g_next_many (aC (cV 0) (aC (cV 1) (aC (cV 4) (aC (cV 6) aN)))) []))) sNil) (dI l)
      [.dat (encB b), .dat (encG false g), .dat d, .dat (.int (f : Nat)), .ol (dI p), .dat (.int m), o] = .ok .nx [.dat (encB b), .dat (encG false g), .dat d, .dat (.int ((f + s : Nat) : Int)), .ol (dI p), .dat (.int m), o']
  | [], s, f, o, _, h => by
    have : 0 = s := by simpa [sumNext] using h
    subst this
    exact ⟨o, rfl⟩
  | c :: r, s, f, o, hl, h => by
    have hr := fun x hx => hl x (List.mem_cons_of_mem _ hx)
    have hc := hl c List.mem_cons_self
    unfold sumNext at h
    have e0 : dI (c :: r) = .int c :: dI r := rfl
    rw [e0, forL_turn]
    by_cases z : c < m
    · rw [if_pos z] at h
      cases q1 : nextMany b 70 g p c with
      | none => rw [q1] at h; cases h
      | some x =>
        cases q2 : sumNext b 70 g p m r with
        | none => rw [q1, q2] at h; cases h
        | some y =>
          rw [q1, q2] at h
          have h : x + y = s := by simpa using h
          subst h
          have nm := next_many_eq W Gg hp hpl hc q1
          obtain ⟨o', e'⟩ := rank_inner W Gg hp hpl d m r y (f + x) (.dat (.int c)) hr q2
          have ea : f + (x + y) = f + x + y := by omega
          rw [ea]
          refine ⟨o', ?_⟩
          rw [← e']
          simp [turn, z, nm]
    · rw [if_neg z] at h
      obtain ⟨o', e'⟩ := rank_inner W Gg hp hpl d m r s f (.dat (.int c)) hr h
      refine ⟨o', ?_⟩
      rw [← e']
      simp [turn, z]
theorem rank_loop (W : WB b) {g : Gs} (Gg : GoodG b g) (d : D) : ∀ (L p : List Int) (x f : Nat) (o5 o6 : SV), (∀ c ∈ p, c ∈ b.cells) → (∀ c ∈ L, c ∈ b.cells) → p.length + L.length ≤ 64 → rankL b 70 g p L = some x →
    ∃ o5' o6', forL (.nm 5) (sSeq (sAug 3 (l2 fun a b => (ofO (i2 (fun i j => .int (i + j)) a b)).bd okd) (lend 4 (cCall g_ends_at (aC (cV 0) (aC (cV 1) (aC (cV 4) aN))) []))) (sSeq (sFor (iAny (lend 4 (cCall g_behind_of (aC (cV 0) (aC (cV 4) aN)) []))) (.nm 6) (sIf (tL (c2 oLtA (cV 6) (cV 5))) (sAug 3 (l2 fun a b => (ofO (i2 (fun i j => .int (i + j)) a b)).bd okd) (lend 4 (cCall g_next_many (aC (cV 0) (aC (cV 1) (aC (cV 4) (aC (cV 6) aN)))) []))) sNil)) (sExp (cApp (.s 4) (cV 5))))) (dI L)
      [.dat (encB b), .dat (encG false g), .dat d, .dat (.int (f : Nat)), .ol (dI p), o5, o6] = .ok .nx [.dat (encB b), .dat (encG false g), .dat d, .dat (.int ((f + x : Nat) : Int)), .ol (dI (p ++ L)), o5', o6']
  | [], p, x, f, o5, o6, _, _, _, h => by
    have : 0 = x := by simpa [rankL] using h
    subst this
    exact ⟨o5, o6, by simp [dI]⟩
  | m :: L, p, x, f, o5, o6, hp, hL, hl, h => by
    have hm := hL m List.mem_cons_self
    unfold rankL at h
    cases q1 : endsAt b 70 g p with
    | none => rw [q1] at h; cases h
    | some e =>
      cases q2 : sumNext b 70 g p m (behind b p) with
      | none => rw [q1, q2] at h; cases h
      | some s =>
        cases q3 : rankL b 70 g (p ++ [m]) L with
        | none => rw [q1, q2, q3] at h; cases h
        | some t =>
          rw [q1, q2, q3] at h
          have h : e + s + t = x := by simpa using h
          subst h
          have hp' : ∀ c ∈ p ++ [m], c ∈ b.cells := fun a ha => by
            rcases List.mem_append.mp ha with z | z
            · exact hp a z
            · have : a = m := by simpa using z
              rw [this]; exact hm
          have hlen : p.length ≤ 100 := by simp at hl; omega
          have n1 := ends_at_eq W Gg hp q1
          have n2 := behind_of_eq W p
          obtain ⟨o6', i2⟩ := rank_inner W Gg hp hlen d m (behind b p) s (f + e) o6 (behind_sub p) q2
          obtain ⟨o5', o6'', ih⟩ := rank_loop W Gg d L (p ++ [m]) t (f + e + s) (.dat (.int m)) o6' hp' (fun c hc => hL c (List.mem_cons_of_mem _ hc)) (by simp at hl ⊢; omega) q3
          have e0 : dI (m :: L) = .int m :: dI L := rfl
          refine ⟨o5', o6'', ?_⟩
          have ea : p ++ m :: L = (p ++ [m]) ++ L := by simp
          have eb : f + (e + s + t) = f + e + s + t := by omega
          rw [ea, eb, ← ih, e0, forL_turn]
          have ap := rk_app (.int m) (dI p) (by rw [dI_length]; omega)
          have ed : dI p ++ [D.int m] = dI (p ++ [m]) := by rw [dI_append]; rfl
          rw [ed] at ap
          have i2' := i2
          simp only [Int.natCast_add] at i2'
          simp [turn, n1, n2, flats_dI, i2', ap]
theorem rank_by_eq (W : WB b) {g : Gs} (Gg : GoodG b g) {L : List Int} (hL : L.Sublist b.cells) : g_rank_by [encB b, encG false g, .tup (dI L)] = okd (.int (rkF (ok b g) [] b.cells L : Nat)) := by
  have hr := rankL_eq W.good W.asc Gg (n := 70) (by have := W.small; omega) (L := L) (q := []) (p := []) (r := b.cells) ⟨rfl, List.Sublist.refl _, .inl ⟨rfl, rfl⟩⟩ hL
  obtain ⟨o5, o6, e⟩ := rank_loop W Gg (.tup (dI L)) L [] _ 0 .un .un (fun c hc => by cases hc) (fun c hc => hL.subset hc) (by have := hL.length_le; have := W.small; simp; omega) hr
  unfold g_rank_by m_rank_by
  have e0 : dI [] = [] := rfl
  rw [e0] at e
  simp at e
  simp [e]
/-! ### the laying with a rank -/
theorem pick_loop (W : WB b) {g : Gs} (Gg : GoodG b g) {p : List Int} (hp : ∀ c ∈ p, c ∈ b.cells) (hpl : p.length ≤ 100) (d : D) (o5 : SV) : ∀ (l : List Int) (k : Nat) (oc : Option Int) (k' : Nat) (o6 o7 : SV), (∀ c ∈ l, c ∈ b.cells) → pick b 70 g p l k = some (oc, k') →
    ∃ o6' o7', forL (.nm 6) (sSeq (sSet 7 (lend 3 (cCall g_next_many (aC (cV 0) (aC (cV 1) (aC (cV 3) (aC (cV 6) aN)))) []))) (sSeq (sIf (tL (c2 oLtA (cV 4) (cV 7))) (sSeq (sExp (cApp (.s 3) (cV 6))) (pr .bk)) sNil) (sAug 4 oSub (cV 7)))) (dI l)
      [.dat (encB b), .dat (encG false g), .dat d, .ol (dI p), .dat (.int (k : Nat)), o5, o6, o7] = .ok .nx [.dat (encB b), .dat (encG false g), .dat d, .ol (dI (match oc with | none => p | some c => p ++ [c])), .dat (.int (k' : Nat)), o5, o6', o7']
  | [], k, oc, k', o6, o7, _, h => by
    have : (none, k) = (oc, k') := by simpa [pick] using h
    cases this
    exact ⟨o6, o7, rfl⟩
  | c :: r, k, oc, k', o6, o7, hl, h => by
    have hr := fun x hx => hl x (List.mem_cons_of_mem _ hx)
    have hc := hl c List.mem_cons_self
    have e0 : dI (c :: r) = .int c :: dI r := rfl
    unfold pick at h
    cases q1 : nextMany b 70 g p c with
    | none => rw [q1] at h; cases h
    | some x =>
      rw [q1] at h
      simp only [Option.bind_some] at h
      have nm := next_many_eq W Gg hp hpl hc q1
      rw [e0, forL_turn]
      by_cases z : k < x
      · rw [if_pos z] at h
        cases h
        have ap := rk_app (.int c) (dI p) (by rw [dI_length]; omega)
        have ed : dI p ++ [D.int c] = dI (p ++ [c]) := by rw [dI_append]; rfl
        rw [ed] at ap
        refine ⟨.dat (.int c), .dat (.int (x : Nat)), ?_⟩
        simp [turn, nm, z, ap]
      · rw [if_neg z] at h
        obtain ⟨o6', o7', e'⟩ := pick_loop W Gg hp hpl d o5 r (k - x) oc k' (.dat (.int c)) (.dat (.int (x : Nat))) hr h
        refine ⟨o6', o7', ?_⟩
        rw [← e']
        have ez : (k : Int) - (x : Int) = ((k - x : Nat) : Int) := by omega
        simp [turn, nm, z, ez]
theorem lay_loop (W : WB b) {g : Gs} (Gg : GoodG b g) (d : D) : ∀ (t : Nat) (p : List Int) (k : Nat) (L : List Int) (o5 o6 o7 : SV), (∀ c ∈ p, c ∈ b.cells) → p.length + t ≤ 66 → layL b 70 g t p k = some L →
    ∃ ε, whL (tB (cC (.bl true))) (sSeq (sSet 5 (lend 3 (cCall g_ends_at (aC (cV 0) (aC (cV 1) (aC (cV 3) aN))) []))) (sSeq (sIf (tL (c2 oLtA (cV 4) (cV 5))) (sRet (cA tupleO (aC (cVF 3) aN))) sNil) (sSeq (sAug 4 oSub (cV 5)) (sFor (iAny (lend 3 (cCall g_behind_of (aC (cV 0) (aC (cV 3) aN)) []))) (.nm 6) (sSeq (sSet 7 (lend 3 (cCall g_next_many (aC (cV 0) (aC (cV 1) (aC (cV 3) (aC (cV 6) aN)))) []))) (sSeq (sIf (tL (c2 oLtA (cV 4) (cV 7))) (sSeq (sExp (cApp (.s 3) (cV 6))) (pr .bk)) sNil) (sAug 4 oSub (cV 7)))))))) t
      [.dat (encB b), .dat (encG false g), .dat d, .ol (dI p), .dat (.int (k : Nat)), o5, o6, o7] = .ok (.rt (.dat (.tup (dI L)))) ε
  | 0, p, k, L, o5, o6, o7, _, _, h => by cases h
  | t + 1, p, k, L, o5, o6, o7, hp, hl, h => by
    unfold layL at h
    cases q1 : endsAt b 70 g p with
    | none => rw [q1] at h; cases h
    | some e =>
      rw [q1] at h
      simp only [Option.bind_some] at h
      have n1 := ends_at_eq W Gg hp q1
      have n2 := behind_of_eq W p
      by_cases z : k < e
      · rw [if_pos z] at h
        cases h
        refine ⟨[.dat (encB b), .dat (encG false g), .dat d, .dat (.lst (dI p)), .dat (.int (k : Nat)), .dat (.int (e : Nat)), o6, o7], ?_⟩
        unfold whL
        simp [n1, z]
      · rw [if_neg z] at h
        cases q2 : pick b 70 g p (behind b p) (k - e) with
        | none => rw [q2] at h; cases h
        | some y =>
          obtain ⟨oc, k'⟩ := y
          rw [q2] at h
          simp only [Option.bind_some] at h
          obtain ⟨o6', o7', e'⟩ := pick_loop W Gg hp (by omega) d (.dat (.int (e : Nat))) (behind b p) (k - e) oc k' o6 o7 (behind_sub p) q2
          have hoc : ∀ c, oc = some c → c ∈ b.cells := by
            have : ∀ (l : List Int) (k : Nat), pick b 70 g p l k = some (oc, k') → ∀ c, oc = some c → c ∈ l := by
              intro l
              induction l with
              | nil =>
                intro k h c hc
                have : (none, k) = (oc, k') := by simpa [pick] using h
                cases this; cases hc
              | cons a r ih =>
                intro k h c hc
                unfold pick at h
                cases q : nextMany b 70 g p a with
                | none => rw [q] at h; cases h
                | some x =>
                  rw [q] at h
                  simp only [Option.bind_some] at h
                  by_cases z : k < x
                  · rw [if_pos z] at h
                    cases h; cases hc; exact List.mem_cons_self
                  · rw [if_neg z] at h
                    exact List.mem_cons_of_mem _ (ih _ h c hc)
            intro c hc
            exact behind_sub p c (this _ _ q2 c hc)
          have ez : (k : Int) - (e : Int) = ((k - e : Nat) : Int) := by omega
          have ih : ∃ ε, whL (tB (cC (.bl true))) (sSeq (sSet 5 (lend 3 (cCall g_ends_at (aC (cV 0) (aC (cV 1) (aC (cV 3) aN))) []))) (sSeq (sIf (tL (c2 oLtA (cV 4) (cV 5))) (sRet (cA tupleO (aC (cVF 3) aN))) sNil) (sSeq (sAug 4 oSub (cV 5)) (sFor (iAny (lend 3 (cCall g_behind_of (aC (cV 0) (aC (cV 3) aN)) []))) (.nm 6) (sSeq (sSet 7 (lend 3 (cCall g_next_many (aC (cV 0) (aC (cV 1) (aC (cV 3) (aC (cV 6) aN)))) []))) (sSeq (sIf (tL (c2 oLtA (cV 4) (cV 7))) (sSeq (sExp (cApp (.s 3) (cV 6))) (pr .bk)) sNil) (sAug 4 oSub (cV 7)))))))) t
              [.dat (encB b), .dat (encG false g), .dat d, .ol (dI (match oc with | none => p | some c => p ++ [c])), .dat (.int (k' : Nat)), .dat (.int (e : Nat)), o6', o7'] = .ok (.rt (.dat (.tup (dI L)))) ε := by
            cases oc with
            | none => exact lay_loop W Gg d t p k' L _ _ _ hp (by omega) h
            | some c =>
              refine lay_loop W Gg d t (p ++ [c]) k' L _ _ _ (fun a ha => ?_) (by simp; omega) h
              rcases List.mem_append.mp ha with z | z
              · exact hp a z
              · have : a = c := by simpa using z
                rw [this]; exact hoc c rfl
          obtain ⟨ε, ih⟩ := ih
          refine ⟨ε, ?_⟩
          rw [← ih]
          rw [whL]
          simp [n1, n2, z, ez, flats_dI, e']
theorem laying_by_eq (W : WB b) {g : Gs} (Gg : GoodG b g) {k : Nat} {L : List Int} (h : lbF (ok b g) [] b.cells k = some L) : g_laying_by [encB b, encG false g, .int (k : Nat)] = okd (.tup (dI L)) := by
  have hl := layL_eq W.good W.asc Gg (n := 70) (by have := W.small; omega) 66 (q := []) (p := []) (r := b.cells) k (L := L) ⟨rfl, List.Sublist.refl _, .inl ⟨rfl, rfl⟩⟩ (by have := W.small; omega) h
  obtain ⟨ε, e⟩ := lay_loop W Gg (.int (k : Nat)) 66 [] k L .un .un .un (fun c hc => by cases hc) (by simp) hl
  have e0 : dI [] = [] := rfl
  rw [e0] at e
  have := sWh_eq 66 e (by simp)
  unfold g_laying_by m_laying_by
  simp [this]
end
end Wk

-- Mk6
namespace Wk
open PySem PySem.Spec PyProof.Rows L2 Dv Hm
section
variable {b : Bd}
/-! ### the halving cell -/
def apartI (b : Bd) (g : Gs) (c : Int) : Int := let x : Int := (N b (setG g c true) : Nat) - (N b (setG g c false) : Nat); if x < 0 then -x else x
structure HS where
  best : Option (Int × Int)
  s4 : SV
  s5 : SV
def bestD : Option (Int × Int) → D
  | none => .non
  | some x => .tup [.int x.1, .int x.2]
def hStep (b : Bd) (g : Gs) (s : HS) (c : Int) : HS := if gl g c = none then
    ⟨(match s.best with
      | none => some (apartI b g c, c)
      | some x => if apartI b g c < x.1 then some (apartI b g c, c) else some x), .dat (.int (N b (setG g c true) : Nat)), .dat (.int (apartI b g c))⟩ else s
def halv (b : Bd) (g : Gs) : Option (Int × Int) := (b.cells.foldl (hStep b g) ⟨none, .un, .un⟩).best
end
end Wk

-- Mk7
namespace Wk
open PySem PySem.Spec PyProof.Rows L2 Dv Hm
/-! ### kinds -/
@[simp] theorem isi_is (x : Str) : isiO "str" (.str x) = okd (.bl true) := rfl
@[simp] theorem isi_ii (i : Int) : isiO "int" (.int i) = okd (.bl true) := rfl
@[simp] theorem isi_bi (i : Int) : isiO "bool" (.int i) = okd (.bl false) := rfl
@[simp] theorem isi_bb (i : Bool) : isiO "bool" (.bl i) = okd (.bl true) := rfl
@[simp] theorem isi_tt (x : List D) : isiO "tuple" (.tup x) = okd (.bl true) := rfl
@[simp] theorem isi_dd (l : Bool) (x : List (Key × D)) : isiO "dict" (.dct l x) = okd (.bl true) := rfl
@[simp] theorem rk_eqS (x y : Str) : oEq (.dat (.str x)) (.dat (.str y)) = okd (.bl (x == y)) := rfl
@[simp] theorem rk_neS (x y : Str) : oNe (.dat (.str x)) (.dat (.str y)) = okd (.bl (!(x == y))) := rfl
theorem is_integer_eq (i : Int) : g_is_integer [.int i] = okd (.bl true) := by unfold g_is_integer m_is_integer; simp
theorem is_count_eq (i : Int) : g_is_count [.int i] = okd (.bl (decide (0 ≤ i))) := by unfold g_is_count m_is_count; simp [is_integer_eq]
theorem is_below_eq (i j : Int) : g_is_below [.int i, .int j] = okd (.bl (decide (0 ≤ i) && decide (i < j))) := by
  unfold g_is_below m_is_below
  by_cases h : 0 ≤ i
  · simp [is_count_eq, h]
  · simp [is_count_eq, h]
theorem is_row_eq (xs : List D) (j : Int) : g_is_row [.tup xs, .int j] = okd (.bl (decide ((xs.length : Int) = j))) := by unfold g_is_row m_is_row; simp
theorem is_size_eq (i j : Int) : g_is_size [.int i, .int j] = okd (.bl (decide (1 ≤ i) && decide (i ≤ j))) := by
  unfold g_is_size m_is_size
  by_cases h : 1 ≤ i
  · simp [is_integer_eq, h]
  · simp [is_integer_eq, h]
theorem is_total_eq (t : Option Int) : g_is_total [encT t] = okd (.bl (match t with | none => true | some t => decide (0 ≤ t))) := by
  unfold g_is_total m_is_total
  cases t with
  | none => simp [encT]
  | some t => simp [encT, is_count_eq]
/-! ### boards -/
inductive Brd where
  | grid (sq : Bool) (r c : Nat)
  | web (n : Nat) (ties : List (Int × Int))
def Brd.isWeb : Brd → Bool
  | .grid .. => false
  | .web .. => true
def Brd.isSq : Brd → Bool
  | .grid sq _ _ => sq
  | .web .. => false
def Brd.name : Brd → Str
  | .grid true _ _ => "squares"
  | .grid false _ _ => "hexes"
  | .web .. => "web"
def Brd.size : Brd → Nat
  | .grid _ r c => r * c
  | .web n _ => n
def p2D (t : Int × Int) : D := .tup [.int t.1, .int t.2]
def tiesD (ts : List (Int × Int)) : D := .tup (ts.map p2D)
def Brd.fst : Brd → Nat
  | .grid _ r _ => r
  | .web n _ => n
def Brd.snd : Brd → D
  | .grid _ _ c => .int (c : Nat)
  | .web _ ts => tiesD ts
def encBrd (B : Brd) : D := .tup [.str B.name, .int (B.fst : Nat), B.snd]
@[simp] theorem ix_b0 (B : Brd) : ixO (encBrd B) (.int 0) = okd (.str B.name) := by unfold encBrd; simp
@[simp] theorem ix_b1 (B : Brd) : ixO (encBrd B) (.int 1) = okd (.int (B.fst : Nat)) := by unfold encBrd; simp
@[simp] theorem ix_b2 (B : Brd) : ixO (encBrd B) (.int 2) = okd B.snd := by unfold encBrd; simp
@[simp] theorem eq_web (B : Brd) : oEq (.dat (.str B.name)) (.dat k_WEB) = okd (.bl B.isWeb) := by
  rcases B with ⟨_ | _, r, c⟩ | ⟨n, ts⟩ <;> rfl
@[simp] theorem eq_sq (B : Brd) : oEq (.dat (.str B.name)) (.dat k_SQUARES) = okd (.bl B.isSq) := by
  rcases B with ⟨_ | _, r, c⟩ | ⟨n, ts⟩ <;> rfl
@[simp] theorem in_sh (B : Brd) : oIn (.dat (.str B.name)) (.dat (.tup [k_SQUARES, k_HEXES])) = okd (.bl (!B.isWeb)) := by
  rcases B with ⟨_ | _, r, c⟩ | ⟨n, ts⟩ <;> rfl
theorem size_of_eq (B : Brd) (h : B.fst < 2 ^ 64) : g_size_of [encBrd B] = okd (.int (B.size : Nat)) := by
  unfold g_size_of m_size_of
  rcases B with ⟨sq, r, c⟩ | ⟨n, ts⟩
  · have h : r < 2 ^ 64 := h
    have := rk_mul (r : Nat) (c : Nat) (.inl (by simpa using h))
    simp [Brd.isWeb, Brd.size, Brd.snd, Brd.fst, this]
  · simp [Brd.isWeb, Brd.size, Brd.snd, Brd.fst]
def lt2 (x y : Int × Int) : Bool := decide (x.1 < y.1 ∨ (x.1 = y.1 ∧ x.2 < y.2))
structure TieOk (n : Nat) (ts : List (Int × Int)) : Prop where
  few : ts.length ≤ 120
  rng : ∀ t ∈ ts, 0 ≤ t.1 ∧ t.1 < t.2 ∧ t.2 < n
  asc : ∀ p ∈ ts.zip ts.tail, lt2 p.1 p.2 = true
  deg : ∀ i, i < n → (ts.map (·.1) ++ ts.map (·.2)).count (i : Int) ≤ 9
theorem is_rising2 {ts : List (Int × Int)} (h : ts.length ≤ 16777216) : g_is_rising [tiesD ts] = okd (.bl ((ts.zip ts.tail).all fun p => lt2 p.1 p.2)) := by
  unfold g_is_rising m_is_rising tiesD
  simp
  rw [cLc_bools (ts.zip ts.tail) (fun p => .tup [p2D p.1, p2D p.2]) (fun p => lt2 p.1 p.2) (by
      simp only [cut_tail, rk_iZi, rk_cV, rk_cSl, rk_oS, rk_oN]
      simp [cut_tail, rk_zipT]
      unfold ziD
      rw [← List.map_tail, List.zip_map, List.map_map]; rfl) (by simp; omega) (fun p hp => by
    simp [lcStep, p2D, rk_ltA2, lt2]) (by simp)]
  simp [-List.all_map]
theorem is_rising1 {ts : List Int} (h : ts.length ≤ 16777216) : g_is_rising [.tup (dI ts)] = okd (.bl ((ts.zip ts.tail).all fun p => decide (p.1 < p.2))) := by
  unfold g_is_rising m_is_rising
  simp
  rw [cLc_bools (ts.zip ts.tail) (fun p => .tup [.int p.1, .int p.2]) (fun p => decide (p.1 < p.2)) (by
      simp [cut_tail, rk_zipT]
      unfold ziD dI
      rw [← List.map_tail, List.zip_map, List.map_map]; rfl) (by simp; omega) (fun p hp => by
    simp [lcStep]) (by simp)]
  simp [-List.all_map]
theorem are_ties_eq {n : Nat} {ts : List (Int × Int)} (hn : n ≤ 64) (T : TieOk n ts) : g_are_ties [.int (n : Nat), tiesD ts] = okd (.bl true) := by
  have h1 : ¬ ((120 : Int) < (ts.length : Nat)) := by have := T.few; omega
  have hl : ts.length ≤ 16777216 := by have := T.few; omega
  have e1 : itemsO (tiesD ts) = some (ts.map p2D) := rfl
  have e2 : lenO [tiesD ts] = okd (.int (ts.length : Nat)) := by unfold tiesD; simp
  have e3 : isiO "tuple" (tiesD ts) = okd (.bl true) := rfl
  have r3 : ((ts.zip ts.tail).all fun p => lt2 p.1 p.2) = true := by
    rw [List.all_eq_true]; exact T.asc
  have ra : ∀ {α : Type} (l : List α), (l.all fun _ => true) = true := fun l => by rw [List.all_eq_true]; intro _ _; rfl
  have ez1 : ts.map (fun t => D.int t.1) = dI (ts.map (·.1)) := by unfold dI; rw [List.map_map]; rfl
  have ez2 : ts.map (fun t => D.int t.2) = dI (ts.map (·.2)) := by unfold dI; rw [List.map_map]; rfl
  unfold g_are_ties m_are_ties
  simp [e3, e2, k_MOST_TIES, h1]
  rw [cLc_bools ts p2D (fun t => true) (by simp [e1]) hl (fun t ht => by
    have q1 := is_row_eq [.int t.1, .int t.2] 2
    obtain ⟨a, b, c⟩ := T.rng t ht
    have a2 : t.1 < n := by omega
    have a3 : 0 ≤ t.2 := by omega
    simp [lcStep, p2D, q1, is_below_eq, a, a2, a3, c]) (by simp)]
  simp [ra, -List.all_map]
  rw [cLc_bools ts p2D (fun t => true) (by simp [e1]) hl (fun t ht => by
    have := (T.rng t ht).2.1
    simp [lcStep, p2D, this]) (by simp)]
  simp [ra, -List.all_map, is_rising2 hl, r3]
  rw [cLc_all ts p2D (fun t => .int t.1) (by simp [e1]) hl (fun t ht => by simp [lcStep, p2D]) (by simp)]
  simp
  rw [cLc_all ts p2D (fun t => .int t.2) (by simp [e1]) hl (fun t ht => by simp [lcStep, p2D]) (by simp)]
  rw [ez1, ez2]
  have ad : oAdd (.ol (dI (ts.map (·.1)))) (.ol (dI (ts.map (·.2)))) = .ok (.ol (dI (ts.map (·.1) ++ ts.map (·.2)))) := by
    have := addO_dI (ts.map (·.1)) (ts.map (·.2)) (by simp; have := T.few; omega)
    rw [← this]; unfold oAdd; simp
  simp [ad]
  rw [cLc_bools (List.range n) (fun i => .int (i : Nat)) (fun t => true) (by simp [rg_ok (show n ≤ 1000000000 by omega)]) (by simp; omega) (fun i hi => by
    have h9 := T.deg i (List.mem_range.mp hi)
    have e9 : countO (.lst (dI (ts.map (·.1) ++ ts.map (·.2)))) [.int (i : Nat)] = okd (.int ((ts.map (·.1) ++ ts.map (·.2)).count (i : Int) : Nat)) := by
      show (ofO ((some (dI (ts.map (·.1) ++ ts.map (·.2)))).bind ints?)).bd _ = _
      rw [Option.bind_some, ints_dI]; rfl
    have t9 : D.tyOk "list" (.lst (dI (ts.map (·.1) ++ ts.map (·.2)))) = true := rfl
    have h9' : (((ts.map (·.1) ++ ts.map (·.2)).count (i : Int) : Nat) : Int) ≤ 9 := by omega
    simp only [lcStep, rk_bd]
    simp [e9, t9, k_MOST_DEGREE, -List.count_append, h9', h9]) (by simp)]
  simp [ra]
end Wk

-- Mk8
namespace Wk
open PySem PySem.Spec PyProof.Rows L2 Dv Hm
inductive BrdOk : Brd → Prop
  | grid (sq : Bool) (r c : Nat) : 1 ≤ r → r ≤ 8 → 1 ≤ c → c ≤ 8 → BrdOk (.grid sq r c)
  | web (n : Nat) (ts : List (Int × Int)) : 1 ≤ n → n ≤ 40 → TieOk n ts → BrdOk (.web n ts)
theorem BrdOk.size_le {B : Brd} (h : BrdOk B) : B.size ≤ 64 := by
  cases h with
  | grid sq r c h1 h2 h3 h4 => exact Nat.mul_le_mul h2 h4
  | web n ts h1 h2 h3 => exact Nat.le_trans h2 (by decide)
theorem BrdOk.fst_le {B : Brd} (h : BrdOk B) : B.fst < 2 ^ 64 := by
  cases h with
  | grid sq r c h1 h2 h3 h4 => exact Nat.lt_of_le_of_lt h2 (by decide)
  | web n ts h1 h2 h3 => exact Nat.lt_of_le_of_lt h2 (by decide)
theorem is_board_of_eq {B : Brd} (h : BrdOk B) : g_is_board_of [encBrd B] = okd (.bl true) := by
  have e1 : g_is_row [encBrd B, .int 3] = okd (.bl true) := is_row_eq _ 3
  unfold g_is_board_of m_is_board_of
  cases h with
  | grid sq r c h1 h2 h3 h4 =>
    have a1 : (1 : Int) ≤ (r : Nat) := by omega
    have a2 : ((r : Nat) : Int) ≤ 8 := by omega
    have a3 : (1 : Int) ≤ (c : Nat) := by omega
    have a4 : ((c : Nat) : Int) ≤ 8 := by omega
    simp [e1, Brd.isWeb, Brd.snd, Brd.fst, k_MOST_SIZE, is_size_eq, h1, h3, a2, a4]
    omega
  | web n ts h1 h2 T =>
    have a2 : ((n : Nat) : Int) ≤ 40 := by omega
    simp [e1, Brd.isWeb, Brd.snd, Brd.fst, k_MOST_CELLS, is_size_eq, h1, a2, are_ties_eq (show n ≤ 64 by omega) T]
    omega
/-! ### neighbours -/
def sqSteps : List (Int × Int) := [(-1, -1), (-1, 0), (-1, 1), (0, -1), (0, 1), (1, -1), (1, 0), (1, 1)]
def hxSteps : List (Int × Int) := [(-1, 0), (-1, 1), (0, -1), (0, 1), (1, -1), (1, 0)]
def stepsOf (sq : Bool) : List (Int × Int) := if sq = true then sqSteps else hxSteps
def stIn (r c : Nat) (i : Int) (s : Int × Int) : Bool := (decide (0 ≤ i / (c : Int) + s.1) && decide (i / (c : Int) + s.1 < (r : Int))) && (decide (0 ≤ i % (c : Int) + s.2) && decide (i % (c : Int) + s.2 < (c : Int)))
def stTo (c : Nat) (i : Int) (s : Int × Int) : Int := (i / (c : Int) + s.1) * (c : Int) + i % (c : Int) + s.2
def bes : Brd → Int → List Int
  | .grid sq r c, i => srtI (((stepsOf sq).filter (stIn r c i)).map (stTo c i))
  | .web n ts, i => srtI (((ts.filter fun t => decide (t.1 = i)).map (·.2)) ++ ((ts.filter fun t => decide (t.2 = i)).map (·.1)))
theorem place_of_grid {sq : Bool} {r c : Nat} (hc : 1 ≤ c) (hc2 : c ≤ 8) (i : Int) : g_place_of [encBrd (.grid sq r c), .int i] = okd (.tup [.int (i / (c : Int)), .int (i % (c : Int))]) := by
  have e1 := fun k => rk_fdiv k (c : Int) (by omega) (by omega)
  have e2 := fun k => rk_mod k (c : Int) (by omega)
  unfold g_place_of m_place_of
  simp [Brd.isWeb, Brd.snd, e1, e2]
theorem steps_sq : k_SQUARE_STEPS = .tup (sqSteps.map p2D) := rfl
theorem steps_hx : k_HEX_STEPS = .tup (hxSteps.map p2D) := rfl
theorem beside_of_eq {B : Brd} (h : BrdOk B) (i : Int) : g_beside_of [encBrd B, .int i] = .ok (.ol (dI (bes B i))) := by
  unfold g_beside_of m_beside_of
  cases h with
  | grid sq r c h1 h2 h3 h4 =>
    have hst : itemsO (.tup ((stepsOf sq).map p2D)) = some ((stepsOf sq).map p2D) := rfl
    have hc : (bif sq then SV.dat k_SQUARE_STEPS else SV.dat k_HEX_STEPS) = .dat (.tup ((stepsOf sq).map p2D)) := by
      cases sq <;> rfl
    have hc' : (bif sq then k_SQUARE_STEPS else k_HEX_STEPS) = .tup ((stepsOf sq).map p2D) := by
      cases sq <;> rfl
    have hl : (stepsOf sq).length ≤ 8 := by cases sq <;> decide
    simp [Brd.isWeb, Brd.isSq, place_of_grid h3 h4, hc']
    rw [forL_foldP p2D (fun (acc : List Int) o => [.dat (encBrd (.grid sq r c)), .dat (.int i), .un, .dat (.int (i / (c : Int))), .dat (.int (i % (c : Int))), .ol (dI acc), (match o with | none => .un | some s => .dat (.int s.1)), (match o with | none => .un | some s => .dat (.int s.2)), .un, .un])
      (fun acc s => if stIn r c i s = true then acc ++ [stTo c i s] else acc) (fun rest acc => acc.length + rest.length ≤ 8) (stepsOf sq) [] (by rfl) (by simpa using hl) (fun s rest acc o hP => by
        have hlen : (dI acc).length < 16777216 := by rw [dI_length]; simp at hP; omega
        have m1 := fun k => rk_mul k (c : Int) (.inr (by omega))
        have ap := fun x => rk_app (.int x) (dI acc) hlen
        have ed : ∀ x, dI acc ++ [D.int x] = dI (acc ++ [x]) := fun x => by rw [dI_append]; rfl
        constructor
        · by_cases q1 : 0 ≤ i / (c : Int) + s.1
          · by_cases q2 : i / (c : Int) + s.1 < (r : Int)
            · by_cases q3 : 0 ≤ i % (c : Int) + s.2
              · by_cases q4 : i % (c : Int) + s.2 < (c : Int)
                · simp [turn, p2D, Brd.fst, Brd.snd, q1, q2, q3, q4, m1, ap, ed, stIn, stTo]
                · simp [turn, p2D, Brd.fst, Brd.snd, q1, q2, q3, q4, m1, ap, ed, stIn, stTo]
              · simp [turn, p2D, Brd.fst, Brd.snd, q1, q2, q3, m1, ap, ed, stIn, stTo]
            · simp [turn, p2D, Brd.fst, Brd.snd, q1, q2, m1, ap, ed, stIn, stTo]
          · simp [turn, p2D, Brd.fst, Brd.snd, q1, m1, ap, ed, stIn, stTo]
        · by_cases q : stIn r c i s = true
          · rw [if_pos q]; simp at hP ⊢; omega
          · rw [if_neg q]; simp at hP ⊢; omega)]
    rw [foldl_filter]
    simp [sortedL, flats_dI, bes]
  | web n ts h1 h2 T =>
    have hl : ts.length ≤ 16777216 := by have := T.few; omega
    have e1 : itemsO (tiesD ts) = some (ts.map p2D) := rfl
    simp [Brd.isWeb, Brd.snd]
    rw [cLc_intsF ts p2D (fun t => decide (t.1 = i)) (·.2) (by simp [Brd.snd, e1]) hl (fun t ht => by simp [lcStep, p2D]) (by simp)]
    simp
    rw [cLc_intsF ts p2D (fun t => decide (t.2 = i)) (·.1) (by simp [Brd.snd, e1]) hl (fun t ht => by simp [lcStep, p2D]) (by simp)]
    have ad := addO_dI ((ts.filter fun t => decide (t.1 = i)).map (·.2)) ((ts.filter fun t => decide (t.2 = i)).map (·.1)) (by
      have l1 := List.length_filter_le (fun t : Int × Int => decide (t.1 = i)) ts
      have l2 := List.length_filter_le (fun t : Int × Int => decide (t.2 = i)) ts
      have := T.few
      simp only [List.length_map]; omega)
    simp [ad, sortedL, bes]
theorem bes_rng {B : Brd} (h : BrdOk B) {i : Int} (h0 : 0 ≤ i) (h1 : i < (B.size : Nat)) : ∀ x ∈ bes B i, 0 ≤ x ∧ x < (B.size : Nat) := by
  intro x hx
  cases h with
  | grid sq r c g1 g2 g3 g4 =>
    have hx : x ∈ srtI (((stepsOf sq).filter (stIn r c i)).map (stTo c i)) := hx
    rw [srtI_mem] at hx
    obtain ⟨s, hs, rfl⟩ := List.mem_map.mp hx
    have q := (List.mem_filter.mp hs).2
    unfold stIn at q
    simp only [Bool.and_eq_true, decide_eq_true_eq] at q
    obtain ⟨⟨q1, q2⟩, q3, q4⟩ := q
    unfold stTo
    show 0 ≤ _ ∧ _ < ((r * c : Nat) : Int)
    rw [Int.add_assoc]
    generalize i / (c : Int) + s.1 = a at q1 q2
    generalize i % (c : Int) + s.2 = b at q3 q4
    have l1 : 0 ≤ a * (c : Int) := Int.mul_nonneg q1 (by omega)
    have l2 : a * (c : Int) ≤ ((r : Int) - 1) * (c : Int) := Int.mul_le_mul_of_nonneg_right (by omega) (by omega)
    have l3 : ((r : Int) - 1) * (c : Int) = (r : Int) * (c : Int) - (c : Int) := by rw [Int.sub_mul]; omega
    have l4 : ((r * c : Nat) : Int) = (r : Int) * (c : Int) := by simp
    rw [l4]
    omega
  | web n ts g1 g2 T =>
    have hx : x ∈ srtI (((ts.filter fun t => decide (t.1 = i)).map (·.2)) ++ ((ts.filter fun t => decide (t.2 = i)).map (·.1))) := hx
    rw [srtI_mem] at hx
    show 0 ≤ x ∧ x < (n : Nat)
    rcases List.mem_append.mp hx with hx | hx
    · obtain ⟨t, ht, rfl⟩ := List.mem_map.mp hx
      have := T.rng t (List.mem_filter.mp ht).1
      omega
    · obtain ⟨t, ht, rfl⟩ := List.mem_map.mp hx
      have := T.rng t (List.mem_filter.mp ht).1
      omega
theorem bes_len {B : Brd} (h : BrdOk B) (i : Int) : (bes B i).length ≤ 1000 := by
  cases h with
  | grid sq r c g1 g2 g3 g4 =>
    show (srtI (((stepsOf sq).filter (stIn r c i)).map (stTo c i))).length ≤ 1000
    rw [srtI_len, List.length_map]
    have := List.length_filter_le (stIn r c i) (stepsOf sq)
    have hl : (stepsOf sq).length ≤ 8 := by cases sq <;> decide
    omega
  | web n ts g1 g2 T =>
    show (srtI (((ts.filter fun t => decide (t.1 = i)).map (·.2)) ++ ((ts.filter fun t => decide (t.2 = i)).map (·.1)))).length ≤ 1000
    rw [srtI_len, List.length_append, List.length_map, List.length_map]
    have l1 := List.length_filter_le (fun t : Int × Int => decide (t.1 = i)) ts
    have l2 := List.length_filter_le (fun t : Int × Int => decide (t.2 = i)) ts
    have := T.few
    omega
theorem all_beside_eq {B : Brd} (h : BrdOk B) : g_all_beside [encBrd B] = .ok (.ol ((List.range B.size).map fun i => .lst (dI (bes B (i : Nat))))) := by
  have hs := h.size_le
  unfold g_all_beside m_all_beside
  simp
  rw [cLc_all (List.range B.size) (fun i => .int (i : Nat)) (fun i => .lst (dI (bes B (i : Nat)))) (by simp [size_of_eq B h.fst_le, rg_ok (show B.size ≤ 1000000000 by omega)]) (by simp; omega) (fun i hi => by
    simp [lcStep, beside_of_eq h]) (by simp)]
  simp
/-! ### fields -/
def sT (l : List Nat) : Str := ⟨l.toArray⟩
def cT (c : Nat) : Str := ⟨#[c]⟩
theorem sT_len (l : List Nat) : (sT l).length = l.length := by unfold sT Str.length; simp
theorem sT_ch (l : List Nat) : chD (sT l) = l.map fun c => .str (cT c) := by unfold chD sT; rfl
def okSg (c : Nat) : Bool := c == 35 || c == 42 || (Nat.ble 48 c && Nat.ble c 57)
def isDg (c : Nat) : Bool := Nat.ble 48 c && Nat.ble c 57
theorem okSg_list {c : Nat} (h : okSg c = true) : c ∈ [35, 42, 48, 49, 50, 51, 52, 53, 54, 55, 56, 57] := by
  unfold okSg at h
  simp only [Bool.or_eq_true, Bool.and_eq_true, beq_iff_eq, Nat.ble_eq] at h
  simp only [List.mem_cons, List.not_mem_nil, or_false]
  omega
theorem eq_cov {c : Nat} : oEq (.dat (.str (cT c))) (.dat k_COVERED) = okd (.bl (c == 35)) := by
  have : ((cT c : Str) == ("#" : Str)) = (c == 35) := by
    have e : ("#" : Str) = cT 35 := by decide +kernel
    rw [e]
    by_cases h : c = 35
    · subst h; simp
    · have : ¬ cT c = cT 35 := fun z => h (by simpa [cT] using z)
      have h2 : (c == 35) = false := by simpa using h
      rw [h2]; simpa using this
  show okd (.bl ((cT c : Str) == ("#" : Str))) = _
  rw [this]
theorem eq_mine {c : Nat} : oEq (.dat (.str (cT c))) (.dat k_MINE) = okd (.bl (c == 42)) := by
  have : ((cT c : Str) == ("*" : Str)) = (c == 42) := by
    have e : ("*" : Str) = cT 42 := by decide +kernel
    rw [e]
    by_cases h : c = 42
    · subst h; simp
    · have : ¬ cT c = cT 42 := fun z => h (by simpa [cT] using z)
      have h2 : (c == 42) = false := by simpa using h
      rw [h2]; simpa using this
  show okd (.bl ((cT c : Str) == ("*" : Str))) = _
  rw [this]
theorem in_dig {c : Nat} (h : okSg c = true) : oIn (.dat (.str (cT c))) (.dat k_DIGITS) = okd (.bl (isDg c)) := by
  have key : ∀ c ∈ [35, 42, 48, 49, 50, 51, 52, 53, 54, 55, 56, 57], (!(Builtin.Str.occurrences ("0123456789" : Str) (cT c) 0 ("0123456789" : Str).length 1).isEmpty ^^ false) = isDg c := by decide +kernel
  show (ofO (some (D.bl (!(Builtin.Str.occurrences ("0123456789" : Str) (cT c) 0 ("0123456789" : Str).length 1).isEmpty ^^ false)))).bd okd = _
  rw [key c (okSg_list h)]; rfl
theorem in_sig {c : Nat} (h : okSg c = true) : oIn (.dat (.str (cT c))) (.dat k_SIGNS) = okd (.bl true) := by
  have key : ∀ c ∈ [35, 42, 48, 49, 50, 51, 52, 53, 54, 55, 56, 57], (!(Builtin.Str.occurrences ("#*0123456789" : Str) (cT c) 0 ("#*0123456789" : Str).length 1).isEmpty ^^ false) = true := by decide +kernel
  show (ofO (some (D.bl (!(Builtin.Str.occurrences ("#*0123456789" : Str) (cT c) 0 ("#*0123456789" : Str).length 1).isEmpty ^^ false)))).bd okd = _
  rw [key c (okSg_list h)]; rfl
theorem ix_dig {c : Nat} (h : isDg c = true) : sindexO k_DIGITS [.str (cT c)] = okd (.int ((c : Int) - 48)) := by
  have hl : c ∈ [48, 49, 50, 51, 52, 53, 54, 55, 56, 57] := by
    unfold isDg at h
    simp only [Bool.and_eq_true, Nat.ble_eq] at h
    simp only [List.mem_cons, List.not_mem_nil, or_false]
    omega
  have key : ∀ c ∈ [48, 49, 50, 51, 52, 53, 54, 55, 56, 57], Builtin.Str.occurrences ("0123456789" : Str) (cT c) 0 ("0123456789" : Str).length 1 = [c - 48] := by decide +kernel
  show (match Builtin.Str.occurrences ("0123456789" : Str) (cT c) 0 ("0123456789" : Str).length 1 with
    | i :: _ => okd (.int (i : Nat))
    | [] => .stuck) = _
  rw [key c hl]
  show okd (.int ((c - 48 : Nat) : Int)) = _
  congr 3
  unfold isDg at h
  simp only [Bool.and_eq_true, Nat.ble_eq] at h
  omega
end Wk

-- Mk9
namespace Wk
open PySem PySem.Spec PyProof.Rows L2 Dv Hm
structure Fd where
  bd : Brd
  sg : List Nat
  tot : Option Int
def encF (f : Fd) : D := .tup [.str "field", encBrd f.bd, .str (sT f.sg), encT f.tot]
structure WF (f : Fd) : Prop where
  brd : BrdOk f.bd
  sg : ∀ c ∈ f.sg, okSg c = true
  len : f.sg.length = f.bd.size
  few : (f.sg.filter isDg).length < 64
  tot : ∀ t, f.tot = some t → 0 ≤ t
section
variable {f : Fd}
@[simp] theorem ix_f0 : ixO (encF f) (.int 0) = okd (.str "field") := by unfold encF; simp
@[simp] theorem ix_f1 : ixO (encF f) (.int 1) = okd (encBrd f.bd) := by unfold encF; simp
@[simp] theorem ix_f2 : ixO (encF f) (.int 2) = okd (.str (sT f.sg)) := by unfold encF; simp
@[simp] theorem ix_f3 : ixO (encF f) (.int 3) = okd (encT f.tot) := by unfold encF; simp
theorem enum_sg (l : List Nat) : enumO (.str (sT l)) = some (l.zipIdx.map fun p => .tup [.int (p.2 : Nat), .str (cT p.1)]) := by
  show some (enD (chD (sT l))) = _
  rw [sT_ch, enD_map]
def posOf (l : List Nat) (q : Nat → Bool) : List Int := ((l.zipIdx.filter fun p => q p.1).map fun p => ((p.2 : Nat) : Int))
theorem posOf_len (l : List Nat) (q : Nat → Bool) : (posOf l q).length ≤ l.length := by
  unfold posOf
  rw [List.length_map]
  exact Nat.le_trans (List.length_filter_le _ _) (by simp)
theorem sg_len (h : WF f) : f.sg.length ≤ 64 := by rw [h.len]; exact h.brd.size_le
theorem signed_eq (h : WF f) {k : D} {q : Nat → Bool} (hk : ∀ c : Nat, oEq (.dat (.str (cT c))) (.dat k) = okd (.bl (q c))) : g_signed [encF f, k] = .ok (.ol (dI (posOf f.sg q))) := by
  have := sg_len h
  unfold g_signed m_signed
  simp
  rw [cLc_intsF f.sg.zipIdx (fun p => .tup [.int (p.2 : Nat), .str (cT p.1)]) (fun p => q p.1) (fun p => ((p.2 : Nat) : Int)) (by simp [enum_sg]) (by simp; omega) (fun p hp => by simp [lcStep, hk]) (by simp)]
  simp [posOf]
theorem covered_of_eq (h : WF f) : g_covered_of [encF f] = .ok (.ol (dI (posOf f.sg (· == 35)))) := by
  unfold g_covered_of m_covered_of
  simp [signed_eq h fun c => eq_cov]
theorem known_of_eq (h : WF f) : g_known_of [encF f] = okd (.int ((posOf f.sg (· == 42)).length : Nat)) := by
  unfold g_known_of m_known_of
  simp [signed_eq h fun c => eq_mine, dI_length]
def dgs (l : List Nat) : List (Nat × Nat) := l.zipIdx.filter fun p => isDg p.1
theorem numbers_of_eq (h : WF f) : g_numbers_of [encF f] = .ok (.ol ((dgs f.sg).map fun p => .tup [.int (p.2 : Nat), .int ((p.1 : Int) - 48)])) := by
  have := sg_len h
  unfold g_numbers_of m_numbers_of
  simp
  rw [cLc_pure f.sg.zipIdx (fun p => .tup [.int (p.2 : Nat), .str (cT p.1)]) (fun p => isDg p.1) (fun p => .tup [.int (p.2 : Nat), .int ((p.1 : Int) - 48)]) (by simp [enum_sg]) (by simp; omega) (fun p hp => by
    have ho := h.sg p.1 (List.mem_of_getElem? (zipIdx_get _ _ hp))
    have t9 : D.tyOk "str" k_DIGITS = true := rfl
    cases q : isDg p.1 with
    | false => simp [lcStep, in_dig ho, q]
    | true => simp [lcStep, in_dig ho, q, t9, ix_dig q]) (by simp)]
  simp [dgs]
theorem encT_ok (h : WF f) : g_is_total [encT f.tot] = okd (.bl true) := by
  rw [is_total_eq]
  cases q : f.tot with
  | none => rfl
  | some t =>
    have := h.tot t q
    simp [this]
theorem is_field_of_eq (h : WF f) : g_is_field_of [encF f] = okd (.bl true) := by
  have e1 : g_is_row [encF f, .int 4] = okd (.bl true) := is_row_eq _ 4
  have e2 : oNe (.dat (.str "field")) (.dat k_FIELD) = okd (.bl false) := rfl
  have ra : ∀ {α : Type} (l : List α), (l.all fun _ => true) = true := fun l => by rw [List.all_eq_true]; intro _ _; rfl
  have e3 : itemsO (.str (sT f.sg)) = some (f.sg.map fun c => .str (cT c)) := by
    show some (chD (sT f.sg)) = _
    rw [sT_ch]
  have := sg_len h
  unfold g_is_field_of m_is_field_of
  simp [e1, e2, is_board_of_eq h.brd, size_of_eq _ h.brd.fst_le, sT_len, h.len]
  rw [cLc_bools f.sg (fun c => .str (cT c)) (fun _ => true) (by simp [e3]) (by omega) (fun c hc => by simp [lcStep, in_sig (h.sg c hc)]) (by simp)]
  simp [ra, encT_ok h]
theorem want_field_eq (h : WF f) : g_want_field [encF f] = okd (encF f) := by
  unfold g_want_field m_want_field
  simp [is_field_of_eq h]
end
end Wk

-- Mk10
namespace Wk
open PySem PySem.Spec PyProof.Rows L2 Dv Hm
def sgA (sg : List Nat) (x : Int) : Nat := sg.getD x.toNat 0
def nearF (f : Fd) (q : Nat → Bool) (i : Int) : List Int := (bes f.bd i).filter fun x => q (sgA f.sg x)
def entF (f : Fd) (p : Nat × Nat) : Int × List Int × Int := ((p.2 : Nat), nearF f (· == 35) (p.2 : Nat), ((p.1 : Int) - 48) - ((nearF f (· == 42) (p.2 : Nat)).length : Nat))
def nnF (f : Fd) : List (Int × List Int × Int) := (dgs f.sg).map (entF f)
def cellsF (f : Fd) : List Int := posOf f.sg (· == 35)
def rimOf (cs : List Int) (nn : List (Int × List Int × Int)) : List Int := cs.filter fun c => nn.any fun e => decide (c ∈ e.2.1)
def bdF (f : Fd) : Bd := ⟨cellsF f, nnF f, f.tot.map fun t => t - ((posOf f.sg (· == 42)).length : Nat), rimOf (cellsF f) (nnF f)⟩
section
variable {f : Fd}
theorem ix_sg {sg : List Nat} {x : Int} (h0 : 0 ≤ x) (h1 : x < (sg.length : Nat)) : ixO (.str (sT sg)) (.int x) = okd (.str (cT (sgA sg x))) := by
  obtain ⟨k, rfl⟩ : ∃ k : Nat, x = k := ⟨x.toNat, by omega⟩
  show (ofO (atI (sT sg).cps.toList (k : Int))).bd (fun c => okd (.str ⟨#[c]⟩)) = _
  have : (sT sg).cps.toList = sg := rfl
  rw [this, Dv.atI_nat]
  have hk : k < sg.length := by omega
  rw [List.getElem?_eq_getElem hk]
  show okd (.str (cT sg[k])) = okd (.str (cT (sg.getD k 0)))
  simp [hk]
/-! ### the object while it is made -/
def o1 (cs : D) : SV := .oi "Bonds" [("own_cells", .dat cs)]
def o2 (cs : D) (a : SV) : SV := .oi "Bonds" [("own_cells", .dat cs), ("own_near", a)]
def o3 (cs : D) (a b : SV) : SV := .oi "Bonds" [("own_cells", .dat cs), ("own_near", a), ("own_needs", b)]
def o4 (cs : D) (a b : SV) (t : D) : SV := .oi "Bonds" [("own_cells", .dat cs), ("own_near", a), ("own_needs", b), ("own_total", .dat t)]
def o5 (cs : D) (a b : SV) (t r : D) : SV := .oi "Bonds" [("own_cells", .dat cs), ("own_near", a), ("own_needs", b), ("own_total", .dat t), ("own_rim", .dat r)]
@[simp] theorem fl1 (cs : D) : fldO ("Bonds" : Str) ("own_cells" : Str) (.dat cs) (.oi "Bonds" []) = some (o1 cs) := rfl
@[simp] theorem fl2 (cs : D) (a : SV) : fldO ("Bonds" : Str) ("own_near" : Str) a (o1 cs) = some (o2 cs a) := rfl
@[simp] theorem fl3 (cs : D) (a b : SV) : fldO ("Bonds" : Str) ("own_needs" : Str) b (o2 cs a) = some (o3 cs a b) := rfl
@[simp] theorem fl4 (cs : D) (a b : SV) (t : D) : fldO ("Bonds" : Str) ("own_total" : Str) (.dat t) (o3 cs a b) = some (o4 cs a b t) := rfl
@[simp] theorem fl5 (cs : D) (a b : SV) (t r : D) : fldO ("Bonds" : Str) ("own_rim" : Str) (.dat r) (o4 cs a b t) = some (o5 cs a b t r) := rfl
@[simp] theorem gp_near (cs : D) (a b : SV) (r : Ep) : getPl (.f 0 ("Bonds" : Str) ("own_near" : Str)) (o3 cs a b :: r) = some a := rfl
@[simp] theorem gp_needs (cs : D) (a b : SV) (r : Ep) : getPl (.f 0 ("Bonds" : Str) ("own_needs" : Str)) (o3 cs a b :: r) = some b := rfl
@[simp] theorem sp_near (cs : D) (a b s : SV) (r : Ep) : setPl (.f 0 ("Bonds" : Str) ("own_near" : Str)) s (o3 cs a b :: r) = o3 cs s b :: r := rfl
@[simp] theorem sp_needs (cs : D) (a b s : SV) (r : Ep) : setPl (.f 0 ("Bonds" : Str) ("own_needs" : Str)) s (o3 cs a b :: r) = o3 cs a s :: r := rfl
@[simp] theorem gp_cells (cs : D) (a b : SV) (t : D) (r : Ep) : getPl (.f 0 ("Bonds" : Str) ("own_cells" : Str)) (o4 cs a b t :: r) = some (.dat cs) := rfl
theorem setD_new (kvs : List (Key × D)) (i : Int) (d : D) (h : ∀ kv ∈ kvs, kv.1 ≠ .inl i) : setD kvs (.inl i) d = kvs ++ [(.inl i, d)] := by
  unfold setD
  have : hasD kvs (.inl i) = false := by
    unfold hasD
    rw [List.any_eq_false]
    intro kv hkv
    simpa using h kv hkv
  rw [this]; simp
theorem dgs_asc (l : List Nat) : (dgs l).Pairwise (fun p q => p.2 < q.2) := (zipIdx_asc l 0).1.filter _
theorem dgs_get {l : List Nat} {p : Nat × Nat} (h : p ∈ dgs l) : l[p.2]? = some p.1 ∧ isDg p.1 = true := by
  obtain ⟨h1, h2⟩ := List.mem_filter.mp h
  exact ⟨zipIdx_get _ _ h1, h2⟩
theorem dgs_len (l : List Nat) : (dgs l).length = (l.filter isDg).length := by
  have : ∀ (l : List Nat) (k : Nat), ((l.zipIdx k).filter fun p => isDg p.1).length = (l.filter isDg).length := by
    intro l
    induction l with
    | nil => intro k; rfl
    | cons a r ih =>
      intro k
      rw [List.zipIdx_cons, List.filter_cons, List.filter_cons]
      cases isDg a <;> simp [ih]
  exact this l 0
def ob4 (lk : Bool) (cs t : D) (a b : List (Key × D)) : D := .obj "Bonds" [("own_cells", cs), ("own_near", .dct lk a), ("own_needs", .dct false b), ("own_total", t)]
theorem o4_toD (cs t : D) (a b : List (Key × D)) : (o4 cs (.od a) (.od b) t).toD = some (ob4 false cs t a b) := by unfold o4; simp; rfl
theorem lk4 (cs t : D) (a b : List (Key × D)) : lkD (some ("own_near" : Str)) (ob4 false cs t a b) = some (ob4 true cs t a b) := rfl
theorem oF4 (cs t : D) (a b : List (Key × D)) : objF ("Bonds" : Str) ("own_near" : Str) (.dat (ob4 true cs t a b)) = okd (.dct true a) := rfl
theorem rim_comp {cs : List Int} {nn : List (Int × List Int × Int)} (hc : cs.length ≤ 64) (hn : nn.length ≤ 64) (t : D) (s1 s2 s3 s4 s5 s6 : SV) :
    cLc (iAny (cFldO 0 ("Bonds" : Str) ("own_cells" : Str))) (.nm 3) (Dv.tB (lend 0 (lockE 0 (some ("own_near" : Str)) (cA anyO (aC (cLc (iVal (c1 (objF ("Bonds" : Str) ("own_near" : Str)) (cV 0))) (.nm 6) (pr true) (c2 oIn (cV 3) (cV 6)) [6]) aN))))) (cV 3) [3]
      [o4 (.lst (dI cs)) (.od (nearD nn)) (.od (needD nn)) t, s1, s2, s3, s4, s5, s6] = .ok (.ol (dI (rimOf cs nn))) [o4 (.lst (dI cs)) (.od (nearD nn)) (.od (needD nn)) t, s1, s2, s3, s4, s5, s6] := by
  refine cLc_ints cs (fun c => nn.any fun e => decide (c ∈ e.2.1)) (by simp) (by omega) (fun c hc => ?_) (by simp)
  simp only [lcStep, rk_bd, rk_bindN]
  simp [o4_toD, lk4]
  rw [cLc_bools nn (fun e => .lst (dI e.2.1)) (fun e => decide (c ∈ e.2.1)) (by simp [oF4, nearD]) (by omega) (fun e he => by simp [lcStep, rk_inL]) (by simp)]
  simp [-List.any_map]
theorem dgs_few (h : WF f) : (nnF f).length < 64 := by unfold nnF; rw [List.length_map, dgs_len]; exact h.few
theorem init_eq (h : WF f) : g_Bonds___init__ (.oi "Bonds" []) [encF f] = .ok (.dat .non) (o5 (.lst (dI (cellsF f))) (.od (nearD (nnF f))) (.od (needD (nnF f))) (encT (bdF f).total) (.lst (dI (bdF f).rim))) := by
  have hs := sg_len h
  have hsz := h.brd.size_le
  unfold g_Bonds___init__ m_Bonds___init__
  simp [all_beside_eq h.brd, covered_of_eq h, numbers_of_eq h]
  rw [forL_foldP (fun p : Nat × Nat => .tup [.int (p.2 : Nat), .int ((p.1 : Int) - 48)])
    (fun (nn : List (Int × List Int × Int)) o => [o3 (.lst (dI (cellsF f))) (.od (nearD nn)) (.od (needD nn)), .dat (encF f), .dat (.lst ((List.range f.bd.size).map fun i => .lst (dI (bes f.bd (i : Nat))))), (match o with | none => .un | some p => .dat (.int ((p.2 : Nat) : Int))), (match o with | none => .un | some p => .dat (.int ((p.1 : Int) - 48))), .un, .un])
    (fun nn p => nn ++ [entF f p]) (fun rest nn => (∀ e ∈ nn, ∀ p ∈ rest, e.1 < ((p.2 : Nat) : Int)) ∧ rest.Pairwise (fun p q => p.2 < q.2) ∧ nn.length + rest.length ≤ 64 ∧ ∀ p ∈ rest, p.2 < f.bd.size)
    (dgs f.sg) [] (by rfl) ⟨(fun e he => by cases he), dgs_asc _, by rw [dgs_len]; have := h.few; simp; omega, fun p hp => by
      obtain ⟨q, _⟩ := dgs_get hp
      have := (List.getElem?_eq_some_iff.mp q).1
      rw [h.len] at this; exact this⟩ (fun p rest nn o hP => by
      obtain ⟨P1, P2, P3, P4⟩ := hP
      have hp : p.2 < f.bd.size := P4 p List.mem_cons_self
      have hlen : nn.length < 64 := by simp at P3; omega
      have ha : atI ((List.range f.bd.size).map fun i => D.lst (dI (bes f.bd (i : Nat)))) ((p.2 : Nat) : Int) = some (.lst (dI (bes f.bd ((p.2 : Nat) : Int)))) := by
        rw [Dv.atI_nat]; simp [hp]
      have hb := bes_rng h.brd (i := ((p.2 : Nat) : Int)) (by omega) (by omega)
      have hbl := bes_len h.brd ((p.2 : Nat) : Int)
      have n1 : setD (nearD nn) (.inl ((p.2 : Nat) : Int)) (.lst (dI (nearF f (· == 35) ((p.2 : Nat) : Int)))) = nearD (nn ++ [entF f p]) := by
        rw [setD_new _ _ _ (fun kv hkv => by
          obtain ⟨e, he, rfl⟩ := List.mem_map.mp hkv
          have := P1 e he p List.mem_cons_self
          intro z; have := Sum.inl.inj z; omega)]
        unfold nearD; simp [entF]
      have n2 : setD (needD nn) (.inl ((p.2 : Nat) : Int)) (.int (((p.1 : Int) - 48) - ((nearF f (· == 42) ((p.2 : Nat) : Int)).length : Nat))) = needD (nn ++ [entF f p]) := by
        rw [setD_new _ _ _ (fun kv hkv => by
          obtain ⟨e, he, rfl⟩ := List.mem_map.mp hkv
          have := P1 e he p List.mem_cons_self
          intro z; have := Sum.inl.inj z; omega)]
        unfold needD; simp [entF]
      have q1 := rk_putD ((p.2 : Nat) : Int) (.lst (dI (nearF f (· == 35) ((p.2 : Nat) : Int)))) (nearD nn) (by unfold nearD; rw [List.length_map]; omega)
      have q2 := rk_putD ((p.2 : Nat) : Int) (.int (((p.1 : Int) - 48) - ((nearF f (· == 42) ((p.2 : Nat) : Int)).length : Nat))) (needD nn) (by unfold needD; rw [List.length_map]; omega)
      rw [n1] at q1
      rw [n2] at q2
      refine ⟨?_, ?_, ?_, ?_, ?_⟩
      · simp [turn]
        rw [cLc_ints (bes f.bd ((p.2 : Nat) : Int)) (fun x => sgA f.sg x == 35) (by simp [ha]) (by omega) (fun x hx => by
          have := hb x hx
          have e := ix_sg this.1 (show x < ((f.sg.length : Nat) : Int) by rw [h.len]; exact this.2)
          simp [lcStep, e, eq_cov]) (by simp)]
        have eN : ((bes f.bd ((p.2 : Nat) : Int)).filter fun x => sgA f.sg x == 35) = nearF f (· == 35) ((p.2 : Nat) : Int) := rfl
        rw [eN]
        simp [q1]
        rw [cLc_ints (bes f.bd ((p.2 : Nat) : Int)) (fun x => sgA f.sg x == 42) (by simp [ha]) (by omega) (fun x hx => by
          have := hb x hx
          have e := ix_sg this.1 (show x < ((f.sg.length : Nat) : Int) by rw [h.len]; exact this.2)
          simp [lcStep, e, eq_mine]) (by simp)]
        have eM : ((bes f.bd ((p.2 : Nat) : Int)).filter fun x => sgA f.sg x == 42) = nearF f (· == 42) ((p.2 : Nat) : Int) := rfl
        rw [eM]
        simp [q2, dI_length]
      · intro e he p' hp'
        rcases List.mem_append.mp he with he | he
        · exact P1 e he p' (List.mem_cons_of_mem _ hp')
        · have : e = entF f p := by simpa using he
          subst this
          have := (List.pairwise_cons.mp P2).1 p' hp'
          show ((p.2 : Nat) : Int) < _
          omega
      · exact (List.pairwise_cons.mp P2).2
      · simp at P3 ⊢; omega
      · exact fun p' hp' => P4 p' (List.mem_cons_of_mem _ hp'))]
  have efold : ∀ (l : List (Nat × Nat)) (acc : List (Int × List Int × Int)), l.foldl (fun nn p => nn ++ [entF f p]) acc = acc ++ l.map (entF f) := by
    intro l
    induction l with
    | nil => intro acc; simp
    | cons a r ih => intro acc; rw [List.foldl_cons, ih]; simp
  rw [efold, List.nil_append]
  have enn : (dgs f.sg).map (entF f) = nnF f := rfl
  rw [enn]
  have ht : (bdF f).total = f.tot.map fun (t : Int) => t - ((posOf f.sg (· == 42)).length : Nat) := rfl
  rw [ht]
  have hcl : (cellsF f).length ≤ 64 := Nat.le_trans (posOf_len _ _) hs
  cases q : f.tot with
  | none =>
    simp [encT, q]
    rw [rim_comp hcl (Nat.le_of_lt (dgs_few h))]
    simp
    rfl
  | some t =>
    simp [encT, q, known_of_eq h]
    rw [rim_comp hcl (Nat.le_of_lt (dgs_few h))]
    simp
    rfl
end
end Wk

-- Mk11
namespace Wk
open PySem PySem.Spec PyProof.Rows L2 Dv Hm
section
variable {f : Fd}
theorem o5_toD (cs : D) (a b : List (Key × D)) (t r : D) : (o5 cs (.od a) (.od b) t r).toD = some (.obj "Bonds" [("own_cells", cs), ("own_near", .dct false a), ("own_needs", .dct false b), ("own_total", t), ("own_rim", r)]) := by
  unfold o5; simp
theorem made_toD (f : Fd) : (o5 (.lst (dI (cellsF f))) (.od (nearD (nnF f))) (.od (needD (nnF f))) (encT (bdF f).total) (.lst (dI (bdF f).rim))).toD = some (encB (bdF f)) := o5_toD _ _ _ _ _
theorem posOf_asc (l : List Nat) (q : Nat → Bool) : (posOf l q).Pairwise (· < ·) := by
  unfold posOf
  rw [List.pairwise_map]
  refine ((zipIdx_asc l 0).1.filter _).imp fun h => ?_
  omega
theorem mem_posOf {l : List Nat} {q : Nat → Bool} {x : Int} : x ∈ posOf l q ↔ 0 ≤ x ∧ x < (l.length : Nat) ∧ q (sgA l x) = true := by
  unfold posOf
  rw [List.mem_map]
  constructor
  · rintro ⟨p, hp, rfl⟩
    obtain ⟨h1, h2⟩ := List.mem_filter.mp hp
    have hg := zipIdx_get _ _ h1
    obtain ⟨hl, he⟩ := List.getElem?_eq_some_iff.mp hg
    refine ⟨by omega, by omega, ?_⟩
    have : sgA l ((p.2 : Nat) : Int) = p.1 := by unfold sgA; simp [hl, he]
    rw [this]; exact h2
  · rintro ⟨h0, h1, h2⟩
    obtain ⟨k, rfl⟩ : ∃ k : Nat, x = k := ⟨x.toNat, by omega⟩
    have hk : k < l.length := by omega
    have e : sgA l (k : Nat) = l[k] := by unfold sgA; simp [hk]
    rw [e] at h2
    refine ⟨(l[k], k), List.mem_filter.mpr ⟨?_, h2⟩, rfl⟩
    rw [List.mem_zipIdx_iff_getElem?]
    simp [hk]
theorem WBf (h : WF f) : WB (bdF f) where
  good := {
    nd := (posOf_asc f.sg (· == 35)).imp fun h => by omega
    sub := fun e he c hc => by
      obtain ⟨p, hp, rfl⟩ := List.mem_map.mp (show e ∈ (dgs f.sg).map (entF f) from he)
      have hc : c ∈ nearF f (· == 35) ((p.2 : Nat) : Int) := hc
      obtain ⟨h1, h2⟩ := List.mem_filter.mp hc
      have hp2 : p.2 < f.bd.size := by
        have := (List.getElem?_eq_some_iff.mp (dgs_get hp).1).1
        rw [h.len] at this; exact this
      have := bes_rng h.brd (i := ((p.2 : Nat) : Int)) (by omega) (by omega) c h1
      exact (mem_posOf (q := (· == 35))).mpr ⟨this.1, by rw [h.len]; exact this.2, h2⟩
    rim := rfl }
  asc := posOf_asc f.sg (· == 35)
  keys := by
    show ((nnF f).map (·.1)).Pairwise (· < ·)
    unfold nnF
    rw [List.map_map, List.pairwise_map]
    refine (dgs_asc f.sg).imp fun h => ?_
    show ((_ : Nat) : Int) < ((_ : Nat) : Int)
    omega
  few := dgs_few h
  small := Nat.le_trans (posOf_len f.sg (· == 35)) (sg_len h)
  near := fun e he => by
    obtain ⟨p, hp, rfl⟩ := List.mem_map.mp (show e ∈ (dgs f.sg).map (entF f) from he)
    exact Nat.le_trans (List.length_filter_le _ _) (bes_len h.brd _)
theorem want_at_most_ok (d : D) {n : Nat} (h : n ≤ 20) : g_want_at_most [d, k_MOST_RIM, .int (n : Nat)] = okd .non := by
  have : ¬ (20 : Int) < (n : Nat) := by omega
  unfold g_want_at_most m_want_at_most
  simp [k_MOST_RIM, this]
theorem want_rim_eq (h : WF f) (hr : (bdF f).rim.length ≤ 20) : g_want_rim [encF f] = okd .non := by
  unfold g_want_rim m_want_rim
  simp [init_eq h, made_toD, Bonds_rim_eq, dI_length, want_at_most_ok _ hr]
theorem are_guesses_eq (h : WF f) {g : Gs} (Gg : GoodG (bdF f) g) (lk : Bool) : g_are_guesses_of [encF f, encG lk g] = okd (.bl true) := by
  have e1 := kvG_items g
  unfold encG at e1
  unfold g_are_guesses_of m_are_guesses_of encG
  simp [covered_of_eq h, e1]
  have e0 : dI (g.map (·.1)) = (g.map (·.1)).map D.int := rfl
  rw [e0, forL_foldM D.int (fun (s : Unit) o => [.dat (encF f), .dat (.dct true (kvG g)), .dat (.lst (dI (posOf f.sg (· == 35)))), (match o with | none => .un | some c => .dat (.int c))]) (fun _ _ => ()) (g.map (·.1)) () (by rfl) (fun s o c hc => by
    obtain ⟨v, hv⟩ := gl_key Gg.nd hc
    have hm : c ∈ posOf f.sg (· == 35) := by
      obtain ⟨p, hp, rfl⟩ := List.mem_map.mp hc
      exact Gg.sub p hp
    simp [turn, rk_ninL, hm, look_kvG, hv])]
  simp
theorem want_guesses_eq (h : WF f) {g : Gs} (Gg : GoodG (bdF f) g) (lk : Bool) : g_want_guesses [encF f, encG lk g] = okd (encG lk g) := by
  unfold g_want_guesses m_want_guesses
  simp [are_guesses_eq h Gg]
theorem want_both_eq (h : WF f) (hr : (bdF f).rim.length ≤ 20) {g : Gs} (Gg : GoodG (bdF f) g) (lk : Bool) : ∃ r, g_want_both [encF f, encG lk g] = .ok r ∧ r.toD = some (encB (bdF f)) := by
  refine ⟨_, ?_, made_toD f⟩
  unfold g_want_both m_want_both
  simp [want_field_eq h, want_guesses_eq h Gg, want_rim_eq h hr, init_eq h]
theorem many_layings_eq (h : WF f) (hr : (bdF f).rim.length ≤ 20) {g : Gs} (Gg : GoodG (bdF f) g) : g_many_layings [encF f, encG false g] = okd (.int (N (bdF f) g : Nat)) := by
  obtain ⟨r, e1, e2⟩ := want_both_eq h hr Gg false
  unfold g_many_layings m_many_layings
  simp [e1, e2, many_by_eq (WBf h) Gg]
theorem laying_at_eq (h : WF f) (hr : (bdF f).rim.length ≤ 20) {g : Gs} (Gg : GoodG (bdF f) g) {k : Nat} {L : List Int} (hk : k < N (bdF f) g) (hL : lbF (ok (bdF f) g) [] (bdF f).cells k = some L) : g_laying_at [encF f, encG false g, .int (k : Nat)] = okd (.tup (dI L)) := by
  obtain ⟨r, e1, e2⟩ := want_both_eq h hr Gg false
  unfold g_laying_at m_laying_at
  simp [e1, e2, many_by_eq (WBf h) Gg, is_below_eq, hk, laying_by_eq (WBf h) Gg hL]
/-! ### layings judged -/
def allG (cs L : List Int) : Gs := cs.map fun c => (c, decide (c ∈ L))
theorem is_laying_of_eq (h : WF f) (L : List Int) (hl : L.length ≤ 64) : g_is_laying_of [encF f, .tup (dI L)] = okd (.bl ((L.all fun c => decide (c ∈ (bdF f).cells)) && ((L.zip L.tail).all (fun p => decide (p.1 < p.2)) && !broken (bdF f) (allG (bdF f).cells L)))) := by
  have W := WBf h
  have hb := fun lk => broken_eq W lk (allG (bdF f).cells L)
  unfold g_is_laying_of m_is_laying_of
  simp [init_eq h, made_toD]
  rw [cLc_bools L D.int (fun c => decide (c ∈ (bdF f).cells)) (by simp [dI]) (by omega) (fun c hc => by simp [lcStep, Bonds_cells_eq, rk_inL]) (by simp)]
  simp
  cases q1 : L.all (fun c => decide (c ∈ (bdF f).cells)) with
  | false => simp
  | true =>
    simp [is_rising1 (show L.length ≤ 16777216 by omega)]
    cases q2 : (L.zip L.tail).all (fun p => decide (p.1 < p.2)) with
    | false => simp
    | true =>
      simp
      rw [cDc_ints (bdF f).cells D.int id (fun c => .bl (decide (c ∈ L))) (by simp [Bonds_cells_eq, dI]) (by have := W.small; omega) (by rw [List.map_id]; exact W.good.nd) (fun c hc => by simp [dcStep, rk_inT]) (by simp)]
      have e2 : ((bdF f).cells.map fun c => ((.inl (id c) : Key), D.bl (decide (c ∈ L)))) = kvG (allG (bdF f).cells L) := by
        unfold kvG allG; rw [List.map_map]; rfl
      rw [e2]
      have hb := hb false
      unfold encG at hb
      simp [hb, brD_isN]
theorem allG_good (h : WF f) (L : List Int) : GoodG (bdF f) (allG (bdF f).cells L) where
  nd := by
    unfold allG
    rw [List.map_map]
    have : ((·.1) ∘ fun c : Int => (c, decide (c ∈ L))) = id := rfl
    rw [this, List.map_id]; exact (WBf h).good.nd
  sub := fun p hp => by
    obtain ⟨c, hc, rfl⟩ := List.mem_map.mp hp
    exact hc
theorem gl_allG {cs L : List Int} {c : Int} (h : c ∈ cs) : gl (allG cs L) c = some (decide (c ∈ L)) := by
  induction cs with
  | nil => cases h
  | cons a r ih =>
    show gl ((a, decide (a ∈ L)) :: allG r L) c = _
    rw [gl_cons]
    by_cases e : c = a
    · rw [if_pos e, e]
    · rw [if_neg e]
      rcases List.mem_cons.mp h with z | z
      · exact absurd z e
      · exact ih z
/-- with all cells told, nothing is broken just if the laying fits -/
theorem mi_allG {cs L xs : List Int} (h : ∀ c ∈ xs, c ∈ cs) : mi (allG cs L) xs = xs.countP fun c => decide (c ∈ L) := by
  unfold mi
  refine List.countP_congr fun c hc => ?_
  rw [gl_allG (h c hc)]; simp
theorem un_allG {cs L xs : List Int} (h : ∀ c ∈ xs, c ∈ cs) : un (allG cs L) xs = 0 := by
  unfold un
  rw [List.countP_eq_zero]
  intro c hc
  rw [gl_allG (h c hc)]; simp
theorem isBr_allG {cs L xs : List Int} {need : Int} (h : ∀ c ∈ xs, c ∈ cs) : isBr xs need (allG cs L) = !decide (((xs.countP fun c => decide (c ∈ L) : Nat) : Int) = need) := by
  unfold isBr
  rw [mi_allG h, un_allG h, Bool.eq_iff_iff]
  simp
  omega
theorem broken_allG {b : Bd} (G : b.Good) {L : List Int} (hL : L.Sublist b.cells) : broken b (allG b.cells L) = !(okN b L && okT b L) := by
  have h1 : (b.nn.any fun e => isBr e.2.1 e.2.2 (allG b.cells L)) = !okN b L := by
    unfold okN
    rw [List.any_eq_not_all_not]
    congr 1
    have : ∀ e ∈ b.nn, (!isBr e.2.1 e.2.2 (allG b.cells L)) = decide (((e.2.1.countP fun c => decide (c ∈ L) : Nat) : Int) = e.2.2) := fun e he => by
      rw [isBr_allG (G.sub e he), Bool.not_not]
    rw [Bool.eq_iff_iff, List.all_eq_true, List.all_eq_true]
    constructor
    · intro z e he; rw [← this e he]; exact z e he
    · intro z e he; rw [this e he]; exact z e he
  unfold broken
  rw [h1]
  unfold okT
  cases b.total with
  | none => simp
  | some t =>
    simp only
    rw [isBr_allG (fun c hc => hc), len_count G.nd hL]
    cases okN b L <;> simp
theorem rising_sub {b : Bd} (asc : b.cells.Pairwise (· < ·)) {L : List Int} (hL : L.Sublist b.cells) : (L.zip L.tail).all (fun p => decide (p.1 < p.2)) = true := by
  have hp := asc.sublist hL
  clear hL
  induction L with
  | nil => rfl
  | cons a r ih =>
    cases r with
    | nil => rfl
    | cons b' r =>
      obtain ⟨h1, h2⟩ := List.pairwise_cons.mp hp
      have := ih h2
      have h0 := h1 b' List.mem_cons_self
      simp at this ⊢
      exact ⟨h0, this⟩
theorem rank_of_eq (h : WF f) (hr : (bdF f).rim.length ≤ 20) {g : Gs} (Gg : GoodG (bdF f) g) {L : List Int} (hL : L.Sublist (bdF f).cells) (ho : ok (bdF f) g L = true) : g_rank_of [encF f, encG false g, .tup (dI L)] = okd (.int (rkF (ok (bdF f) g) [] (bdF f).cells L : Nat)) := by
  obtain ⟨r, e1, e2⟩ := want_both_eq h hr Gg false
  have W := WBf h
  unfold ok at ho
  simp only [Bool.and_eq_true] at ho
  obtain ⟨o1, o2, o3⟩ := ho
  have l1 := is_laying_of_eq h L (Nat.le_trans hL.length_le W.small)
  have a1 : (L.all fun c => decide (c ∈ (bdF f).cells)) = true := by
    rw [List.all_eq_true]; intro c hc; exact decide_eq_true (hL.subset hc)
  rw [a1, rising_sub W.asc hL, broken_allG W.good hL, o1, o2] at l1
  have l2 := goes_with_eq W Gg false L
  have a2 : ((g.map (·.1)).all fun c => decide (c ∈ L) == (gl g c).getD false) = true := by
    rw [List.all_eq_true]
    intro c hc
    obtain ⟨v, hv⟩ := gl_key Gg.nd hc
    have hcc : c ∈ (bdF f).cells := by
      obtain ⟨p, hp, rfl⟩ := List.mem_map.mp hc
      exact Gg.sub p hp
    have := agr_mem o3 hcc hv
    rw [hv, this]; simp
  rw [a2] at l2
  unfold g_rank_of m_rank_of
  simp at l1
  simp [e1, e2, l1, l2, rank_by_eq W Gg hL]
end
end Wk

-- Lb1
namespace Wk
open PySem PySem.Spec PyProof.Rows L2 Dv Hm
/-! ### the law's draws -/
def Pot (s : SV) : Prop := ∃ a b : Int, s = .ol [.int a, .int b] ∧ 0 ≤ a ∧ 0 ≤ b ∧ b < 4294967296
theorem pot_eq (ns : List Int) (hn : ns.length ≤ 63) (k : Nat) (hk : k < 100) : ∃ s, g__law_pot [.frl (ns.map .int), .int (k : Nat)] = .ok s ∧ Pot s := by
  have e0 : ns.map D.int = dI ns := rfl
  rw [e0]
  have el : lenO [.frl (dI ns)] = okd (.int (ns.length : Nat)) := by
    show okd (.int ((dI ns).length : Nat)) = _
    rw [dI_length]
  have p1 : oPow (.dat (.int 10)) (.dat (.int 18)) = okd (.int 1000000000000000000) := by rfl
  have m1 := fun x => rk_mod x 2147483549 (by decide)
  have m2 := fun x => rk_mod x 2147483563 (by decide)
  have u1 := fun x : Int => rk_mul x 41999 (.inr (by decide))
  have u2 := fun x : Int => rk_mul 2171 x (.inl (by decide))
  have u3 := rk_mul 3673 (k : Nat) (.inl (by decide))
  have fin : ∀ x y : Int, Pot (.ol [.int (if 1000000000000000000 < x then x - 1000000000000000000 else 0), .int (y % 2147483563 + 1)]) := fun x y => by
    refine ⟨_, _, rfl, ?_, ?_, ?_⟩
    · split <;> omega
    · omega
    · omega
  unfold g__law_pot m__law_pot
  by_cases h : k < ns.length
  · have ha : atI (dI ns) ((k : Nat) : Int) = some (.int ns[k]) := by
      rw [atI_dI, Dv.atI_nat]; simp [h]
    simp [el, h, ha, p1, m1, m2, u1, u2, u3]
    exact fin _ _
  · simp [el, h, p1, m1, m2, u1, u2, u3]
    exact fin _ _
theorem draw_eq {s : SV} (hs : Pot s) {m : Int} (h0 : 0 < m) (h1 : m < 1267650600228229401496703205376) : ∃ d s', g__law_draw s [.int m] = .ok (.dat (.int d)) s' ∧ Pot s' ∧ 0 ≤ d ∧ d < m := by
  obtain ⟨a, b, rfl, ha, hb, hb2⟩ := hs
  unfold g__law_draw m__law_draw
  by_cases z : 0 < a
  · have dm : divmodO [.int a, .int m] = okd (.tup [.int (a / m), .int (a % m)]) := by
      show (if (decide (0 < m) && Nat.blt m.natAbs.log2 9000) = true then _ else _) = _
      rw [if_pos]
      rw [Bool.and_eq_true]
      exact ⟨decide_eq_true h0, Nat.blt_eq.mpr (Nat.lt_of_lt_of_le ((Nat.log2_lt (by omega)).mpr (show m.natAbs < 2 ^ 100 by omega)) (by decide))⟩
    have q0 := rk_putL 0 (.int (a / m)) [.int a, .int b] (by simp)
    simp at q0
    refine ⟨a % m, .ol [.int (a / m), .int b], ?_, ⟨_, _, rfl, Int.ediv_nonneg ha (by omega), hb, hb2⟩, Int.emod_nonneg _ (by omega), Int.emod_lt_of_pos _ h0⟩
    simp [z, dm, q0]
  · have m1 := fun x => rk_mod x 2147483587 (by decide)
    have m2 := fun x => rk_mod x 2147483549 (by decide)
    have m3 := fun x => rk_mod x m h0
    have d1 := fun x => rk_fdiv x 587 (by decide) (by decide)
    have u1 := fun x : Int => rk_mul x 48271 (.inr (by decide))
    have l1 : 0 ≤ (b * 48271 + 3673) % 2147483587 := Int.emod_nonneg _ (by decide)
    have l2 : (b * 48271 + 3673) % 2147483587 < 2147483587 := Int.emod_lt_of_pos _ (by decide)
    have u2 := rk_mul ((b * 48271 + 3673) % 2147483587) ((b * 48271 + 3673) % 2147483587) (.inl (by omega))
    have q0 := rk_putL 1 (.int ((b * 48271 + 3673) % 2147483587)) [.int a, .int b] (by simp)
    simp at q0
    refine ⟨((b * 48271 + 3673) % 2147483587 * ((b * 48271 + 3673) % 2147483587)) % 2147483549 / 587 % m, .ol [.int a, .int ((b * 48271 + 3673) % 2147483587)], ?_, ⟨_, _, rfl, ha, l1, by omega⟩, Int.emod_nonneg _ (by omega), Int.emod_lt_of_pos _ h0⟩
    simp [z, u1, m1, q0, u2, m2, d1, m3]
theorem Pot.own {s : SV} (h : Pot s) : s.own? = true := by
  obtain ⟨a, b, rfl, _⟩ := h; rfl
theorem drawN {s : SV} (hs : Pot s) {m : Int} (h0 : 0 < m) (h1 : m < 1267650600228229401496703205376) : ∃ (d : Nat) (s' : SV), g__law_draw s [.int m] = .ok (.dat (.int (d : Nat))) s' ∧ Pot s' ∧ (d : Int) < m := by
  obtain ⟨d, s', e, p, q1, q2⟩ := draw_eq hs h0 h1
  obtain ⟨k, rfl⟩ : ∃ k : Nat, d = k := ⟨d.toNat, by omega⟩
  exact ⟨k, s', e, p, q2⟩
theorem pickN {s : SV} (hs : Pot s) (xs : List D) (h0 : 0 < xs.length) (h1 : xs.length < 1000000) : ∃ (d : Nat) (s' : SV) (h : d < xs.length), g__law_pick s [.lst xs] = .ok (.dat xs[d]) s' ∧ Pot s' := by
  obtain ⟨d, s', e, p, q⟩ := drawN hs (m := (xs.length : Nat)) (by omega) (by omega)
  have hd : d < xs.length := by omega
  refine ⟨d, s', hd, ?_, p⟩
  unfold g__law_pick m__law_pick
  simp [hs.own, e, Dv.atI_nat, hd]
end Wk

-- Lb2
namespace Wk
open PySem PySem.Spec PyProof.Rows L2 Dv Hm
/-! ### ties, as the law draws them -/
def has2 (i : Int) (t : Int × Int) : Bool := decide (t.1 = i) || decide (t.2 = i)
def tc (T : List (Int × Int)) (i : Int) : Nat := T.countP (has2 i)
theorem tc_eq {T : List (Int × Int)} (h : ∀ t ∈ T, t.1 < t.2) (i : Int) : (T.map (·.1) ++ T.map (·.2)).count i = tc T i := by
  induction T with
  | nil => rfl
  | cons a r ih =>
    have ih := ih fun t ht => h t (List.mem_cons_of_mem _ ht)
    have h0 := h a List.mem_cons_self
    unfold tc at ih ⊢
    rw [List.countP_cons, ← ih]
    simp only [List.map_cons, List.cons_append, List.count_append, List.count_cons]
    unfold has2
    by_cases e1 : a.1 = i
    · have e2 : ¬ a.2 = i := by omega
      simp [e1, e2]
    · by_cases e2 : a.2 = i
      · simp [e1, e2]; omega
      · simp [e1, e2]
structure TI (n : Nat) (T : List (Int × Int)) : Prop where
  rng : ∀ t ∈ T, 0 ≤ t.1 ∧ t.1 < t.2 ∧ t.2 < n
  nd : T.Nodup
  deg : ∀ i, tc T i ≤ 9
theorem TI.nil (n : Nat) : TI n [] := ⟨fun t ht => (by cases ht), .nil, fun i => Nat.zero_le _⟩
theorem TI.snoc {n : Nat} {T : List (Int × Int)} (h : TI n T) {t : Int × Int} (h1 : 0 ≤ t.1 ∧ t.1 < t.2 ∧ t.2 < n) (h2 : t ∉ T) (h3 : tc T t.1 < 9) (h4 : tc T t.2 < 9) : TI n (T ++ [t]) where
  rng := fun u hu => by
    rcases List.mem_append.mp hu with z | z
    · exact h.rng u z
    · have : u = t := by simpa using z
      rw [this]; exact h1
  nd := List.nodup_append.mpr ⟨h.nd, by simp, fun a ha b hb e => by
    have : b = t := by simpa using hb
    subst this; subst e; exact h2 ha⟩
  deg := fun i => by
    have e : tc (T ++ [t]) i = tc T i + (if has2 i t = true then 1 else 0) := by
      unfold tc
      rw [List.countP_append]
      congr 1
      simp [List.countP_cons]
    rw [e]
    have := h.deg i
    unfold has2
    by_cases e1 : t.1 = i
    · rw [e1] at h3; simp [e1]; omega
    · by_cases e2 : t.2 = i
      · rw [e2] at h4; simp [e2]; omega
      · simp [e1, e2]; omega
def le2 (p q : Int × Int) : Bool := decide (p.1 < q.1 ∨ (p.1 = q.1 ∧ p.2 ≤ q.2))
def sort2 (T : List (Int × Int)) : List (Int × Int) := T.mergeSort le2
theorem sort2_ok {n : Nat} {T : List (Int × Int)} (h : TI n T) (hl : T.length ≤ 120) : TieOk n (sort2 T) where
  few := by unfold sort2; rw [List.length_mergeSort]; exact hl
  rng := fun t ht => h.rng t (List.mem_mergeSort.mp ht)
  asc := by
    have hp : (sort2 T).Pairwise (fun a b => le2 a b = true) := List.pairwise_mergeSort (le := le2) (fun a b c => by unfold le2; simp; omega) (fun a b => by unfold le2; simp; omega) T
    have hn : (sort2 T).Nodup := (List.mergeSort_perm T le2).nodup_iff.mpr h.nd
    have key : (sort2 T).Pairwise (fun a b => lt2 a b = true) := (hp.and hn).imp fun {a b} ⟨h1, h2⟩ => by
      unfold le2 at h1
      unfold lt2
      simp only [decide_eq_true_eq] at h1 ⊢
      rcases h1 with h1 | ⟨h1, h3⟩
      · exact .inl h1
      · refine .inr ⟨h1, ?_⟩
        have : ¬ a.2 = b.2 := fun e => h2 (Prod.ext h1 e)
        omega
    have pz : ∀ {l : List (Int × Int)}, l.Pairwise (fun a b => lt2 a b = true) → ∀ p ∈ l.zip l.tail, lt2 p.1 p.2 = true := by
      intro l
      induction l with
      | nil => intro _ p hp; cases hp
      | cons a r ih =>
        intro h p hp
        cases r with
        | nil => cases hp
        | cons b r =>
          obtain ⟨g1, g2⟩ := List.pairwise_cons.mp h
          have hp : p ∈ (a, b) :: (b :: r).zip r := hp
          rcases List.mem_cons.mp hp with rfl | hp
          · exact g1 b List.mem_cons_self
          · exact ih g2 p hp
    exact pz key
  deg := fun i _ => by
    have hp : (sort2 T).Perm T := List.mergeSort_perm T le2
    rw [tc_eq fun t ht => (h.rng t (hp.mem_iff.mp ht)).2.1]
    unfold tc
    rw [hp.countP_eq]
    exact h.deg i
/-! sorted, as data -/
theorem sorted_ties (T : List (Int × Int)) (hl : T.length ≤ 16777216) : sortedB [.lst (T.map p2D)] = .ok (.ol ((sort2 T).map p2D)) := by
  cases T with
  | nil =>
    have e0 : (([] : List (Int × Int)).map p2D) = dI [] := rfl
    rw [e0, sortedL]
    simp [sort2, srtI, dI]
  | cons t0 T =>
    have hs : sortedO [.lst ((t0 :: T).map p2D)] = .stuck := rfl
    unfold sortedB
    rw [hs]
    show sortedA [.lst ((t0 :: T).map p2D)] = _
    have hpy : ∀ t : Int × Int, (p2D t).py = .tuple [.int t.1, .int t.2] := fun t => by simp [p2D, D.py, pys]
    have hk : sortOk ((t0 :: T).map p2D) = true := by
      unfold sortOk
      simp only [Bool.and_eq_true]
      refine ⟨?_, ?_, ?_, ?_, ?_⟩
      · have : ∀ l : List (Int × Int), pls (l.map p2D) = true := by
          intro l
          induction l with
          | nil => rfl
          | cons a r ih =>
            show (D.pl (p2D a) && pls (r.map p2D)) = true
            rw [ih]; simp [p2D, D.pl, pls]
        exact this _
      · exact Nat.ble_eq_true_of_le (by rw [List.length_map]; exact hl)
      · rw [List.all_eq_true]
        intro x hx
        rw [List.all_eq_true]
        intro y hy
        obtain ⟨a, _, rfl⟩ := List.mem_map.mp hx
        obtain ⟨b, _, rfl⟩ := List.mem_map.mp hy
        rw [hpy, hpy]
        simp [PySem.W.alike, PySem.W.alikeAll]
      · rw [List.all_eq_true]
        intro x hx
        obtain ⟨a, _, rfl⟩ := List.mem_map.mp hx
        exact decide_eq_true (by simp [p2D, D.dep, deps])
      · unfold sortKindOk
        rw [Bool.or_eq_true]
        left
        rw [List.all_eq_true]
        intro x hx
        obtain ⟨y, hy, rfl⟩ := List.mem_map.mp hx
        obtain ⟨a, _, rfl⟩ := List.mem_map.mp hy
        rw [hpy]; rfl
    show (if sortOk ((t0 :: T).map p2D) = true then Ot.ok (SV.ol (sortD ((t0 :: T).map p2D))) else .stuck) = _
    rw [if_pos hk]
    congr 2
    unfold sortD sort2
    rw [eq_comm]
    exact List.map_mergeSort fun a _ b _ => by
      show le2 a b = leD (.tup [.int a.1, .int a.2]) (.tup [.int b.1, .int b.2])
      rw [leD_2]; rfl
end Wk

-- Lb3
namespace Wk
open PySem PySem.Spec PyProof.Rows L2 Dv Hm
theorem p2D_dI (t : Int × Int) : p2D t = .tup (dI [t.1, t.2]) := rfl
theorem in_p2 (i : Int) (t : Int × Int) : oIn (.dat (.int i)) (.dat (p2D t)) = okd (.bl (has2 i t)) := by
  rw [p2D_dI, rk_inT]
  congr 2
  unfold has2
  rw [Bool.eq_iff_iff]
  simp only [List.mem_cons, List.not_mem_nil, or_false, decide_eq_true_eq, Bool.or_eq_true]
  constructor
  · rintro (h | h)
    · exact .inl h.symm
    · exact .inr h.symm
  · rintro (h | h)
    · exact .inl h.symm
    · exact .inr h.symm
theorem pls_ties (T : List (Int × Int)) : pls (T.map p2D) = true := by
  induction T with
  | nil => rfl
  | cons a r ih =>
    show (D.pl (p2D a) && pls (r.map p2D)) = true
    rw [ih]; simp [p2D, D.pl, pls]
theorem deps_ties (T : List (Int × Int)) : deps (T.map p2D) ≤ 1 := by
  induction T with
  | nil => unfold deps; exact Nat.zero_le _
  | cons a r ih =>
    show max (D.dep (p2D a)) (deps (r.map p2D)) ≤ 1
    have : D.dep (p2D a) = 1 := by simp [p2D, D.dep, deps]
    omega
theorem flats_ties (T : List (Int × Int)) : flats (T.map p2D) = true := by
  induction T with
  | nil => rfl
  | cons a r ih =>
    show flats (p2D a :: r.map p2D) = true
    rw [flats, ih]
    simp [p2D, flats]
theorem inDs_ties (t : Int × Int) (T : List (Int × Int)) : inDs (p2D t) (T.map p2D) = decide (t ∈ T) := by
  induction T with
  | nil => rfl
  | cons a r ih =>
    show (D.eqv (p2D a) (p2D t) || inDs (p2D t) (r.map p2D)) = _
    rw [ih]
    have : D.eqv (p2D a) (p2D t) = decide (t = a) := by
      have h1 := eqvs_dI [a.1, a.2] [t.1, t.2]
      show eqvs (dI [a.1, a.2]) (dI [t.1, t.2]) = _
      rw [h1, Bool.eq_iff_iff]
      simp only [decide_eq_true_eq, List.cons.injEq, and_true]
      constructor
      · rintro ⟨e1, e2⟩; exact Prod.ext e1.symm e2.symm
      · rintro rfl; exact ⟨rfl, rfl⟩
    rw [this]
    by_cases e : t = a <;> simp [e]
theorem nin_ties (t : Int × Int) (T : List (Int × Int)) : oNin (.dat (p2D t)) (.dat (.lst (T.map p2D))) = okd (.bl (!decide (t ∈ T))) := by
  show (ofO (if (D.pl (p2D t) && (pls (T.map p2D) && decide (min (deps (T.map p2D)) (D.dep (p2D t)) ≤ 60))) = true then some (D.bl (inDs (p2D t) (T.map p2D) ^^ true)) else none)).bd okd = _
  have h1 : D.pl (p2D t) = true := by simp [p2D, D.pl, pls]
  have h2 := deps_ties T
  rw [h1, pls_ties, inDs_ties]
  have : min (deps (T.map p2D)) (D.dep (p2D t)) ≤ 60 := by omega
  simp [this]
theorem max2L (x y : Int) : maxO [.lst [.int x, .int y]] = okd (.int (if x < y then y else x)) := rfl
theorem boardTurn {s : SV} (hs : Pot s) {n : Nat} (hn : 1 ≤ n) (hn2 : n ≤ 16) {T : List (Int × Int)} (hT : TI n T) (hl : T.length ≤ 100) (d : D) (s1 s2 o5 o6 o7 o8 : SV) : ∃ (s' : SV) (T' : List (Int × Int)) (o6' o7' o8' : SV), Pot s' ∧ TI n T' ∧ T'.length ≤ T.length + 1 ∧
    turn (.nm 5) (sSeq (sPar [6, 7] (aC (cCallM 0 g__law_draw (aC (cV 3) aN) []) (aC (cCallM 0 g__law_draw (aC (cV 3) aN) []) aN))) (bd (fzS 6) fun _ => (bd (fzS 7) fun _ => (sSeq (sSet 8 (cTup (aC (cA minO (aC (cV 6) (aC (cV 7) aN))) (aC (cA maxO (aC (cV 6) (aC (cV 7) aN))) aN)))) (sIf (tAn (tL (c2 oNe (cV 6) (cV 7))) (tAn (lendT 4 (tL (c2 oNin (cV 8) (cV 4)))) (tL (c2 oLtA (lend 4 (cA maxO (aC (cLc (iAny (cV 8)) (.nm 9) (pr true) (cA lenO (aC (cLc (iAny (cV 4)) (.nm 10) (tL (c2 oIn (cV 9) (cV 10))) (cV 10) [10]) aN)) [9]) aN))) (cC (.int 9)))))) (sExp (cApp (.s 4) (cV 8))) sNil))))) d
      [s, s1, s2, .dat (.int (n : Nat)), .ol (T.map p2D), o5, o6, o7, o8, .un, .un] = .ok .nx [s', s1, s2, .dat (.int (n : Nat)), .ol (T'.map p2D), .dat d, o6', o7', o8', .un, .un] := by
  obtain ⟨c, t1, e1, p1, l1⟩ := drawN hs (m := (n : Int)) (by omega) (by omega)
  obtain ⟨o, t2, e2, p2, l2⟩ := drawN p1 (m := (n : Int)) (by omega) (by omega)
  by_cases hco2 : c = o
  · subst hco2
    refine ⟨t2, T, .dat (.int (c : Nat)), .dat (.int (c : Nat)), .dat (.tup [.int (c : Nat), .int (c : Nat)]), p2, hT, by omega, ?_⟩
    simp [turn, hs.own, p1.own, e1, e2]
  · have hco : ¬ (c : Int) = (o : Int) := by omega
    obtain ⟨a, ha⟩ : ∃ a : Int, (if o < c then (o : Int) else (c : Int)) = a := ⟨_, rfl⟩
    obtain ⟨b, hb⟩ : ∃ b : Int, (if c < o then (o : Int) else (c : Int)) = b := ⟨_, rfl⟩
    have hab : 0 ≤ a ∧ a < b ∧ b < n := by
      rw [← ha, ← hb]
      split <;> split <;> omega
    have nt := nin_ties (a, b) T
    rw [show p2D (a, b) = .tup [.int a, .int b] from rfl] at nt
    by_cases hin : (a, b) ∈ T
    · refine ⟨t2, T, .dat (.int (c : Nat)), .dat (.int (o : Nat)), .dat (.tup [.int a, .int b]), p2, hT, by omega, ?_⟩
      simp [turn, hs.own, p1.own, e1, e2, hco, hco2, ha, hb, nt, hin]
    · have dc : ∀ (s3 s5 s6 s7 : SV), (cLc (iAny (cV 8)) (.nm 9) (pr true) (cA lenO (aC (cLc (iAny (cV 4)) (.nm 10) (tL (c2 oIn (cV 9) (cV 10))) (cV 10) [10]) aN)) [9]) [t2, s1, s2, s3, .dat (.lst (T.map p2D)), s5, s6, s7, .dat (.tup [.int a, .int b]), .un, .un] =
          .ok (.ol [.int ((tc T a : Nat) : Int), .int ((tc T b : Nat) : Int)]) [t2, s1, s2, s3, .dat (.lst (T.map p2D)), s5, s6, s7, .dat (.tup [.int a, .int b]), .un, .un] := fun s3 s5 s6 s7 => by
        rw [cLc_all [a, b] D.int (fun tip => .int ((tc T tip : Nat) : Int)) (by simp) (by show 2 ≤ _; decide) (fun tip htip => by
          simp only [lcStep, rk_bd, rk_bindN]
          simp
          rw [cLc_pure T p2D (has2 tip) p2D (by simp) (by omega) (fun t ht => by simp [lcStep, in_p2]) (by simp)]
          simp [tc, ← List.countP_eq_length_filter]) (by simp)]
        rfl
      by_cases hdeg : tc T a < 9 ∧ tc T b < 9
      · have ap := rk_app (.tup [.int a, .int b]) (T.map p2D) (by rw [List.length_map]; omega)
        have ea : T.map p2D ++ [.tup [.int a, .int b]] = (T ++ [(a, b)]).map p2D := by simp [p2D]
        rw [ea] at ap
        have hd : (if tc T a < tc T b then ((tc T b : Nat) : Int) else ((tc T a : Nat) : Int)) < 9 := by split <;> omega
        refine ⟨t2, T ++ [(a, b)], .dat (.int (c : Nat)), .dat (.int (o : Nat)), .dat (.tup [.int a, .int b]), p2, hT.snoc hab hin hdeg.1 hdeg.2, by simp, ?_⟩
        simp [turn, hs.own, p1.own, e1, e2, hco, hco2, ha, hb, nt, hin, dc, max2L, hd, ap]
      · have hd : ¬ (if tc T a < tc T b then ((tc T b : Nat) : Int) else ((tc T a : Nat) : Int)) < 9 := by split <;> omega
        refine ⟨t2, T, .dat (.int (c : Nat)), .dat (.int (o : Nat)), .dat (.tup [.int a, .int b]), p2, hT, by omega, ?_⟩
        simp [turn, hs.own, p1.own, e1, e2, hco, hco2, ha, hb, nt, hin, dc, max2L, hd]
theorem boardLoop : ∀ (items : List D) (s : SV) {n : Nat} (T : List (Int × Int)) (s1 s2 o5 o6 o7 o8 : SV), 1 ≤ n → n ≤ 16 → Pot s → TI n T → T.length + items.length ≤ 100 → ∃ (s' : SV) (T' : List (Int × Int)) (o5' o6' o7' o8' : SV), Pot s' ∧ TI n T' ∧ T'.length ≤ 100 ∧
    forL (.nm 5) (sSeq (sPar [6, 7] (aC (cCallM 0 g__law_draw (aC (cV 3) aN) []) (aC (cCallM 0 g__law_draw (aC (cV 3) aN) []) aN))) (bd (fzS 6) fun _ => (bd (fzS 7) fun _ => (sSeq (sSet 8 (cTup (aC (cA minO (aC (cV 6) (aC (cV 7) aN))) (aC (cA maxO (aC (cV 6) (aC (cV 7) aN))) aN)))) (sIf (tAn (tL (c2 oNe (cV 6) (cV 7))) (tAn (lendT 4 (tL (c2 oNin (cV 8) (cV 4)))) (tL (c2 oLtA (lend 4 (cA maxO (aC (cLc (iAny (cV 8)) (.nm 9) (pr true) (cA lenO (aC (cLc (iAny (cV 4)) (.nm 10) (tL (c2 oIn (cV 9) (cV 10))) (cV 10) [10]) aN)) [9]) aN))) (cC (.int 9)))))) (sExp (cApp (.s 4) (cV 8))) sNil))))) items
      [s, s1, s2, .dat (.int (n : Nat)), .ol (T.map p2D), o5, o6, o7, o8, .un, .un] = .ok .nx [s', s1, s2, .dat (.int (n : Nat)), .ol (T'.map p2D), o5', o6', o7', o8', .un, .un]
  | [], s, n, T, s1, s2, o5, o6, o7, o8, _, _, hs, hT, hl => ⟨s, T, o5, o6, o7, o8, hs, hT, by simpa using hl, rfl⟩
  | d :: r, s, n, T, s1, s2, o5, o6, o7, o8, hn, hn2, hs, hT, hl => by
    obtain ⟨t, T1, q6, q7, q8, p1, hT1, hl1, e⟩ := boardTurn hs hn hn2 hT (by simp at hl; omega) d s1 s2 o5 o6 o7 o8
    obtain ⟨s', T', o5', o6', o7', o8', p', hT', hl', e'⟩ := boardLoop r t T1 s1 s2 (.dat d) q6 q7 q8 hn hn2 p1 hT1 (by simp at hl; omega)
    refine ⟨s', T', o5', o6', o7', o8', p', hT', hl', ?_⟩
    rw [forL_turn, e]
    exact e'
theorem board_eq {s : SV} (hs : Pot s) : ∃ (s' : SV) (B : Brd), g__law_board s [.int 4] = .ok (.dat (encBrd B)) s' ∧ Pot s' ∧ BrdOk B ∧ B.size ≤ 16 := by
  obtain ⟨k, s1, e1, p1, l1⟩ := drawN hs (m := 3) (by decide) (by decide)
  unfold g__law_board m__law_board
  by_cases hk : k < 2
  · obtain ⟨r0, s2, e2, p2, l2⟩ := drawN p1 (m := 4) (by decide) (by decide)
    obtain ⟨c0, s3, e3, p3, l3⟩ := drawN p2 (m := 4) (by decide) (by decide)
    obtain ⟨R, hR⟩ : ∃ R : Nat, (1 : Int) + (r0 : Nat) = (R : Nat) := ⟨1 + r0, by omega⟩
    obtain ⟨C, hC⟩ : ∃ C : Nat, (1 : Int) + (c0 : Nat) = (C : Nat) := ⟨1 + c0, by omega⟩
    obtain ⟨sq, hsq⟩ : ∃ sq : Bool, atI [D.str "squares", D.str "hexes"] ((k : Nat) : Int) = some (D.str (Brd.grid sq R C).name) := by
      match k, hk with
      | 0, _ => exact ⟨true, rfl⟩
      | 1, _ => exact ⟨false, rfl⟩
    have hk' : ((k : Nat) : Int) < 2 := by omega
    refine ⟨s3, .grid sq R C, ?_, p3, .grid sq R C (by omega) (by omega) (by omega) (by omega), Nat.mul_le_mul (show R ≤ 4 by omega) (show C ≤ 4 by omega)⟩
    simp [hs.own, p1.own, p2.own, e1, hk', e2, e3, hR, hC, hsq]
    rfl
  · have hk' : ¬ ((k : Nat) : Int) < 2 := by omega
    have m1 : mulO (.int 4) (.int 4) = okd (.int 16) := rk_mul 4 4 (.inl (by decide))
    obtain ⟨n0, s2, e2, p2, l2⟩ := drawN p1 (m := 16) (by decide) (by decide)
    obtain ⟨n, hn⟩ : ∃ n : Nat, (1 : Int) + (n0 : Nat) = (n : Nat) := ⟨1 + n0, by omega⟩
    have m2 := rk_mul 2 (n : Int) (.inl (by decide))
    obtain ⟨N2, hN2⟩ : ∃ N2 : Nat, (2 : Int) * (n : Int) = (N2 : Nat) := ⟨2 * n, by omega⟩
    rw [hN2] at m2
    obtain ⟨q, s3, e3, p3, l3⟩ := drawN p2 (m := (N2 : Int)) (by omega) (by omega)
    have rq := rg_ok (show q ≤ 1000000000 by omega)
    obtain ⟨s4, T, o5, o6, o7, o8, p4, hT, hl, e4⟩ := boardLoop ((List.range q).map fun i => .int (i : Nat)) s3 (n := n) [] (.dat (.int 4)) (.dat (.int (k : Nat))) .un .un .un .un (by omega) (by omega) p3 (TI.nil n) (by simp; omega)
    have e0 : (([] : List (Int × Int)).map p2D) = [] := rfl
    rw [e0] at e4
    have st := sorted_ties T (by omega)
    have fl := flats_ties (sort2 T)
    refine ⟨s4, .web n (sort2 T), ?_, p4, .web n _ (by omega) (by omega) (sort2_ok hT (by omega)), by show n ≤ 16; omega⟩
    simp [hs.own, p1.own, p2.own, e1, hk', m1, e2, hn, m2, e3, rq, e4, st, fl]
    rfl
end Wk

-- Lb4
namespace Wk
open PySem PySem.Spec PyProof.Rows L2 Dv Hm
@[simp] theorem nm_web (B : Brd) : (B.name == ("web" : Str)) = B.isWeb := by
  rcases B with ⟨_ | _, r, c⟩ | ⟨n, ts⟩ <;> rfl
@[simp] theorem nm_sq (B : Brd) : (B.name == ("squares" : Str)) = B.isSq := by
  rcases B with ⟨_ | _, r, c⟩ | ⟨n, ts⟩ <;> rfl
@[simp] theorem ix_p0 (t : Int × Int) : ixO (p2D t) (.int 0) = okd (.int t.1) := by unfold p2D; simp
@[simp] theorem ix_p1 (t : Int × Int) : ixO (p2D t) (.int 1) = okd (.int t.2) := by unfold p2D; simp
theorem law_size_eq (B : Brd) (h : B.fst < 2 ^ 64) : g__law_size [encBrd B] = okd (.int (B.size : Nat)) := by
  unfold g__law_size m__law_size
  rcases B with ⟨sq, r, c⟩ | ⟨n, ts⟩
  · have h : r < 2 ^ 64 := h
    have := rk_mul (r : Nat) (c : Nat) (.inl (by simpa using h))
    simp [Brd.isWeb, Brd.size, Brd.snd, Brd.fst, this]
  · simp [Brd.isWeb, Brd.size, Brd.snd, Brd.fst]
theorem in_ol (x : SV) (ys : List D) : oIn x (.ol ys) = oIn x (.dat (.lst ys)) := by unfold oIn; simp
theorem in_ties (t : Int × Int) (T : List (Int × Int)) : oIn (.dat (p2D t)) (.dat (.lst (T.map p2D))) = okd (.bl (decide (t ∈ T))) := by
  show (ofO (if (D.pl (p2D t) && (pls (T.map p2D) && decide (min (deps (T.map p2D)) (D.dep (p2D t)) ≤ 60))) = true then some (D.bl (inDs (p2D t) (T.map p2D) ^^ false)) else none)).bd okd = _
  have h1 : D.pl (p2D t) = true := by simp [p2D, D.pl, pls]
  have h2 := deps_ties T
  rw [h1, pls_ties, inDs_ties]
  have : min (deps (T.map p2D)) (D.dep (p2D t)) ≤ 60 := by omega
  simp [this]
theorem web_perm {ts : List (Int × Int)} (h : ∀ t ∈ ts, t.1 < t.2) (i : Int) : ((ts.filter (has2 i)).map fun t => t.1 + t.2 - i).Perm (((ts.filter fun t => decide (t.1 = i)).map (·.2)) ++ ((ts.filter fun t => decide (t.2 = i)).map (·.1))) := by
  induction ts with
  | nil => exact List.Perm.refl _
  | cons a r ih =>
    have ih := ih fun t ht => h t (List.mem_cons_of_mem _ ht)
    have h0 := h a List.mem_cons_self
    rw [List.filter_cons, List.filter_cons, List.filter_cons]
    unfold has2 at ih ⊢
    by_cases e1 : a.1 = i
    · have e2 : ¬ a.2 = i := by omega
      have e3 : a.1 + a.2 - i = a.2 := by omega
      simp [e1, e2]
      have e4 : i + a.2 - i = a.2 := by omega
      rw [e4]
      exact ih.cons _
    · by_cases e2 : a.2 = i
      · have e3 : a.1 + i - i = a.1 := by omega
        simp [e1, e2, e3]
        exact (ih.cons _).trans List.perm_middle.symm
      · simp [e1, e2]
        exact ih
def hx6 : List (Int × Int) := [(0, 1), (0, -1), (1, 0), (-1, 0), (1, -1), (-1, 1)]
def nearS (sq : Bool) (d r : Int) : Bool := if sq = true then !decide ([d, r] = [(0 : Int), 0]) else decide ((d, r) ∈ hx6)
def three : List Int := [-1, 0, 1]
def nine : List (Int × Int) := three.flatMap fun d => three.map fun r => (d, r)
theorem nine_near (sq : Bool) : nine.filter (fun p => nearS sq p.1 p.2) = stepsOf sq := by cases sq <;> decide
def nearM : ME := (cIf (tL (c2 oEq (cIx (cV 0) (cC (.int 0))) (cC (.str "squares")))) (c2 oNe (cTup (aC (cV 5) (aC (cV 6) aN))) (cTup (aC (cC (.int 0)) (aC (cC (.int 0)) aN)))) (c2 oIn (cTup (aC (cV 5) (aC (cV 6) aN))) (cLst (aC (cTup (aC (cC (.int 0)) (aC (cC (.int 1)) aN))) (aC (cTup (aC (cC (.int 0)) (aC (c1 (l1 negO) (cC (.int 1))) aN))) (aC (cTup (aC (cC (.int 1)) (aC (cC (.int 0)) aN))) (aC (cTup (aC (c1 (l1 negO) (cC (.int 1))) (aC (cC (.int 0)) aN))) (aC (cTup (aC (cC (.int 1)) (aC (c1 (l1 negO) (cC (.int 1))) aN))) (aC (cTup (aC (c1 (l1 negO) (cC (.int 1))) (aC (cC (.int 1)) aN))) aN)))))))))
theorem near_sem (B : Brd) (hB : B.isWeb = false) (d r : Int) (s1 s2 s3 s4 s7 s8 : SV) : nearM [.dat (encBrd B), s1, s2, s3, s4, .dat (.int d), .dat (.int r), s7, s8] =
    .ok (.dat (.bl (nearS B.isSq d r))) [.dat (encBrd B), s1, s2, s3, s4, .dat (.int d), .dat (.int r), s7, s8] := by
  unfold nearM
  have e1 : oNe (.dat (.tup [.int d, .int r])) (.dat (.tup [.int 0, .int 0])) = okd (.bl (!decide ([d, r] = [(0 : Int), 0]))) := rk_neT [d, r] [0, 0]
  have e2 : oIn (.dat (.tup [.int d, .int r])) (.dat (.lst [.tup [.int 0, .int 1], .tup [.int 0, .int (-1)], .tup [.int 1, .int 0], .tup [.int (-1), .int 0], .tup [.int 1, .int (-1)], .tup [.int (-1), .int 1]])) = okd (.bl (decide ((d, r) ∈ hx6))) := in_ties (d, r) hx6
  have e3 : lstO [.tup [.int 0, .int 1], .tup [.int 0, .int (-1)], .tup [.int 1, .int 0], .tup [.int (-1), .int 0], .tup [.int 1, .int (-1)], .tup [.int (-1), .int 1]] = .ok (.ol [.tup [.int 0, .int 1], .tup [.int 0, .int (-1)], .tup [.int 1, .int 0], .tup [.int (-1), .int 0], .tup [.int 1, .int (-1)], .tup [.int (-1), .int 1]]) := by
    unfold lstO; rw [if_pos (sizeLine_le (by show 6 ≤ _; decide))]
  cases q : B.isSq with
  | true => simp [q, e1, nearS, -List.cons.injEq, -decide_not]
  | false => simp [q, e2, e3, in_ol, nearS]
def isN3 (r c : Nat) (sq : Bool) (i d q : Int) : Bool := nearS sq d q && stIn r c i (d, q)
theorem filt_and {α : Type} (p q : α → Bool) (l : List α) : l.filter (fun a => p a && q a) = (l.filter p).filter q := by
  rw [List.filter_filter]; congr 1; funext a; rw [Bool.and_comm]
theorem grid_perm (sq : Bool) (r c : Nat) (i : Int) : (nine.filter fun p => isN3 r c sq i p.1 p.2).map (stTo c i) = ((stepsOf sq).filter (stIn r c i)).map (stTo c i) := by
  rw [show (fun p : Int × Int => isN3 r c sq i p.1 p.2) = fun p => nearS sq p.1 p.2 && stIn r c i p from rfl, filt_and, nine_near]
def oI : Option Int → SV
  | none => .un
  | some d => .dat (.int d)
def inB : MS := (sSeq (sSet 7 nearM) (sIf (tAn (tB (cV 7)) (tAn (tL (c3 oLeA oLtA (cC (.int 0)) (c2 oAdd (cV 2) (cV 5)) (cIx (cV 0) (cC (.int 1))))) (tL (c3 oLeA oLtA (cC (.int 0)) (c2 oAdd (cV 3) (cV 6)) (cIx (cV 0) (cC (.int 2))))))) (sExp (cApp (.s 4) (c2 oAdd (c2 oAdd (c2 (l2 mul2O) (c2 oAdd (cV 2) (cV 5)) (cIx (cV 0) (cC (.int 2)))) (cV 3)) (cV 6)))) sNil))
def gBody : MS := (sFor (iAny (cLst (aC (c1 (l1 negO) (cC (.int 1))) (aC (cC (.int 0)) (aC (cC (.int 1)) aN))))) (.nm 6) inB)
theorem lst3 : lstO [.int (-1), .int 0, .int 1] = .ok (.ol (dI three)) := by
  unfold lstO; rw [if_pos (sizeLine_le (by show 3 ≤ _; decide))]; rfl
theorem items3 : itemsO (.lst (dI three)) = some (dI three) := rfl
theorem inner_eq {sq : Bool} {r c : Nat} (h3 : 1 ≤ c) (h4 : c ≤ 8) (i d : Int) (acc : List Int) (hl : acc.length ≤ 100) (o6 o7 : SV) : ∃ o6' o7', gBody [.dat (encBrd (.grid sq r c)), .dat (.int i), .dat (.int (i / (c : Int))), .dat (.int (i % (c : Int))), .ol (dI acc), .dat (.int d), o6, o7, .un] =
    .ok .nx [.dat (encBrd (.grid sq r c)), .dat (.int i), .dat (.int (i / (c : Int))), .dat (.int (i % (c : Int))), .ol (dI (acc ++ (three.filter fun q => isN3 r c sq i d q).map fun q => stTo c i (d, q))), .dat (.int d), o6', o7', .un] := by
  refine ⟨oI (three.getLast?), .dat (.bl (nearS sq d 1)), ?_⟩
  unfold gBody
  have ns := fun s1 s2 s3 s4 q s7 s8 => near_sem (.grid sq r c) rfl d q s1 s2 s3 s4 s7 s8
  simp only [show (Brd.grid sq r c).isSq = sq from rfl] at ns
  rw [rk_sFor]
  simp only [rk_iAny, rk_cLst, rk_cA, rk_aC, rk_c1, rk_cC, rk_l1, rk_aN, rk_bok, rk_bd, rk_td, rk_os, rk_ok, rk_neg, rk_pr, rk_ds, rk_ds0, rk_lok, okd, rk_tol, Option.bind_some, Option.map_some, lst3, items3]
  show forL (.nm 6) inB (three.map D.int) _ = _
  rw [forL_foldP (D.int) (fun (a : List Int) o => [.dat (encBrd (.grid sq r c)), .dat (.int i), .dat (.int (i / (c : Int))), .dat (.int (i % (c : Int))), .ol (dI a), .dat (.int d), (match o with | none => o6 | some q => .dat (.int q)), (match o with | none => o7 | some q => .dat (.bl (nearS sq d q))), .un])
    (fun a q => if isN3 r c sq i d q = true then a ++ [stTo c i (d, q)] else a) (fun rest a => a.length + rest.length ≤ 200) three acc (by rfl) (by simp [three]; omega) (fun q rest a o hP => by
      have hlen : (dI a).length < 16777216 := by rw [dI_length]; simp at hP; omega
      have m1 := fun k => rk_mul k (c : Int) (.inr (by omega))
      have ap := fun x => rk_app (.int x) (dI a) hlen
      have ed : ∀ x, dI a ++ [D.int x] = dI (a ++ [x]) := fun x => by rw [dI_append]; rfl
      constructor
      · by_cases z : nearS sq d q = true
        · by_cases q1 : 0 ≤ i / (c : Int) + d
          · by_cases q2 : i / (c : Int) + d < (r : Int)
            · by_cases q3 : 0 ≤ i % (c : Int) + q
              · by_cases q4 : i % (c : Int) + q < (c : Int)
                · simp [turn, inB, ns, z, Brd.fst, Brd.snd, q1, q2, q3, q4, m1, ap, ed, isN3, stIn, stTo]
                · simp [turn, inB, ns, z, Brd.fst, Brd.snd, q1, q2, q3, q4, isN3, stIn]
              · simp [turn, inB, ns, z, Brd.fst, Brd.snd, q1, q2, q3, isN3, stIn]
            · simp [turn, inB, ns, z, Brd.fst, Brd.snd, q1, q2, isN3, stIn]
          · simp [turn, inB, ns, z, Brd.fst, Brd.snd, q1, isN3, stIn]
        · simp [turn, inB, ns, z, isN3]
      · by_cases z : isN3 r c sq i d q = true
        · rw [if_pos z]; simp at hP ⊢; omega
        · rw [if_neg z]; simp at hP ⊢; omega)]
  rw [foldl_filter]
  rfl
theorem beside_grid {sq : Bool} {r c : Nat} (h3 : 1 ≤ c) (h4 : c ≤ 8) (i : Int) : ∀ (ds acc : List Int) (o5 o6 o7 : SV), acc.length + 3 * ds.length ≤ 100 → ∃ o5' o6' o7', forL (.nm 5) gBody (ds.map D.int) [.dat (encBrd (.grid sq r c)), .dat (.int i), .dat (.int (i / (c : Int))), .dat (.int (i % (c : Int))), .ol (dI acc), o5, o6, o7, .un] =
    .ok .nx [.dat (encBrd (.grid sq r c)), .dat (.int i), .dat (.int (i / (c : Int))), .dat (.int (i % (c : Int))), .ol (dI (acc ++ ds.flatMap fun d => (three.filter fun q => isN3 r c sq i d q).map fun q => stTo c i (d, q))), o5', o6', o7', .un]
  | [], acc, o5, o6, o7, _ => ⟨o5, o6, o7, by simp⟩
  | d :: ds, acc, o5, o6, o7, hl => by
    obtain ⟨o6', o7', e⟩ := inner_eq (sq := sq) (r := r) h3 h4 i d acc (by simp at hl; omega) o6 o7
    have hl2 := List.length_filter_le (fun q => isN3 r c sq i d q) three
    have hl3 : three.length = 3 := rfl
    obtain ⟨o5'', o6'', o7'', e'⟩ := beside_grid h3 h4 i ds (acc ++ (three.filter fun q => isN3 r c sq i d q).map fun q => stTo c i (d, q)) (.dat (.int d)) o6' o7' (by simp at hl ⊢; omega)
    refine ⟨o5'', o6'', o7'', ?_⟩
    rw [List.map_cons, forL_turn]
    have t : turn (.nm 5) gBody (.int d) [.dat (encBrd (.grid sq r c)), .dat (.int i), .dat (.int (i / (c : Int))), .dat (.int (i % (c : Int))), .ol (dI acc), o5, o6, o7, .un] = gBody [.dat (encBrd (.grid sq r c)), .dat (.int i), .dat (.int (i / (c : Int))), .dat (.int (i % (c : Int))), .ol (dI acc), .dat (.int d), o6, o7, .un] := rfl
    rw [t, e]
    show forL _ _ _ _ = _
    rw [e', List.flatMap_cons, List.append_assoc]
theorem law_beside_eq {B : Brd} (h : BrdOk B) (i : Int) : g__law_beside [encBrd B, .int i] = .ok (.ol (dI (bes B i))) := by
  unfold g__law_beside
  cases h with
  | grid sq r c h1 h2 h3 h4 =>
    have em : m__law_beside = (sSeq (sIf (tL (c2 oEq (cIx (cV 0) (cC (.int 0))) (cC (.str "web")))) (sRet (cA sortedB (aC (cLc (iAny (cIx (cV 0) (cC (.int 2)))) (.nm 8) (tL (c2 oIn (cV 1) (cV 8))) (c2 oSub (c2 oAdd (cIx (cV 8) (cC (.int 0))) (cIx (cV 8) (cC (.int 1)))) (cV 1)) [8]) aN))) sNil) (sSeq (sPar [2, 3] (aC (c2 oFdiv (cV 1) (cIx (cV 0) (cC (.int 2)))) (aC (c2 oSub (cV 1) (c2 (l2 mul2O) (c2 oFdiv (cV 1) (cIx (cV 0) (cC (.int 2)))) (cIx (cV 0) (cC (.int 2))))) aN))) (sSeq (sSet 4 (cLst aN)) (sSeq (sFor (iAny (cLst (aC (c1 (l1 negO) (cC (.int 1))) (aC (cC (.int 0)) (aC (cC (.int 1)) aN))))) (.nm 5) gBody) (sRet (lend 4 (cA sortedB (aC (cV 4) aN)))))))) := rfl
    have m1 := fun k => rk_mul k (c : Int) (.inr (by omega))
    have d1 := fun k => rk_fdiv k (c : Int) (by omega) (by omega)
    have ec : i - i / (c : Int) * (c : Int) = i % (c : Int) := by rw [Int.emod_def, Int.mul_comm]
    obtain ⟨o5, o6, o7, e⟩ := beside_grid (sq := sq) (r := r) h3 h4 i three [] .un .un .un (by decide)
    have fm : (three.flatMap fun d => (three.filter fun q => isN3 r c sq i d q).map fun q => stTo c i (d, q)) = ((stepsOf sq).filter (stIn r c i)).map (stTo c i) := by
      rw [← grid_perm]
      simp only [nine, List.filter_flatMap, List.map_flatMap, List.filter_map, List.map_map, Function.comp_def]
    rw [List.nil_append, fm] at e
    have e : forL (.nm 5) gBody (dI three) _ = _ := e
    simp only [show dI ([] : List Int) = [] from rfl] at e
    rw [em]
    simp [Brd.isWeb, Brd.snd, d1, m1, ec, lst3, items3, e, flats_dI, sortedL, bes]
  | web n ts h1 h2 T =>
    unfold m__law_beside
    have hl : ts.length ≤ 16777216 := by have := T.few; omega
    have e1 : itemsO (tiesD ts) = some (ts.map p2D) := rfl
    simp [Brd.isWeb, Brd.snd]
    rw [cLc_intsF ts p2D (has2 i) (fun t => t.1 + t.2 - i) (by simp [Brd.snd, e1]) hl (fun t ht => by simp [lcStep, in_p2]) (by simp)]
    simp [sortedL, bes]
    congr 1
    exact srtI_uniq ((srtI_perm _).trans (web_perm (fun t ht => (T.rng t ht).2.1) i)) (srtI_pair _)
end Wk

-- Lb5
namespace Wk
open PySem PySem.Spec PyProof.Rows L2 Dv Hm
/-! ### lists drawn -/
theorem lcL_draw {pt : Pt} {mt : MT} {me : ME} {vs : List Nat} (J : SV → Ep) {α β : Type} (en : α → D) (key : β → α) (eb : β → D) : ∀ (xs : List α) (acc : List D) (s : SV), Pot s →
    (∀ x ∈ xs, ∀ s, Pot s → ∃ (s' : SV) (o : Option β), Pot s' ∧ (∀ b, o = some b → key b = x) ∧ lcStep pt mt me vs (en x) (J s) = .ok (o.map eb) (J s')) →
    ∃ (s' : SV) (ys : List β), Pot s' ∧ (ys.map key).Sublist xs ∧ lcL pt mt me vs (xs.map en) acc (J s) = .ok (acc ++ ys.map eb) (J s')
  | [], acc, s, hs, _ => ⟨s, [], hs, List.Sublist.refl _, by simp [lcL]⟩
  | x :: r, acc, s, hs, h => by
    obtain ⟨s1, o, p1, hk, e1⟩ := h x List.mem_cons_self s hs
    cases o with
    | none =>
      obtain ⟨s', ys, p', hy, e'⟩ := lcL_draw J en key eb r acc s1 p1 fun x hx => h x (List.mem_cons_of_mem _ hx)
      refine ⟨s', ys, p', hy.cons _, ?_⟩
      rw [List.map_cons, lcL_step, e1]
      exact e'
    | some b =>
      obtain ⟨s', ys, p', hy, e'⟩ := lcL_draw J en key eb r (acc ++ [eb b]) s1 p1 fun x hx => h x (List.mem_cons_of_mem _ hx)
      refine ⟨s', b :: ys, p', ?_, ?_⟩
      · rw [List.map_cons, hk b rfl]; exact hy.cons₂ _
      · rw [List.map_cons, lcL_step, e1]
        show lcL pt mt me vs (r.map en) (acc ++ [eb b]) (J s1) = _
        rw [e', List.map_cons, List.append_assoc]; rfl
theorem cLc_draw {mi : MI} {pt : Pt} {mt : MT} {me : ME} {vs : List Nat} {ε : Ep} (J Jw : SV → Ep) {s : SV} (hs : Pot s) {α β : Type} (en : α → D) (key : β → α) (eb : β → D) (xs : List α) (e0 : ε = J s) (e : mi ε = .ok (xs.map en) ε) (hl : xs.length ≤ 16777216)
    (hw : wipE ε vs = Jw s)
    (h : ∀ x ∈ xs, ∀ s, Pot s → ∃ (s' : SV) (o : Option β), Pot s' ∧ (∀ b, o = some b → key b = x) ∧ lcStep pt mt me vs (en x) (Jw s) = .ok (o.map eb) (Jw s'))
    (hr : ∀ s', resE ε vs (Jw s') = J s') : ∃ (s' : SV) (ys : List β), Pot s' ∧ (ys.map key).Sublist xs ∧ cLc mi pt mt me vs ε = .ok (.ol (ys.map eb)) (J s') := by
  obtain ⟨s', ys, p', hy, e'⟩ := lcL_draw Jw en key eb xs [] s hs h
  refine ⟨s', ys, p', hy, ?_⟩
  unfold cLc
  rw [bd_ok e]
  rw [if_pos (by rw [List.length_map]; exact Nat.ble_eq_true_of_le hl)]
  rw [hw, e']
  show Rs.ok (SV.ol ([] ++ ys.map eb)) (resE ε vs (Jw s')) = _
  rw [hr, List.nil_append]
/-! ### signs -/
theorem hash_eq : ("#" : Str) = sT [35] := by rfl
theorem star_eq : ("*" : Str) = sT [42] := by rfl
theorem empty_eq : ("" : Str) = sT [] := by rfl
theorem str_dig {n : Nat} (h : n ≤ 9) : strO [.int (n : Nat)] = okd (.str (sT [48 + n])) := by
  match n, h with
  | 0, _ => rfl
  | 1, _ => rfl
  | 2, _ => rfl
  | 3, _ => rfl
  | 4, _ => rfl
  | 5, _ => rfl
  | 6, _ => rfl
  | 7, _ => rfl
  | 8, _ => rfl
  | 9, _ => rfl
theorem sT_app (a b : List Nat) : sT a ++ sT b = sT (a ++ b) := by
  show (⟨a.toArray ++ b.toArray⟩ : Str) = ⟨(a ++ b).toArray⟩
  simp
theorem addS (a b : List Nat) (h : a.length + b.length ≤ 1000000) : oAdd (.dat (.str (sT a))) (.dat (.str (sT b))) = okd (.str (sT (a ++ b))) := by
  show addO (.str (sT a)) (.str (sT b)) = _
  show (if lenOk ((sT a).length + (sT b).length) = true then _ else _) = _
  rw [if_pos (show lenOk ((sT a).length + (sT b).length) = true from Nat.ble_eq_true_of_le (by rw [sT_len, sT_len]; omega)), sT_app]
theorem filter_two (ts : List (Int × Int)) (i : Int) : (ts.filter fun t => decide (t.1 = i)).length + (ts.filter fun t => decide (t.2 = i)).length = (ts.map (·.1) ++ ts.map (·.2)).count i := by
  induction ts with
  | nil => rfl
  | cons a r ih =>
    rw [List.count_append] at ih ⊢
    simp only [List.map_cons, List.count_cons, List.filter_cons, beq_iff_eq, decide_eq_true_eq]
    split <;> split <;> (try simp only [List.length_cons]) <;> omega
theorem bes_len9 {B : Brd} (h : BrdOk B) {i : Nat} (hi : i < B.size) : (bes B (i : Nat)).length ≤ 9 := by
  cases h with
  | grid sq r c g1 g2 g3 g4 =>
    show (srtI (((stepsOf sq).filter (stIn r c (i : Nat))).map (stTo c (i : Nat)))).length ≤ 9
    rw [srtI_len, List.length_map]
    have := List.length_filter_le (stIn r c (i : Nat)) (stepsOf sq)
    have hl : (stepsOf sq).length ≤ 8 := by cases sq <;> decide
    omega
  | web n ts g1 g2 T =>
    show (srtI (((ts.filter fun t => decide (t.1 = (i : Int))).map (·.2)) ++ ((ts.filter fun t => decide (t.2 = (i : Int))).map (·.1)))).length ≤ 9
    rw [srtI_len, List.length_append, List.length_map, List.length_map, filter_two]
    exact T.deg i hi
def sgN (B : Brd) (M O : List Int) (i : Nat) : Nat := if (i : Int) ∈ O then (if (i : Int) ∈ M then 42 else 48 + ((bes B (i : Nat)).filter fun x => decide (x ∈ M)).length) else 35
theorem numbered_eq {B : Brd} (h : BrdOk B) (M O : List Int) : g__law_numbered [encBrd B, .lst (dI M), .lst (dI O)] = okd (.str (sT ((List.range B.size).map (sgN B M O)))) := by
  have hs := h.size_le
  unfold g__law_numbered m__law_numbered
  have rg := rg_ok (n := B.size) (by omega)
  simp [law_size_eq B h.fst_le, rg]
  rw [forL_range (I := fun i => [.dat (encBrd B), .dat (.lst (dI M)), .dat (.lst (dI O)), .dat (.str (sT ((List.range i).map (sgN B M O)))), (match i with | 0 => .un | i + 1 => .dat (.int (i : Nat))), (match i with | 0 => .un | i + 1 => .dat (.int (((bes B (i : Nat)).filter fun x => decide (x ∈ M)).length : Nat))), .un]) (by rfl) (fun i hi => by
    have hl := List.length_filter_le (fun x => decide (x ∈ M)) (bes B (i : Nat))
    have h9 := bes_len9 h hi
    have ad := fun v => addS ((List.range i).map (sgN B M O)) [v] (by simp; omega)
    have er : ∀ v, (List.range i).map (sgN B M O) ++ [v] = (List.range i).map (sgN B M O) ++ [v] := fun _ => rfl
    have st := str_dig (n := ((bes B (i : Nat)).filter fun x => decide (x ∈ M)).length) (by omega)
    have eS : (List.range (i + 1)).map (sgN B M O) = (List.range i).map (sgN B M O) ++ [sgN B M O i] := by rw [List.range_succ, List.map_append]; rfl
    simp only [turn, rk_bd, rk_bindN, rk_sSeq, rk_sSet, rk_cA, rk_aC]
    simp
    rw [cLc_ints (bes B (i : Nat)) (fun x => decide (x ∈ M)) (by simp [law_beside_eq h, itemsO]) (by omega) (fun a ha => by simp [lcStep, rk_inL]) (by simp)]
    rw [eS]
    by_cases q1 : (i : Int) ∈ O
    · by_cases q2 : (i : Int) ∈ M
      · simp [rk_ninL, rk_inL, q1, q2, star_eq, ad, sgN, dI_length]
      · simp [rk_ninL, rk_inL, q1, q2, st, ad, sgN, dI_length]
    · simp [rk_ninL, rk_inL, q1, hash_eq, ad, sgN, dI_length])]
  simp
end Wk

-- Lb6
namespace Wk
open PySem PySem.Spec PyProof.Rows L2 Dv Hm
theorem cutS_to (l : List Nat) (k : Nat) : cutS (sT l) none (some (k : Int)) = sT (l.take k) := by
  unfold cutS
  rw [HT.sIx_nat, HT.sIx_none, sT_len]
  unfold sT
  simp
theorem cutS_from (l : List Nat) (k : Nat) : cutS (sT l) (some (k : Int)) none = sT (l.drop k) := by
  unfold cutS
  rw [HT.sIx_nat, HT.sIx_none, sT_len]
  unfold sT
  congr 2
  rw [List.take_of_length_le (by simp)]
  rcases Nat.le_total k l.length with h | h
  · rw [Nat.min_eq_left h]
  · rw [Nat.min_eq_right h, List.drop_eq_nil_of_le h, List.drop_eq_nil_of_le (Nat.le_refl _)]
def rngI (n : Nat) : List Int := (List.range n).map fun (i : Nat) => (i : Int)
theorem rngI_len (n : Nat) : (rngI n).length = n := by unfold rngI; simp
theorem rngI_nodup (n : Nat) : (rngI n).Nodup := by
  unfold rngI
  exact List.Pairwise.map _ (fun a b h e => h (by omega)) List.nodup_range
theorem rngI_asc (n : Nat) : (rngI n).Pairwise (· < ·) := by
  unfold rngI
  exact List.Pairwise.map _ (fun a b h => by omega) List.pairwise_lt_range
theorem mem_rngI {n : Nat} {x : Int} : x ∈ rngI n ↔ 0 ≤ x ∧ x < n := by
  unfold rngI
  simp only [List.mem_map, List.mem_range]
  constructor
  · rintro ⟨a, h, rfl⟩; omega
  · intro h; exact ⟨x.toNat, by omega, by omega⟩
theorem tupRg0 (f : List D → Ot SV) {n : Nat} (h : n ≤ 1000) : tupRgO f (.int 0) (.int (n : Nat)) = f (dI (rngI n)) := by
  have h0 : okRg 0 (n : Nat) = true := by unfold okRg; simp; omega
  show (if okRg 0 (n : Nat) = true then f (rgD 0 ((n : Int) - 0).toNat) else .stuck) = _
  rw [if_pos h0]
  congr 1
  have : ((n : Int) - 0).toNat = n := by omega
  rw [this]
  unfold rgD dI rngI
  rw [List.map_map]
  simp
@[simp] theorem rk_cRg1 (f : List D → Ot SV) (b : ME) (ε : Ep) : cRg1 f b ε = (b ε).bd fun q => bd (lft (ofO q.toD)) fun d' => lft (tupRgO f (.int 0) d') := rfl
theorem left_len {C O : List Int} (hC : C.Nodup) (hO : O.Nodup) (hs : ∀ o ∈ O, o ∈ C) : (C.filter fun x => !decide (x ∈ O)).length + O.length = C.length := by
  have p : O.Perm (C.filter fun x => decide (x ∈ O)) := by
    refine (List.perm_ext_iff_of_nodup hO (hC.filter _)).mpr fun x => ?_
    simp only [List.mem_filter, decide_eq_true_eq]
    exact ⟨fun h => ⟨hs x h, h⟩, fun h => h.2⟩
  rw [p.length_eq, ← List.countP_eq_length_filter, ← List.countP_eq_length_filter]
  have := List.length_eq_countP_add_countP (fun x => decide (x ∈ O)) (l := C)
  simp only [decide_not] at this ⊢
  simp at this ⊢
  omega
theorem whL_step (t : MT) (body : MS) (n : Nat) (ε : Ep) : whL t body (n + 1) ε = (t ε).bd fun b => match b with
    | false => pr .nx
    | true => bd body fun f => match f with
      | .nx => whL t body n
      | .ct => whL t body n
      | .bk => pr .nx
      | .rt v => pr (.rt v) := rfl
def wT : MT := (tL (c2 oGtA (c2 oSub (cA lenO (aC (cV 4) aN)) (lend 6 (cA lenO (aC (cV 6) aN)))) (cV 2)))
noncomputable def wB : MS := (sExp (cApp (.s 6) (cIx (lend 6 (cLc (iAny (cV 4)) (.nm 9) (tL (c2 oNin (cV 9) (cV 6))) (cV 9) [9])) (cCallM 0 g__law_draw (aC (c2 oSub (cA lenO (aC (cV 4) aN)) (lend 6 (cA lenO (aC (cV 6) aN)))) aN) []))))
theorem open_loop {n : Nat} (hn : n ≤ 64) (b s3 s5 : SV) : ∀ (k : Nat) (O : List Int) (s : SV), Pot s → O.Nodup → (∀ o ∈ O, o ∈ rngI n) → n ≤ O.length + 9 + k →
    ∃ (s' : SV) (O' : List Int), Pot s' ∧ O'.Nodup ∧ (∀ o ∈ O', o ∈ rngI n) ∧ n ≤ O'.length + 9 ∧
      whL wT wB (k + 1) [s, b, .dat (.int 9), s3, .dat (.lst (dI (rngI n))), s5, .ol (dI O), .un, .un, .un] = .ok .nx [s', b, .dat (.int 9), s3, .dat (.lst (dI (rngI n))), s5, .ol (dI O'), .un, .un, .un] := by
  intro k
  induction k with
  | zero =>
    intro O s hs hO hs2 hk
    refine ⟨s, O, hs, hO, hs2, by omega, ?_⟩
    have z : ¬ (9 : Int) < (n : Int) - (O.length : Int) := by omega
    rw [whL_step]
    simp [wT, dI_length, rngI_len, z]
  | succ k ih =>
    intro O s hs hO hs2 hk
    by_cases z : (9 : Int) < (n : Int) - (O.length : Int)
    · have ll := left_len (rngI_nodup n) hO hs2
      rw [rngI_len] at ll
      obtain ⟨d, s1, e1, p1, l1⟩ := drawN hs (m := (n : Int) - (O.length : Int)) (by omega) (by omega)
      have hd : d < ((rngI n).filter fun x => !decide (x ∈ O)).length := by omega
      obtain ⟨x, hx⟩ : ∃ x, x = ((rngI n).filter fun x => !decide (x ∈ O))[d] := ⟨_, rfl⟩
      have hxm : x ∈ (rngI n).filter fun x => !decide (x ∈ O) := by rw [hx]; exact List.getElem_mem _
      obtain ⟨hx1, hx2⟩ := List.mem_filter.mp hxm
      have hx2 : x ∉ O := by simpa using hx2
      have hat : atI (dI ((rngI n).filter fun x => !decide (x ∈ O))) ((d : Nat) : Int) = some (.int x) := by
        rw [atI_dI, Dv.atI_nat, List.getElem?_eq_getElem hd, ← hx]; rfl
      have dc : ∀ s, (cLc (iAny (cV 4)) (.nm 9) (tL (c2 oNin (cV 9) (cV 6))) (cV 9) [9]) [s, b, .dat (.int 9), s3, .dat (.lst (dI (rngI n))), s5, .dat (.lst (dI O)), .un, .un, .un] = .ok (.ol (dI ((rngI n).filter fun x => !decide (x ∈ O)))) [s, b, .dat (.int 9), s3, .dat (.lst (dI (rngI n))), s5, .dat (.lst (dI O)), .un, .un, .un] := fun s => by
        rw [cLc_ints (rngI n) (fun x => !decide (x ∈ O)) (by simp [itemsO]) (by rw [rngI_len]; omega) (fun a ha => by simp [lcStep, rk_ninL]) (by simp)]
      have ap := rk_app (.int x) (dI O) (by rw [dI_length]; omega)
      have ed : dI O ++ [D.int x] = dI (O ++ [x]) := by rw [dI_append]; rfl
      rw [ed] at ap
      have eb : wB [s, b, .dat (.int 9), s3, .dat (.lst (dI (rngI n))), s5, .ol (dI O), .un, .un, .un] = .ok .nx [s1, b, .dat (.int 9), s3, .dat (.lst (dI (rngI n))), s5, .ol (dI (O ++ [x])), .un, .un, .un] := by
        unfold wB
        simp [dc, flats_dI, hs.own, dI_length, rngI_len, e1, hat, ap]
      have et : wT [s, b, .dat (.int 9), s3, .dat (.lst (dI (rngI n))), s5, .ol (dI O), .un, .un, .un] = .ok true [s, b, .dat (.int 9), s3, .dat (.lst (dI (rngI n))), s5, .ol (dI O), .un, .un, .un] := by
        unfold wT
        simp [dI_length, rngI_len, z]
      obtain ⟨s', O', p', h1, h2, h3, e'⟩ := ih (O ++ [x]) s1 p1 (List.nodup_append.mpr ⟨hO, by simp, fun a ha c hc e => by
        have : c = x := by simpa using hc
        subst this; subst e; exact hx2 ha⟩) (fun o ho => by
        rcases List.mem_append.mp ho with q | q
        · exact hs2 o q
        · have : o = x := by simpa using q
          rw [this]; exact hx1) (by simp; omega)
      refine ⟨s', O', p', h1, h2, h3, ?_⟩
      rw [whL_step, et]
      show (wB _).bd _ = _
      rw [eb]
      exact e'
    · refine ⟨s, O, hs, hO, hs2, by omega, ?_⟩
      rw [whL_step]
      simp [wT, dI_length, rngI_len, z]
end Wk

-- Lb7
namespace Wk
open PySem PySem.Spec PyProof.Rows L2 Dv Hm
theorem posOf_cnt (l : List Nat) (q : Nat → Bool) : (posOf l q).length = l.countP q := by
  have : ∀ (l : List Nat) (k : Nat), ((l.zipIdx k).filter fun p => q p.1).length = l.countP q := by
    intro l
    induction l with
    | nil => intro k; rfl
    | cons a r ih =>
      intro k
      rw [List.zipIdx_cons, List.filter_cons, List.countP_cons]
      cases h : q a <;> simp [ih]
  unfold posOf
  rw [List.length_map]
  exact this l 0
def sgL (B : Brd) (M O : List Int) : List Nat := (List.range B.size).map (sgN B M O)
theorem sgL_len (B : Brd) (M O : List Int) : (sgL B M O).length = B.size := by unfold sgL; simp
theorem sgL_ok {B : Brd} (h : BrdOk B) (M O : List Int) : ∀ c ∈ sgL B M O, okSg c = true := by
  intro c hc
  obtain ⟨i, hi, rfl⟩ := List.mem_map.mp hc
  have hi := List.mem_range.mp hi
  have h9 := bes_len9 h hi
  have hl := List.length_filter_le (fun x => decide (x ∈ M)) (bes B (i : Nat))
  unfold sgN
  split
  · split
    · rfl
    · unfold okSg
      have h1 : Nat.ble 48 (48 + ((bes B (i : Nat)).filter fun x => decide (x ∈ M)).length) = true := Nat.ble_eq_true_of_le (by omega)
      have h2 : Nat.ble (48 + ((bes B (i : Nat)).filter fun x => decide (x ∈ M)).length) 57 = true := Nat.ble_eq_true_of_le (by omega)
      rw [h1, h2]; simp
  · rfl
theorem sgL_cov {B : Brd} (h : BrdOk B) (M : List Int) {O : List Int} (hO : O.Nodup) (hs : ∀ o ∈ O, o ∈ rngI B.size) (hk : B.size ≤ O.length + 9) : (sgL B M O).countP (· == 35) ≤ 9 := by
  have ll := left_len (rngI_nodup B.size) hO hs
  rw [rngI_len, ← List.countP_eq_length_filter] at ll
  have e : (sgL B M O).countP (· == 35) = (rngI B.size).countP fun x => !decide (x ∈ O) := by
    unfold sgL rngI
    rw [List.countP_map, List.countP_map]
    apply List.countP_congr
    intro i hi
    simp only [Function.comp]
    unfold sgN
    by_cases q : (i : Int) ∈ O
    · by_cases q2 : (i : Int) ∈ M
      · simp [q, q2]
      · simp [q, q2]; omega
    · simp [q]
  omega
theorem okF {B : Brd} (h : BrdOk B) (h16 : B.size ≤ 16) {sg : List Nat} (hl : sg.length = B.size) (hs : ∀ c ∈ sg, okSg c = true) {t : Option Int} (ht : ∀ x, t = some x → 0 ≤ x) (hc : sg.countP (· == 35) ≤ 9) : WF ⟨B, sg, t⟩ ∧ (cellsF ⟨B, sg, t⟩).length ≤ 9 := by
  refine ⟨⟨h, hs, hl, ?_, ht⟩, ?_⟩
  · have := List.length_filter_le isDg sg
    show (sg.filter isDg).length < 64
    omega
  · unfold cellsF
    rw [posOf_cnt]; exact hc
theorem encT_none : encT none = .non := rfl
theorem encT_some (t : Int) : encT (some t) = .int t := rfl
theorem five_ok (i : Nat) (h : i < 5) : ∃ v : Nat, v ≠ 35 ∧ okSg v = true ∧ ([D.str "0", D.str "1", D.str "2", D.str "3", D.str "*"] : List D)[i]? = some (.str (sT [v])) := by
  match i, h with
  | 0, _ => exact ⟨48, by decide, rfl, rfl⟩
  | 1, _ => exact ⟨49, by decide, rfl, rfl⟩
  | 2, _ => exact ⟨50, by decide, rfl, rfl⟩
  | 3, _ => exact ⟨51, by decide, rfl, rfl⟩
  | 4, _ => exact ⟨42, by decide, rfl, rfl⟩
theorem lstO5 (a b c d e : D) : lstO [a, b, c, d, e] = .ok (.ol [a, b, c, d, e]) := by unfold lstO; rw [if_pos (sizeLine_le (by show 5 ≤ _; decide))]
noncomputable def rB : MS := (sSeq (sIf (tAn (tNt (tB (cV 3))) (lendT 6 (tL (c2 oNe (cV 6) (cLst aN))))) (sSeq (sSet 9 (cFz (cCallM 0 g__law_pick (aC (cVF 6) aN) []))) (sSeq (sSet 7 (c2 oAdd (c2 oAdd (cSl (cV 7) oN (oS (cV 9))) (cCallM 0 g__law_pick (aC (cLst (aC (cC (.str "0")) (aC (cC (.str "1")) (aC (cC (.str "2")) (aC (cC (.str "3")) (aC (cC (.str "*")) aN)))))) aN) [])) (cSl (cV 7) (oS (c2 oAdd (cV 9) (cC (.int 1)))) oN))) (sSet 8 (cFz (cIf (tOo (tL (c2 oIsN (cV 8) (cC .non))) (tL (c2 oEq (cCallM 0 g__law_draw (aC (cC (.int 2)) aN) []) (cC (.int 0))))) (cV 8) (cCallM 0 g__law_draw (aC (c2 oAdd (cA lenO (aC (cV 4) aN)) (cC (.int 2))) aN) [])))))) sNil) (sRet (cTup (aC (cC (.str "field")) (aC (cV 1) (aC (cV 7) (aC (cV 8) aN)))))))
theorem set_cov {sg : List Nat} {c v : Nat} (hv : v ≠ 35) (h : sg.countP (· == 35) ≤ 9) : (sg.take c ++ [v] ++ sg.drop (c + 1)).countP (· == 35) ≤ 9 := by
  have e1 : (sg.take c).countP (· == 35) + (sg.drop c).countP (· == 35) = sg.countP (· == 35) := by
    rw [← List.countP_append, List.take_append_drop]
  have e2 : (sg.drop (c + 1)).countP (· == 35) ≤ (sg.drop c).countP (· == 35) := by
    rw [← List.drop_drop]
    exact (List.drop_sublist _ _).countP_le
  rw [List.countP_append, List.countP_append]
  have e3 : [v].countP (· == 35) = 0 := by simp [hv]
  omega
theorem set_ok {sg : List Nat} {c v : Nat} (hv : okSg v = true) (h : ∀ x ∈ sg, okSg x = true) : ∀ x ∈ sg.take c ++ [v] ++ sg.drop (c + 1), okSg x = true := by
  intro x hx
  rcases List.mem_append.mp hx with hx | hx
  · rcases List.mem_append.mp hx with hx | hx
    · exact h x (List.mem_of_mem_take hx)
    · have : x = v := by simpa using hx
      rw [this]; exact hv
  · exact h x (List.mem_of_mem_drop hx)
theorem rest_eq {s : SV} (hs : Pot s) {B : Brd} (hB : BrdOk B) (h16 : B.size ≤ 16) (t : Bool) {n : Nat} (hn : n = B.size) {M O : List Int} (hO : ∀ o ∈ O, o ∈ rngI n) (lO : O.length ≤ n) {sg : List Nat} (hsl : sg.length = n) (hsk : ∀ c ∈ sg, okSg c = true) (hc : sg.countP (· == 35) ≤ 9) {T : Option Int} (hT : ∀ x, T = some x → 0 ≤ x) (hT6 : ∀ x, T = some x → x ≤ 600) :
    ∃ (s5 : SV) (F : Fd) (l : Ep), rB [s, .dat (encBrd B), .dat (.int 9), .dat (.bl t), .dat (.lst (dI (rngI n))), .dat (.lst (dI M)), .dat (.lst (dI O)), .dat (.str (sT sg)), .dat (encT T), .un] = .ok (.rt (.dat (encF F))) (s5 :: l) ∧ Pot s5 ∧ WF F ∧ (cellsF F).length ≤ 9 ∧ F.bd.size ≤ 16 ∧ (∀ x, F.tot = some x → x ≤ 600) := by
  have base := okF hB h16 (by rw [hsl, hn]) hsk hT hc
  unfold rB
  cases t with
  | true => exact ⟨s, ⟨B, sg, T⟩, _, by simp [encF] <;> rfl, hs, base.1, base.2, h16, hT6⟩
  | false =>
    by_cases z : O = []
    · subst z
      refine ⟨s, ⟨B, sg, T⟩, ?_⟩
      refine ⟨_, by simp [rk_neL0, encF, show dI ([] : List Int) = [] from rfl] <;> rfl, hs, base.1, base.2, h16, hT6⟩
    · have hl0 : 0 < (dI O).length := by rw [dI_length]; exact List.length_pos_iff.mpr z
      obtain ⟨i, s1, hi, e1, p1⟩ := pickN hs (dI O) hl0 (by rw [dI_length]; omega)
      have hi' : i < O.length := by rw [dI_length] at hi; exact hi
      have hm := mem_rngI.mp (hO _ (List.getElem_mem hi'))
      obtain ⟨k, hk⟩ : ∃ k : Nat, O[i] = (k : Int) := ⟨O[i].toNat, by omega⟩
      have ek : (dI O)[i] = .int (k : Nat) := by rw [← hk]; exact List.getElem_map D.int
      rw [ek] at e1
      obtain ⟨i2, s2, hi2, e2, p2⟩ := pickN p1 [D.str "0", D.str "1", D.str "2", D.str "3", D.str "*"] (by decide) (by decide)
      obtain ⟨v, hv, hvo, ev⟩ := five_ok i2 hi2
      rw [List.getElem?_eq_getElem hi2] at ev
      have ev := Option.some.inj ev
      rw [ev] at e2
      obtain ⟨K1, hK1⟩ : ∃ K1 : Nat, (k : Int) + 1 = (K1 : Int) := ⟨k + 1, by omega⟩
      have eK : K1 = k + 1 := by omega
      have c1 := cutS_to sg k
      have c2 := cutS_from sg K1
      have slS : ∀ (lo hi : Option Int) (z : Str), slO lo hi (.str z) = okd (.str (cutS z lo hi)) := fun _ _ _ => rfl
      have a1 := addS (sg.take k) [v] (by simp; omega)
      have a2 := addS (sg.take k ++ [v]) (sg.drop K1) (by simp; omega)
      have l5 := lstO5 (D.str "0") (D.str "1") (D.str "2") (D.str "3") (D.str "*")
      have len : (sg.take k ++ [v] ++ sg.drop K1).length = B.size := by
        rw [eK]; simp; omega
      have sok := set_ok (c := k) hvo hsk
      have scv := set_cov (c := k) hv hc
      rw [← eK] at sok scv
      have hne : ¬ dI O = [] := fun e => by rw [e] at hl0; exact absurd hl0 (by decide)
      cases T with
      | none =>
        have fin := okF hB h16 len sok (t := none) (by simp) scv
        exact ⟨s2, ⟨B, sg.take k ++ [v] ++ sg.drop K1, none⟩, _, by simp [rk_neL0, z, hs.own, p1.own, e1, e2, hK1, slS, c1, c2, a1, a2, l5, encT_none, encF] <;> rfl, p2, fin.1, fin.2, h16, fun x hx => by cases hx⟩
      | some t0 =>
        obtain ⟨d3, s3, e3, p3, l3⟩ := drawN p2 (m := 2) (by decide) (by decide)
        by_cases z3 : d3 = 0
        · have fin := okF hB h16 len sok hT scv
          exact ⟨s3, ⟨B, sg.take k ++ [v] ++ sg.drop K1, some t0⟩, _, by simp [rk_neL0, z, hs.own, p1.own, p2.own, e1, e2, hK1, slS, c1, c2, a1, a2, l5, encT_some, encF, e3, z3] <;> rfl, p3, fin.1, fin.2, h16, hT6⟩
        · obtain ⟨d4, s4, e4, p4, l4⟩ := drawN p3 (m := (n : Int) + 2) (by omega) (by omega)
          have fin := okF hB h16 len sok (t := some ((d4 : Nat) : Int)) (fun x hx => by cases hx; omega) scv
          exact ⟨s4, ⟨B, sg.take k ++ [v] ++ sg.drop K1, some ((d4 : Nat) : Int)⟩, _, by simp [rk_neL0, z, hs.own, p1.own, p2.own, p3.own, e1, e2, hK1, slS, c1, c2, a1, a2, l5, encT_some, encF, e3, z3, dI_length, rngI_len, e4] <;> rfl, p4, fin.1, fin.2, h16, fun x hx => by cases hx; omega⟩
theorem field_eq {s : SV} (hs : Pot s) {B : Brd} (hB : BrdOk B) (h16 : B.size ≤ 16) (t : Bool) : ∃ (s' : SV) (F : Fd), g__law_field s [encBrd B, .int 9, .bl t] = .ok (.dat (encF F)) s' ∧ Pot s' ∧ WF F ∧ (cellsF F).length ≤ 9 ∧ F.bd.size ≤ 16 ∧ (∀ x, F.tot = some x → x ≤ 600) := by
  have em : m__law_field = (sSeq (sSet 4 (cFz (cRg1 (fun ds => .ok (.ol ds)) (cCall g__law_size (aC (cV 1) aN) [])))) (sSeq (sSet 5 (cFz (cLc (iAny (cV 4)) (.nm 9) (tL (c2 oEq (cCallM 0 g__law_draw (aC (cC (.int 4)) aN) []) (cC (.int 0)))) (cV 9) [9]))) (sSeq (sSet 6 (cLc (iAny (cV 4)) (.nm 9) (tAn (tL (c2 oGtA (cCallM 0 g__law_draw (aC (cC (.int 3)) aN) []) (cC (.int 0)))) (tOo (tL (c2 oNin (cV 9) (cV 5))) (tL (c2 oEq (cCallM 0 g__law_draw (aC (cC (.int 4)) aN) []) (cC (.int 0)))))) (cV 9) [9])) (sSeq (sWh (tL (c2 oGtA (c2 oSub (cA lenO (aC (cV 4) aN)) (lend 6 (cA lenO (aC (cV 6) aN)))) (cV 2))) (sExp (cApp (.s 6) (cIx (lend 6 (cLc (iAny (cV 4)) (.nm 9) (tL (c2 oNin (cV 9) (cV 6))) (cV 9) [9])) (cCallM 0 g__law_draw (aC (c2 oSub (cA lenO (aC (cV 4) aN)) (lend 6 (cA lenO (aC (cV 6) aN)))) aN) []))))) (sSeq (sSet 7 (cFz (cCall g__law_numbered (aC (cV 1) (aC (cV 5) (aC (cVF 6) aN))) []))) (sSeq (sSet 8 (cIf (tL (c2 oEq (cCallM 0 g__law_draw (aC (cC (.int 2)) aN) []) (cC (.int 0)))) (cA lenO (aC (cV 5) aN)) (cC .non))) rB)))))) := rfl
  unfold g__law_field
  rw [em]
  clear em
  have rg := tupRg0 (fun ds => .ok (.ol ds)) (n := B.size) (by omega)
  obtain ⟨n, hn⟩ : ∃ n, n = B.size := ⟨_, rfl⟩
  rw [← hn] at rg
  obtain ⟨s1, M, p1, hM, e1⟩ := cLc_draw (mi := iAny (cV 4)) (pt := .nm 9) (mt := (tL (c2 oEq (cCallM 0 g__law_draw (aC (cC (.int 4)) aN) []) (cC (.int 0))))) (me := cV 9) (vs := [9])
    (fun s => [s, .dat (encBrd B), .dat (.int 9), .dat (.bl t), .dat (.lst (dI (rngI n))), .un, .un, .un, .un, .un]) (fun s => [s, .dat (encBrd B), .dat (.int 9), .dat (.bl t), .dat (.lst (dI (rngI n))), .un, .un, .un, .un, .un]) hs D.int (fun x : Int => x) D.int (rngI n) rfl (by simp [itemsO, dI]) (by rw [rngI_len]; omega) (by simp) (fun x hx s hs => by
      obtain ⟨d, s', e, p, l⟩ := drawN hs (m := 4) (by decide) (by decide)
      by_cases z : d = 0
      · exact ⟨s', some x, p, fun b hb => by cases hb; rfl, by simp [lcStep, hs.own, e, z]⟩
      · exact ⟨s', none, p, (fun b hb => by cases hb), by simp [lcStep, hs.own, e, z]⟩) (fun s' => by simp)
  obtain ⟨s2, O, p2, hO, e2⟩ := cLc_draw (mi := iAny (cV 4)) (pt := .nm 9) (mt := (tAn (tL (c2 oGtA (cCallM 0 g__law_draw (aC (cC (.int 3)) aN) []) (cC (.int 0)))) (tOo (tL (c2 oNin (cV 9) (cV 5))) (tL (c2 oEq (cCallM 0 g__law_draw (aC (cC (.int 4)) aN) []) (cC (.int 0))))))) (me := cV 9) (vs := [9])
    (fun s => [s, .dat (encBrd B), .dat (.int 9), .dat (.bl t), .dat (.lst (dI (rngI n))), .dat (.lst (dI M)), .un, .un, .un, .un]) (fun s => [s, .dat (encBrd B), .dat (.int 9), .dat (.bl t), .dat (.lst (dI (rngI n))), .dat (.lst (dI M)), .un, .un, .un, .un]) p1 D.int (fun x : Int => x) D.int (rngI n) rfl (by simp [itemsO, dI]) (by rw [rngI_len]; omega) (by simp) (fun x hx s hs => by
      obtain ⟨d, s', e, p, l⟩ := drawN hs (m := 3) (by decide) (by decide)
      by_cases z : 0 < d
      · by_cases zm : x ∈ M
        · obtain ⟨d2, s'', e2, p2, l2⟩ := drawN p (m := 4) (by decide) (by decide)
          by_cases z2 : d2 = 0
          · exact ⟨s'', some x, p2, fun b hb => by cases hb; rfl, by simp [lcStep, hs.own, p.own, e, z, rk_ninL, zm, e2, z2]⟩
          · exact ⟨s'', none, p2, (fun b hb => by cases hb), by simp [lcStep, hs.own, p.own, e, z, rk_ninL, zm, e2, z2]⟩
        · exact ⟨s', some x, p, fun b hb => by cases hb; rfl, by simp [lcStep, hs.own, p.own, e, z, rk_ninL, zm]⟩
      · exact ⟨s', none, p, (fun b hb => by cases hb), by simp [lcStep, hs.own, e, z]⟩) (fun s' => by simp)
  rw [List.map_id'] at hM hO
  have eM : M.map D.int = dI M := rfl
  have eO : O.map D.int = dI O := rfl
  rw [eM] at e1
  rw [eO] at e2
  obtain ⟨s3, O', p3, hO1, hO2, hO3, e3⟩ := open_loop (n := n) (by omega) (.dat (encBrd B)) (.dat (.bl t)) (.dat (.lst (dI M))) 20 O s2 p2 ((rngI_nodup n).sublist hO) (fun o ho => hO.subset ho) (by omega)
  have e3 := sWh_eq _ e3 (by simp)
  have nu := numbered_eq hB M O'
  have hc := sgL_cov hB M hO1 (by rw [← hn]; exact hO2) (by rw [← hn]; exact hO3)
  have lM : M.length ≤ 16 := by have := hM.length_le; rw [rngI_len] at this; omega
  have lO : O'.length ≤ n := by
    have := left_len (rngI_nodup n) hO1 hO2
    rw [rngI_len] at this; omega
  obtain ⟨sg, hsg⟩ : ∃ sg, sg = sgL B M O' := ⟨_, rfl⟩
  have hsl : sg.length = n := by rw [hsg, sgL_len, hn]
  have hsk := sgL_ok hB M O'
  rw [show (List.range B.size).map (sgN B M O') = sg from hsg.symm] at nu
  rw [← hsg] at hc hsk
  obtain ⟨d4, s4, e4, p4, l4⟩ := drawN p3 (m := 2) (by decide) (by decide)
  obtain ⟨T, hT⟩ : ∃ T : Option Int, T = (if d4 = 0 then some ((M.length : Nat) : Int) else none) := ⟨_, rfl⟩
  have hT0 : ∀ x, T = some x → 0 ≤ x := by
    intro x hx; rw [hT] at hx; split at hx
    · cases hx; omega
    · cases hx
  unfold wT wB at e3
  have hT6 : ∀ x, T = some x → x ≤ 600 := by
    intro x hx; rw [hT] at hx; split at hx
    · cases hx; omega
    · cases hx
  obtain ⟨s5, F, l, er, p5, w1, w2, w3⟩ := rest_eq p4 hB h16 t hn (M := M) (O := O') hO2 lO hsl hsk hc hT0 hT6
  by_cases z : d4 = 0
  · rw [if_pos z] at hT
    rw [hT, encT_some] at er
    refine ⟨s5, F, ?_, p5, w1, w2, w3⟩
    simp [hs.own, law_size_eq B hB.fst_le, rg, ← hn, e1, e2, e3, nu, p3.own, e4, z, dI_length, er]
  · rw [if_neg z] at hT
    rw [hT, encT_none] at er
    refine ⟨s5, F, ?_, p5, w1, w2, w3⟩
    simp [hs.own, law_size_eq B hB.fst_le, rg, ← hn, e1, e2, e3, nu, p3.own, e4, z, dI_length, er]
end Wk

-- Lb8
namespace Wk
open PySem PySem.Spec PyProof.Rows L2 Dv Hm
theorem law_covered_eq {f : Fd} (h : WF f) : g__law_covered [encF f] = .ok (.ol (dI (cellsF f))) := by
  have := sg_len h
  have ec : ∀ c : Nat, oEq (.dat (.str (cT c))) (.dat (.str "#")) = okd (.bl (c == 35)) := fun c => eq_cov
  unfold g__law_covered m__law_covered
  simp
  rw [cLc_intsF f.sg.zipIdx (fun p => .tup [.int (p.2 : Nat), .str (cT p.1)]) (fun p => p.1 == 35) (fun p => ((p.2 : Nat) : Int)) (by simp [enum_sg]) (by simp; omega) (fun p hp => by simp [lcStep, ec]) (by simp)]
  simp [cellsF, posOf]
theorem int_dig {c : Nat} (h : isDg c = true) : intO [.str (cT c)] = okd (.int ((c : Int) - 48)) := by
  have hl : c ∈ [48, 49, 50, 51, 52, 53, 54, 55, 56, 57] := by
    unfold isDg at h
    simp only [Bool.and_eq_true, Nat.ble_eq] at h
    simp only [List.mem_cons, List.not_mem_nil, or_false]
    omega
  have key : ∀ c ∈ [48, 49, 50, 51, 52, 53, 54, 55, 56, 57], PySem.intText? (cT c) = some ((c : Int) - 48) := by decide +kernel
  have k1 : Nat.ble (cT c).length 640 = true := rfl
  unfold intO
  simp only [key c hl, k1, if_true]
theorem cnt_or {a b c p : Int → Bool} : ∀ (xs : List Int), (∀ x ∈ xs, p x = (a x || (b x && c x))) → (∀ x, a x = true → b x = false) → (xs.filter p).length = (xs.filter a).length + (xs.filter b).countP c
  | [], _, _ => rfl
  | x :: r, h, hd => by
    have ih := cnt_or r (fun y hy => h y (List.mem_cons_of_mem _ hy)) hd
    have e := h x List.mem_cons_self
    have hd := hd x
    rw [List.filter_cons, List.filter_cons, List.filter_cons, e]
    cases ha : a x <;> cases hb : b x <;> cases hc : c x <;> simp [ha, hb, hc, ih] at hd ⊢ <;> omega
theorem near_count {f : Fd} (h : WF f) {L : List Int} (hL : ∀ c ∈ L, c ∈ cellsF f) {i : Nat} (hi : i < f.bd.size) :
    ((bes f.bd (i : Nat)).filter fun x => decide (x ∈ posOf f.sg (· == 42) ++ L)).length = (nearF f (· == 42) (i : Nat)).length + (nearF f (· == 35) (i : Nat)).countP fun c => decide (c ∈ L) := by
  unfold nearF
  refine cnt_or _ (fun x hx => ?_) (fun x hx => ?_)
  · have hr := bes_rng h.brd (i := (i : Int)) (by omega) (by omega) x hx
    have m := mem_posOf (l := f.sg) (q := (· == 42)) (x := x)
    have hl := h.len
    rw [Bool.eq_iff_iff]
    simp only [decide_eq_true_eq, List.mem_append, Bool.or_eq_true, Bool.and_eq_true]
    constructor
    · rintro (q | q)
      · exact .inl (m.mp q).2.2
      · have := (mem_posOf (l := f.sg) (q := (· == 35)) (x := x)).mp (hL x q)
        exact .inr ⟨this.2.2, q⟩
    · rintro (q | q)
      · exact .inl (m.mpr ⟨hr.1, by omega, q⟩)
      · exact .inr q.2
  · have : sgA f.sg x = 42 := by simpa using hx
    rw [this]; rfl
def badP (f : Fd) (L : List Int) (p : Nat × Nat) : Bool := isDg p.1 && !decide (((((bes f.bd (p.2 : Nat)).filter fun x => decide (x ∈ posOf f.sg (· == 42) ++ L)).length : Nat) : Int) = (p.1 : Int) - 48)
theorem okN_bad {f : Fd} (h : WF f) {L : List Int} (hL : ∀ c ∈ L, c ∈ cellsF f) : okN (bdF f) L = !(f.sg.zipIdx.any (badP f L)) := by
  unfold okN
  show (nnF f).all _ = _
  unfold nnF dgs
  rw [List.all_map, List.all_filter, List.not_any_eq_all_not]
  rw [Bool.eq_iff_iff, List.all_eq_true, List.all_eq_true]
  refine forall_congr' fun p => forall_congr' fun hp => ?_
  have hi : p.2 < f.bd.size := by
    have := (List.getElem?_eq_some_iff.mp (zipIdx_get _ _ hp)).1
    rw [h.len] at this; exact this
  have nc := near_count h hL hi
  unfold badP
  rw [nc]
  simp only [Function.comp, entF]
  cases isDg p.1
  · simp
  · simp
    constructor
    · intro hh; have := of_decide_eq_true hh; omega
    · intro hh; exact decide_eq_true (by omega)
theorem law_fits_eq {f : Fd} (h : WF f) {L : List Int} (hL : ∀ c ∈ L, c ∈ cellsF f) (hl : L.length ≤ 100) : g__law_fits [encF f, .tup (dI L)] = okd (.bl (okN (bdF f) L && okT (bdF f) L)) := by
  have := sg_len h
  have es : ∀ c : Nat, oEq (.dat (.str (cT c))) (.dat (.str "*")) = okd (.bl (c == 42)) := fun c => eq_mine
  have ed : ∀ {c : Nat}, okSg c = true → oIn (.dat (.str (cT c))) (.dat (.str "0123456789")) = okd (.bl (isDg c)) := fun h => in_dig h
  unfold g__law_fits m__law_fits
  simp
  rw [cLc_intsF f.sg.zipIdx (fun p => .tup [.int (p.2 : Nat), .str (cT p.1)]) (fun p => p.1 == 42) (fun p => ((p.2 : Nat) : Int)) (by simp [enum_sg]) (by simp; omega) (fun p hp => by simp [lcStep, es]) (by simp)]
  rw [show (f.sg.zipIdx.filter fun p => p.1 == 42).map (fun p => ((p.2 : Nat) : Int)) = posOf f.sg (· == 42) from rfl]
  have lk := posOf_len f.sg (· == 42)
  obtain ⟨K, hK⟩ : ∃ K, K = posOf f.sg (· == 42) := ⟨_, rfl⟩
  rw [← hK] at lk ⊢
  have ad := addO_dI K L (by omega)
  simp [ad, enum_sg]
  rw [forL_search (fun p : Nat × Nat => D.tup [.int (p.2 : Nat), .str (cT p.1)]) (badP f L) (fun _ => .dat (.bl false))
    (fun o => [.dat (encF f), .dat (.tup (dI L)), .dat (.lst (dI K)), .dat (.lst (dI (K ++ L))), (match o with | none => .un | some p => .dat (.int (p.2 : Nat))), (match o with | none => .un | some p => .dat (.str (cT p.1))), .un])
    (fun p => [.dat (encF f), .dat (.tup (dI L)), .dat (.lst (dI K)), .dat (.lst (dI (K ++ L))), .dat (.int (p.2 : Nat)), .dat (.str (cT p.1)), .un]) f.sg.zipIdx (by rfl)
    (fun o p hp => by
      have ho := h.sg p.1 (List.mem_of_getElem? (zipIdx_get _ _ hp))
      cases q : isDg p.1 with
      | false => simp [turn, ed ho, q, badP]
      | true =>
        simp [turn, ed ho, q]
        rw [cLc_ints (bes f.bd (p.2 : Nat)) (fun x => decide (x ∈ K ++ L)) (by simp [law_beside_eq h.brd, itemsO]) (Nat.le_trans (bes_len h.brd _) (by decide)) (fun a ha => by simp [lcStep, rk_inL, -List.mem_append]) (by simp)]
        cases q2 : decide ((((bes f.bd (p.2 : Nat)).filter fun x => decide (x ∈ K ++ L)).length : Int) = (p.1 : Int) - 48) with
        | true =>
          have q3 := of_decide_eq_true q2
          have bb : badP f L p = false := by unfold badP; rw [← hK, q, q2]; rfl
          rw [bb]
          simp only [rk_bok, rk_bd, rk_aN, rk_pr]
          simp [int_dig q, dI_length, -List.mem_append, q3]
        | false =>
          have q3 := of_decide_eq_false q2
          have bb : badP f L p = true := by unfold badP; rw [← hK, q, q2]; rfl
          rw [bb]
          simp [int_dig q, dI_length, -List.mem_append, q3])]
  rw [okN_bad h hL]
  cases hf : f.sg.zipIdx.find? (badP f L) with
  | some p =>
    have ha : f.sg.zipIdx.any (badP f L) = true := List.any_eq_true.mpr ⟨p, List.mem_of_find?_eq_some hf, List.find?_some hf⟩
    rw [ha]
    simp
  | none =>
    have ha : f.sg.zipIdx.any (badP f L) = false := by
      rw [List.any_eq_false]
      exact fun p hp => by simpa using List.find?_eq_none.mp hf p hp
    rw [ha]
    cases ht : f.tot with
    | none => simp [ht, encT_none, okT, bdF]
    | some t =>
      have ot : okT (bdF f) L = decide (((K ++ L).length : Int) = t) := by
        unfold okT bdF
        rw [ht, ← hK]
        show decide ((L.length : Int) = t - ((K.length : Nat) : Int)) = decide _
        rw [Bool.eq_iff_iff, decide_eq_true_eq, decide_eq_true_eq, List.length_append]
        omega
      rw [ot]
      simp [ht, encT_some, dI_length, -List.length_append]
/-! ### all layings, by doubling -/
def dbl (l : List Int) (F : List (List Int)) : List (List Int) := l.foldl (fun F c => F ++ F.map (· ++ [c])) F
theorem fm_perm {α β : Type} {g a b : α → List β} (h : ∀ p, (g p).Perm (a p ++ b p)) : ∀ F : List α, (F.flatMap g).Perm (F.flatMap a ++ F.flatMap b)
  | [] => List.Perm.refl _
  | p :: F => by
    rw [List.flatMap_cons, List.flatMap_cons, List.flatMap_cons]
    refine ((h p).append (fm_perm h F)).trans ?_
    rw [List.append_assoc, List.append_assoc]
    refine List.Perm.append_left _ ?_
    rw [← List.append_assoc, ← List.append_assoc]
    exact List.Perm.append_right _ List.perm_append_comm
theorem lex_perm (c : Int) (r : List Int) : (lex (c :: r)).Perm (lex r ++ (lex r).map (c :: ·)) := by
  have e : lex (c :: r) = [] :: ((lex r).map (c :: ·) ++ (lex r).tail) := rfl
  rw [e]
  have h := lex_head r
  refine (List.Perm.cons _ List.perm_append_comm).trans ?_
  show ([] :: (lex r).tail ++ (lex r).map (c :: ·)).Perm _
  rw [← h]
theorem dbl_perm : ∀ (l : List Int) (F : List (List Int)), (dbl l F).Perm (F.flatMap fun p => (lex l).map (p ++ ·))
  | [], F => by
    have : F.flatMap (fun p => (lex []).map (p ++ ·)) = F := by
      have : ∀ F : List (List Int), F.flatMap (fun p => [p]) = F := fun F => by simp
      simp [lex]
    rw [this]
    exact List.Perm.refl _
  | c :: r, F => by
    show (dbl r (F ++ F.map (· ++ [c]))).Perm _
    refine (dbl_perm r _).trans ?_
    rw [List.flatMap_append, List.flatMap_map]
    refine List.Perm.symm (fm_perm (fun p => ?_) F)
    have := (lex_perm c r).map (p ++ ·)
    rw [List.map_append, List.map_map] at this
    refine this.trans (List.Perm.append_left _ ?_)
    have e : (lex r).map ((fun x => p ++ x) ∘ fun x => c :: x) = (lex r).map fun x => p ++ [c] ++ x := by
      apply List.map_congr_left; intro x _; simp
    rw [e]
theorem dbl_lex (l : List Int) : (dbl l [[]]).Perm (lex l) := by
  refine (dbl_perm l [[]]).trans ?_
  simp
theorem dbl_len : ∀ (l : List Int) (F : List (List Int)), (dbl l F).length = F.length * 2 ^ l.length
  | [], F => by simp [dbl]
  | c :: r, F => by
    show (dbl r (F ++ F.map (· ++ [c]))).length = _
    rw [dbl_len r, List.length_append, List.length_map, List.length_cons, Nat.pow_succ, ← Nat.two_mul, Nat.mul_assoc, Nat.mul_left_comm, Nat.mul_comm (2 ^ r.length) 2]
theorem lex_sorted : ∀ {cs : List Int}, cs.Pairwise (· < ·) → (lex cs).Pairwise (fun a b => ¬ b < a)
  | [], _ => by simp [lex]
  | c :: r, h => by
    obtain ⟨h1, h2⟩ := List.pairwise_cons.mp h
    have ih := lex_sorted h2
    have e : lex (c :: r) = [] :: ((lex r).map (c :: ·) ++ (lex r).tail) := rfl
    rw [e, List.pairwise_cons]
    refine ⟨fun L _ hl => (by cases hl), ?_⟩
    rw [List.pairwise_append]
    have ht : (lex r).tail.Pairwise (fun a b => ¬ b < a) := ih.sublist (List.tail_sublist _)
    refine ⟨?_, ht, ?_⟩
    · rw [List.pairwise_map]
      refine ih.imp fun {a b} hn hlt => ?_
      rw [List.cons_lt_cons_iff] at hlt
      rcases hlt with hlt | ⟨_, hlt⟩
      · omega
      · exact hn hlt
    · intro a ha b hb hlt
      obtain ⟨a', _, rfl⟩ := List.mem_map.mp ha
      have hb2 : b ∈ lex r := List.mem_of_mem_tail hb
      have hs := lex_sub hb2
      have hne : b ≠ [] := by
        intro e
        subst e
        have nd := lex_nodup (h2.imp fun {a b} (q : a < b) => show a ≠ b by omega)
        rw [lex_head r] at nd
        exact (List.nodup_cons.mp nd).1 hb
      cases b with
      | nil => exact hne rfl
      | cons x b =>
        have hx : x ∈ r := hs.subset List.mem_cons_self
        have := h1 x hx
        rw [List.cons_lt_cons_iff] at hlt
        rcases hlt with hlt | ⟨hlt, _⟩ <;> omega
end Wk

-- Lb9
namespace Wk
open PySem PySem.Spec PyProof.Rows L2 Dv Hm
def tD (L : List Int) : D := .tup (dI L)
theorem addT (xs ys : List D) (h : xs.length + ys.length ≤ 16777216) : oAdd (.dat (.tup xs)) (.dat (.tup ys)) = okd (.tup (xs ++ ys)) := by
  show addO (.tup xs) (.tup ys) = _
  show (if lenOk (xs.length + ys.length) = true then _ else _) = _
  rw [if_pos (show lenOk (xs.length + ys.length) = true from Nat.ble_eq_true_of_le h)]
theorem addLs (xs ys : List D) (h : xs.length + ys.length ≤ 16777216) : oAdd (.dat (.lst xs)) (.ol ys) = .ok (.ol (xs ++ ys)) := by
  show addO (.lst xs) (.lst ys) = _
  show (if lenOk (xs.length + ys.length) = true then _ else _) = _
  rw [if_pos (show lenOk (xs.length + ys.length) = true from Nat.ble_eq_true_of_le h)]
theorem dbl_head : ∀ (l : List Int) (F : List (List Int)), ∃ t, dbl l ([] :: F) = [] :: t
  | [], F => ⟨F, rfl⟩
  | c :: r, F => by
    show ∃ t, dbl r (([] :: F) ++ _) = _
    rw [List.cons_append]
    exact dbl_head r _
/-! sorted, of tuples of ints -/
theorem alike_ints : ∀ xs ys : List Int, PySem.W.alikeAll (pys (dI xs)) (pys (dI ys)) = true
  | [], ys => by show PySem.W.alikeAll (pys []) _ = true; unfold pys; unfold PySem.W.alikeAll; rfl
  | x :: xs, [] => by
    show PySem.W.alikeAll (pys (.int x :: dI xs)) (pys []) = true
    unfold pys PySem.W.alikeAll; rfl
  | x :: xs, y :: ys => by
    show PySem.W.alikeAll (pys (.int x :: dI xs)) (pys (.int y :: dI ys)) = true
    unfold pys PySem.W.alikeAll
    rw [alike_ints xs ys]
    unfold D.py PySem.W.alike; rfl
theorem pls_dI : ∀ xs : List Int, pls (dI xs) = true
  | [] => rfl
  | x :: xs => by
    show (D.pl (.int x) && pls (dI xs)) = true
    rw [pls_dI xs]; rfl
theorem deps_dI : ∀ xs : List Int, deps (dI xs) ≤ 0
  | [] => by unfold dI deps; exact Nat.le_refl _
  | x :: xs => by
    show deps (.int x :: dI xs) ≤ 0
    unfold deps
    have := deps_dI xs
    have e : D.dep (.int x) = 0 := by unfold D.dep; rfl
    omega
theorem tD_pl (L : List Int) : D.pl (tD L) = true := by unfold tD D.pl; exact pls_dI L
theorem tD_dep (L : List Int) : D.dep (tD L) ≤ 1 := by
  unfold tD D.dep
  have := deps_dI L
  omega
theorem pls_tD : ∀ F : List (List Int), pls (F.map tD) = true
  | [] => rfl
  | L :: F => by
    show (D.pl (tD L) && pls (F.map tD)) = true
    rw [pls_tD F, tD_pl]; rfl
def leL (a b : List Int) : Bool := !decide (b < a)
theorem leL_trans (a b c : List Int) (h1 : leL a b = true) (h2 : leL b c = true) : leL a c = true := by
  unfold leL at *
  simp only [Bool.not_eq_true', decide_eq_false_iff_not] at *
  exact List.le_trans (α := Int) h1 h2
theorem leL_total (a b : List Int) : (leL a b || leL b a) = true := by
  unfold leL
  rw [Bool.or_eq_true]
  simp only [Bool.not_eq_true', decide_eq_false_iff_not]
  exact List.le_total (α := Int) a b
theorem leL_anti (a b : List Int) (h1 : leL a b = true) (h2 : leL b a = true) : a = b := by
  unfold leL at *
  simp only [Bool.not_eq_true', decide_eq_false_iff_not] at *
  exact List.le_antisymm (α := Int) h1 h2
theorem sorted_tups {F G : List (List Int)} (hp : F.Perm G) (hs : G.Pairwise (fun a b => ¬ b < a)) (hl : F.length ≤ 16777216) (hk : F = [] ∨ (∃ t, F = [] :: t) ∨ [] ∉ F) : sortedB [.lst (F.map tD)] = .ok (.ol (G.map tD)) := by
  rcases F with _ | ⟨L0, F⟩
  · have : G = [] := List.nil_perm.mp hp
    subst this
    have e0 : (([] : List (List Int)).map tD) = dI [] := rfl
    rw [e0, sortedL]
    simp [srtI, dI]
  · have hst : sortedO [.lst ((L0 :: F).map tD)] = .stuck := rfl
    unfold sortedB
    rw [hst]
    show sortedA [.lst ((L0 :: F).map tD)] = _
    have hpy : ∀ L : List Int, (tD L).py = .tuple (pys (dI L)) := fun L => by unfold tD D.py; rfl
    have hok : sortOk ((L0 :: F).map tD) = true := by
      unfold sortOk
      simp only [Bool.and_eq_true]
      refine ⟨pls_tD _, ?_, ?_, ?_, ?_⟩
      · exact Nat.ble_eq_true_of_le (by rw [List.length_map]; exact hl)
      · rw [List.all_eq_true]
        intro x hx
        rw [List.all_eq_true]
        intro y hy
        obtain ⟨a, _, rfl⟩ := List.mem_map.mp hx
        obtain ⟨b, _, rfl⟩ := List.mem_map.mp hy
        rw [hpy, hpy]
        unfold PySem.W.alike
        exact alike_ints a b
      · rw [List.all_eq_true]
        intro x hx
        obtain ⟨a, _, rfl⟩ := List.mem_map.mp hx
        exact decide_eq_true (Nat.le_trans (tD_dep a) (by decide))
      · unfold sortKindOk
        rw [Bool.or_eq_true, Bool.or_eq_true]
        rcases hk with hk | hk | hk
        · cases hk
        · obtain ⟨t, ht⟩ := hk
          right; right
          rw [Bool.and_eq_true]
          refine ⟨?_, ?_⟩
          · rw [List.all_eq_true]
            intro x hx
            obtain ⟨y, hy, rfl⟩ := List.mem_map.mp hx
            obtain ⟨a, _, rfl⟩ := List.mem_map.mp hy
            rw [hpy]; rfl
          · cases ht; rfl
        · left
          rw [List.all_eq_true]
          intro x hx
          obtain ⟨y, hy, rfl⟩ := List.mem_map.mp hx
          obtain ⟨a, ha, rfl⟩ := List.mem_map.mp hy
          rw [hpy]
          cases a with
          | nil => exact absurd ha hk
          | cons x a =>
            show isTup1 (.tuple (pys (.int x :: dI a))) = true
            unfold pys; rfl
    show (if sortOk ((L0 :: F).map tD) = true then Ot.ok (SV.ol (sortD ((L0 :: F).map tD))) else .stuck) = _
    rw [if_pos hok]
    congr 2
    unfold sortD
    have e1 : ((L0 :: F).mergeSort leL).map tD = ((L0 :: F).map tD).mergeSort leD := List.map_mergeSort fun a _ b _ => by
      show leL a b = leD (.tup (a.map .int)) (.tup (b.map .int))
      rw [leD_ints]; rfl
    rw [← e1]
    congr 1
    refine List.Perm.eq_of_pairwise (le := fun a b => leL a b = true) (fun a b _ _ h1 h2 => leL_anti a b h1 h2) (List.pairwise_mergeSort leL_trans leL_total _) (hs.imp fun h => ?_) ((List.mergeSort_perm _ leL).trans hp)
    unfold leL
    rw [decide_eq_false h]; rfl
theorem agr_nil (cs L : List Int) : agr [] cs L = true := by
  unfold agr
  rw [List.all_eq_true]
  intro c _; rfl
theorem ok_nil (b : Bd) (L : List Int) : ok b [] L = (okN b L && okT b L) := by
  unfold ok; rw [agr_nil, Bool.and_true]
theorem law_layings_eq {f : Fd} (h : WF f) (h9 : (cellsF f).length ≤ 9) : g__law_layings [encF f] = .ok (.ol (((lex (cellsF f)).filter (ok (bdF f) [])).map tD)) := by
  unfold g__law_layings m__law_layings
  have nd : (cellsF f).Nodup := (posOf_asc f.sg (· == 35)).imp fun h => by omega
  have asc : (cellsF f).Pairwise (· < ·) := posOf_asc f.sg (· == 35)
  have hlen := dbl_len (cellsF f) [[]]
  have h512 : 2 ^ (cellsF f).length ≤ 512 := Nat.pow_le_pow_right (by decide) h9
  have hsub : ∀ L ∈ dbl (cellsF f) [[]], L.Sublist (cellsF f) := fun L hL => lex_sub ((dbl_lex (cellsF f)).mem_iff.mp hL)
  simp [law_covered_eq h, itemsO]
  rw [show dI (cellsF f) = (cellsF f).map D.int from rfl]
  rw [forL_foldP D.int (fun (F : List (List Int)) o => [.dat (encF f), .dat (.lst (F.map tD)), (match o with | none => .un | some c => .dat (.int c)), .un])
    (fun F c => F ++ F.map (· ++ [c])) (fun rest F => F.length * 2 ^ rest.length ≤ 512 ∧ ∀ L ∈ F, L.length + rest.length ≤ 9) (cellsF f) [[]] (by rfl) ⟨by simpa using h512, by simpa using h9⟩ (fun c rest F o hP => by
      have hF : F.length ≤ 512 := Nat.le_trans (Nat.le_mul_of_pos_right _ (Nat.pow_pos (by decide))) hP.1
      constructor
      · simp [turn, itemsO]
        rw [cLc_all F tD (fun L => tD (L ++ [c])) (by simp [itemsO]) (by omega) (fun L hL => by
          have := hP.2 L hL
          have ad := addT (dI L) [.int c] (by rw [dI_length]; show L.length + 1 ≤ _; simp at this; omega)
          have ed : dI L ++ [D.int c] = dI (L ++ [c]) := by rw [dI_append]; rfl
          rw [ed] at ad
          simp [lcStep, tD, ad]) (by simp)]
        have ad := addLs (F.map tD) (F.map fun L => tD (L ++ [c])) (by simp; omega)
        simp [ad, Function.comp_def]
      · refine ⟨?_, ?_⟩
        · have := hP.1
          rw [List.length_append, List.length_map, ← Nat.two_mul]
          rw [List.length_cons, Nat.pow_succ] at this
          rw [Nat.mul_comm 2, Nat.mul_assoc, Nat.mul_comm 2]; exact this
        · intro L hL
          rcases List.mem_append.mp hL with q | q
          · have := hP.2 L q; simp at this; omega
          · obtain ⟨L', hL', rfl⟩ := List.mem_map.mp q
            have := hP.2 L' hL'; simp at this ⊢; omega)]
  rw [show (cellsF f).foldl (fun F c => F ++ F.map (· ++ [c])) [[]] = dbl (cellsF f) [[]] from rfl]
  obtain ⟨F, hF⟩ : ∃ F, F = dbl (cellsF f) [[]] := ⟨_, rfl⟩
  rw [← hF] at hlen hsub ⊢
  have hFl : F.length ≤ 512 := by rw [hlen]; simpa using h512
  simp
  rw [cLc_pure F tD (ok (bdF f) []) tD (by simp [itemsO]) (by omega) (fun L hL => by
    have hs := hsub L hL
    have fe := law_fits_eq h (L := L) (fun c hc => hs.subset hc) (Nat.le_trans hs.length_le (by omega))
    rw [← ok_nil] at fe
    rw [show D.tup (dI L) = tD L from rfl] at fe
    simp [lcStep, fe]) (by simp)]
  have pf : (F.filter (ok (bdF f) [])).Perm ((lex (cellsF f)).filter (ok (bdF f) [])) := by
    rw [hF]; exact (dbl_lex (cellsF f)).filter _
  have st := sorted_tups pf ((lex_sorted asc).filter _) (Nat.le_trans (List.length_filter_le _ _) (by omega)) (by
    obtain ⟨t, ht⟩ := dbl_head (cellsF f) []
    rw [← hF] at ht
    have ndF : F.Nodup := by rw [hF]; exact (dbl_lex (cellsF f)).nodup_iff.mpr (lex_nodup nd)
    rw [ht] at ndF ⊢
    rw [List.filter_cons]
    split
    · exact .inr (.inl ⟨_, rfl⟩)
    · exact .inr (.inr fun hm => (List.nodup_cons.mp ndF).1 (List.mem_filter.mp hm).1))
  simp [st]
end Wk

-- Lb10
namespace Wk
open PySem PySem.Spec PyProof.Rows L2 Dv Hm
/-! ### what repr shows is not long -/
structure Ok (p : PyData) (n : Nat) : Prop where
  l : p.leavesShort 13 = true
  s : p.showable = true
  b : p.bulk ≤ n
structure OkA (ps : List PyData) (n : Nat) : Prop where
  l : PyData.leavesShortAll 13 ps = true
  s : PyData.showableAll ps = true
  b : PyData.bulkAll ps ≤ n
theorem Ok.int {i : Int} (h0 : 0 ≤ i) (h1 : i ≤ 600) : Ok (.int i) 0 := by
  have k1 : ∀ n : Nat, n < 601 → ((PyData.shown (.int (n : Nat))).length ≤ 13) := by decide +kernel
  obtain ⟨n, rfl⟩ : ∃ n : Nat, i = n := ⟨i.toNat, by omega⟩
  refine ⟨decide_eq_true (k1 n (by omega)), decide_eq_true ?_, Nat.le_refl _⟩
  refine Nat.lt_of_le_of_lt (Nat.log2_le_self _) ?_
  show (n : Int).natAbs < 1920
  omega
theorem Ok.none : Ok .none 0 := ⟨rfl, rfl, Nat.le_refl _⟩
theorem Ok.bl (b : Bool) : Ok (.bool b) 0 := ⟨rfl, rfl, Nat.le_refl _⟩
theorem Ok.str {x : Str} {n : Nat} (h : ∀ c ∈ x.cps.toList, c < 16 ^ 8) (hl : x.length ≤ n) : Ok (.str x) n := ⟨by
  unfold PyData.leavesShort
  rw [List.all_eq_true]
  exact fun c hc => decide_eq_true (h c hc), rfl, hl⟩
theorem OkA.nil : OkA [] 0 := ⟨by unfold PyData.leavesShortAll; rfl, by unfold PyData.showableAll; rfl, by unfold PyData.bulkAll; exact Nat.le_refl _⟩
theorem OkA.cons {p : PyData} {ps : List PyData} {a b : Nat} (h : Ok p a) (h2 : OkA ps b) : OkA (p :: ps) (a + 1 + b) := ⟨by
  unfold PyData.leavesShortAll; rw [h.l, h2.l]; rfl, by unfold PyData.showableAll; rw [h.s, h2.s]; rfl, by
  unfold PyData.bulkAll; have := h.b; have := h2.b; omega⟩
theorem Ok.list {ps : List PyData} {n : Nat} (h : OkA ps n) : Ok (.list ps) n := ⟨by unfold PyData.leavesShort; exact h.l, by unfold PyData.showable; exact h.s, by unfold PyData.bulk; exact h.b⟩
theorem Ok.tup {ps : List PyData} {n : Nat} (h : OkA ps n) : Ok (.tuple ps) n := ⟨by unfold PyData.leavesShort; exact h.l, by unfold PyData.showable; exact h.s, by unfold PyData.bulk; exact h.b⟩
theorem Ok.le {p : PyData} {n m : Nat} (h : Ok p n) (hl : n ≤ m) : Ok p m := ⟨h.l, h.s, Nat.le_trans h.b hl⟩
theorem Ok.len {p : PyData} {n : Nat} (h : Ok p n) (hn : n ≤ 1000000) : lenOk p.shown.length = true := by
  have := PyData.shown_fits_bulk (B := 13) (by decide) (by decide) h.l (Nat.le_trans h.b (Nat.le_trans hn (by decide)))
  rw [sizeLine_eq] at this
  exact Nat.ble_eq_true_of_le this
theorem okA_ints : ∀ {L : List Int}, (∀ c ∈ L, 0 ≤ c ∧ c ≤ 600) → OkA (pys (dI L)) L.length
  | [], _ => by
    have : pys (dI []) = [] := by show pys [] = []; unfold pys; rfl
    rw [this]; exact OkA.nil
  | c :: r, h => by
    have : pys (dI (c :: r)) = .int c :: pys (dI r) := by
      show pys (.int c :: dI r) = _
      rw [pys]
      unfold D.py; rfl
    rw [this]
    obtain ⟨h0, h1⟩ := h c List.mem_cons_self
    have := OkA.cons (Ok.int h0 h1) (okA_ints fun c hc => h c (List.mem_cons_of_mem _ hc))
    rw [List.length_cons]
    exact ⟨this.l, this.s, by have := this.b; omega⟩
theorem py_tup (xs : List D) : D.py (.tup xs) = .tuple (pys xs) := by unfold D.py; rfl
theorem py_lst (xs : List D) : D.py (.lst xs) = .list (pys xs) := by unfold D.py; rfl
theorem py_int (i : Int) : D.py (.int i) = .int i := by unfold D.py; rfl
theorem py_str (x : Str) : D.py (.str x) = .str x := by unfold D.py; rfl
theorem py_non : D.py .non = .none := by unfold D.py; rfl
theorem pys_nil : pys [] = [] := by unfold pys; rfl
theorem pys_cons (d : D) (r : List D) : pys (d :: r) = d.py :: pys r := by rw [pys]
theorem ok_tD {L : List Int} (h : ∀ c ∈ L, 0 ≤ c ∧ c ≤ 600) : Ok (tD L).py L.length := by
  unfold tD; rw [py_tup]; exact Ok.tup (okA_ints h)
theorem okA_ties : ∀ {T : List (Int × Int)}, (∀ t ∈ T, 0 ≤ t.1 ∧ t.1 < t.2 ∧ t.2 < 600) → OkA (pys (T.map p2D)) (3 * T.length)
  | [], _ => by show OkA (pys []) _; rw [pys_nil]; exact OkA.nil
  | t :: r, h => by
    show OkA (pys (p2D t :: r.map p2D)) _
    rw [pys_cons]
    obtain ⟨h0, h1, h2⟩ := h t List.mem_cons_self
    have k : Ok (p2D t).py 2 := by
      rw [p2D_dI, py_tup]
      exact Ok.tup (okA_ints (L := [t.1, t.2]) (by
        intro c hc
        simp only [List.mem_cons, List.not_mem_nil, or_false] at hc
        rcases hc with rfl | rfl <;> omega))
    have := OkA.cons k (okA_ties fun c hc => h c (List.mem_cons_of_mem _ hc))
    rw [List.length_cons]
    exact ⟨this.l, this.s, by have := this.b; omega⟩
theorem okSg_le {c : Nat} (h : okSg c = true) : c ≤ 57 := by
  have := okSg_list h
  simp only [List.mem_cons, List.not_mem_nil, or_false] at this
  omega
theorem ok_name (B : Brd) : Ok (.str B.name) 10 := by
  rcases B with ⟨_ | _, r, c⟩ | ⟨n, ts⟩
  · show Ok (.str "hexes") 10
    exact Ok.str (by decide +kernel) (by decide +kernel)
  · show Ok (.str "squares") 10
    exact Ok.str (by decide +kernel) (by decide +kernel)
  · show Ok (.str "web") 10
    exact Ok.str (by decide +kernel) (by decide +kernel)
theorem ok_brd {B : Brd} (h : BrdOk B) (h16 : B.size ≤ 16) : Ok (encBrd B).py 1000 := by
  unfold encBrd
  rw [py_tup, pys_cons, pys_cons, pys_cons, pys_nil, py_str, py_int]
  cases h with
  | grid sq r c h1 h2 h3 h4 =>
    have k2 : Ok (D.py (Brd.grid sq r c).snd) 0 := by
      show Ok (D.py (.int (c : Nat))) 0
      rw [py_int]; exact Ok.int (by omega) (by omega)
    exact (Ok.tup (OkA.cons (ok_name _) (OkA.cons (Ok.int (by show (0 : Int) ≤ (r : Nat); omega) (by show ((r : Nat) : Int) ≤ 600; omega)) (OkA.cons k2 OkA.nil)))).le (by decide)
  | web n ts h1 h2 T =>
    have h16 : n ≤ 16 := h16
    have k2 : Ok (D.py (Brd.web n ts).snd) (3 * ts.length) := by
      show Ok (D.py (.tup (ts.map p2D))) _
      rw [py_tup]
      exact Ok.tup (okA_ties fun t ht => by have := T.rng t ht; omega)
    have := T.few
    exact (Ok.tup (OkA.cons (ok_name _) (OkA.cons (Ok.int (by show (0 : Int) ≤ (n : Nat); omega) (by show ((n : Nat) : Int) ≤ 600; omega)) (OkA.cons k2 OkA.nil)))).le (by omega)
theorem ok_tot {t : Option Int} (h0 : ∀ x, t = some x → 0 ≤ x) (h6 : ∀ x, t = some x → x ≤ 600) : Ok (encT t).py 0 := by
  cases t with
  | none => rw [encT_none, py_non]; exact Ok.none
  | some x => rw [encT_some, py_int]; exact Ok.int (h0 x rfl) (h6 x rfl)
theorem ok_fd {F : Fd} (h : WF F) (h16 : F.bd.size ≤ 16) (h6 : ∀ x, F.tot = some x → x ≤ 600) : Ok (encF F).py 2000 := by
  unfold encF
  rw [py_tup, pys_cons, pys_cons, pys_cons, pys_cons, pys_nil, py_str, py_str]
  have k1 : Ok (.str "field") 5 := Ok.str (by decide +kernel) (by decide +kernel)
  have k3 : Ok (.str (sT F.sg)) 16 := Ok.str (fun c hc => by
    have hc : c ∈ F.sg := by unfold sT at hc; simpa using hc
    have := okSg_le (h.sg c hc)
    exact Nat.lt_of_le_of_lt this (by decide)) (by rw [sT_len, h.len]; exact h16)
  exact (Ok.tup (OkA.cons k1 (OkA.cons (ok_brd h.brd h16) (OkA.cons k3 (OkA.cons (ok_tot h.tot h6) OkA.nil))))).le (by decide)
theorem dep_brd (B : Brd) : D.dep (encBrd B) ≤ 3 := by
  unfold encBrd
  simp only [D.dep, deps]
  rcases B with ⟨sq, r, c⟩ | ⟨n, ts⟩
  · show max _ (max _ (max (D.dep (.int (c : Nat))) _)) + 1 ≤ 3
    simp [D.dep]
  · show max _ (max _ (max (D.dep (.tup (ts.map p2D))) _)) + 1 ≤ 3
    have := deps_ties ts
    simp only [D.dep]
    omega
theorem pl_brd (B : Brd) : D.pl (encBrd B) = true := by
  unfold encBrd
  rcases B with ⟨sq, r, c⟩ | ⟨n, ts⟩
  · rfl
  · show D.pl (.tup [.str _, .int _, .tup (ts.map p2D)]) = true
    simp [D.pl, pls, pls_ties]
theorem repr_of {d : D} {n : Nat} (hp : d.pl = true) (hd : d.dep ≤ 60) (h : Ok d.py n) (hn : n ≤ 1000000) : reprO [d] = okd (.str d.py.shown) := by
  have hs : showOk d = true := by
    unfold showOk
    rw [hp, h.s, decide_eq_true hd, h.len hn]; rfl
  have e : reprO [d] = if showOk d = true then okd (.str d.py.shown) else .stuck := by
    cases d with
    | dct l kvs => simp [D.pl] at hp
    | _ => rfl
  rw [e, if_pos hs]
theorem repr_fd {F : Fd} (h : WF F) (h16 : F.bd.size ≤ 16) (h6 : ∀ x, F.tot = some x → x ≤ 600) : ∃ z, reprO [encF F] = okd (.str z) := by
  refine ⟨_, repr_of ?_ ?_ (ok_fd h h16 h6) (by decide)⟩
  · have := pl_brd F.bd
    unfold encF
    cases ht : F.tot with
    | none => simp [D.pl, pls, this, encT_none]
    | some x => simp [D.pl, pls, this, encT_some]
  · have := dep_brd F.bd
    unfold encF
    cases ht : F.tot with
    | none => simp only [D.dep, deps, encT_none]; omega
    | some x => simp only [D.dep, deps, encT_some]; omega
theorem repr_ii {i : Int} (h0 : 0 ≤ i) (h1 : i ≤ 600) : ∃ z, reprO [.lst [.int i, .int i]] = okd (.str z) := by
  refine ⟨_, repr_of (n := 2) rfl (by simp [D.dep, deps]) ?_ (by decide)⟩
  rw [py_lst]
  exact Ok.list (okA_ints (L := [i, i]) (by
    intro c hc
    simp only [List.mem_cons, List.not_mem_nil, or_false] at hc
    rcases hc with rfl | rfl <;> omega))
theorem repr_LL {L : List Int} (h : ∀ c ∈ L, 0 ≤ c ∧ c ≤ 600) (hl : L.length ≤ 100) : ∃ z, reprO [.lst [tD L, tD L]] = okd (.str z) := by
  refine ⟨_, repr_of (n := 1000) ?_ ?_ ?_ (by decide)⟩
  · show (D.pl (tD L) && (D.pl (tD L) && true)) = true
    rw [tD_pl]; rfl
  · have := tD_dep L
    simp only [D.dep, deps]; omega
  · rw [py_lst, pys_cons, pys_cons, pys_nil]
    exact (Ok.list (OkA.cons (ok_tD h) (OkA.cons (ok_tD h) OkA.nil))).le (by omega)
theorem kv_ok : ∀ {g : Gs}, (∀ p ∈ g, 0 ≤ p.1 ∧ p.1 ≤ 600) → PyData.leavesShortKv 13 (kvPy (kvG g)) = true ∧ PyData.showableKv (kvPy (kvG g)) = true ∧ PyData.bulkKv (kvPy (kvG g)) ≤ 2 * g.length
  | [], _ => by
    show PyData.leavesShortKv 13 [] = true ∧ PyData.showableKv [] = true ∧ PyData.bulkKv [] ≤ _
    unfold PyData.leavesShortKv PyData.showableKv PyData.bulkKv
    exact ⟨rfl, rfl, Nat.zero_le _⟩
  | p :: r, h => by
    obtain ⟨a, b, c⟩ := kv_ok (g := r) fun q hq => h q (List.mem_cons_of_mem _ hq)
    have e : kvPy (kvG (p :: r)) = (.int p.1, .bool p.2) :: kvPy (kvG r) := by
      show (kPy (.inl p.1), D.py (.bl p.2)) :: _ = _
      congr 1
      all_goals (try (unfold D.py; rfl))
    obtain ⟨h0, h1⟩ := h p List.mem_cons_self
    have k := Ok.int h0 h1
    have k2 := Ok.bl p.2
    rw [e]
    unfold PyData.leavesShortKv PyData.showableKv PyData.bulkKv
    rw [a, b, k.l, k.s, k2.l, k2.s]
    refine ⟨rfl, rfl, ?_⟩
    have := k.b
    have := k2.b
    rw [List.length_cons]; omega
theorem repr_g {g : Gs} (lk : Bool) (h : ∀ p ∈ g, 0 ≤ p.1 ∧ p.1 ≤ 600) (hl : g.length ≤ 100) : ∃ z, reprO [encG lk g] = okd (.str z) := by
  obtain ⟨a, b, c⟩ := kv_ok h
  have k : Ok (.dict (kvPy (kvG g))) 1000 := ⟨by unfold PyData.leavesShort; exact a, by unfold PyData.showable; exact b, by unfold PyData.bulk; omega⟩
  have hs : showKv (kvG g) = true := by
    unfold showKv
    rw [k.s, k.len (by decide), Bool.and_true, Bool.and_true, List.all_eq_true]
    intro kv hkv
    unfold kvG at hkv
    obtain ⟨p, _, rfl⟩ := List.mem_map.mp hkv
    rfl
  exact ⟨_, by show (if showKv (kvG g) = true then _ else _) = _; rw [if_pos hs]⟩
end Wk

-- Lb11
namespace Wk
open PySem PySem.Spec PyProof.Rows L2 Dv Hm
/-! ### guesses drawn -/
def prD (p : Int × Bool) : D := .tup [.int p.1, .bl p.2]
theorem pairs_g : ∀ g : Gs, pairs? (g.map prD) = some (kvG g)
  | [] => rfl
  | p :: r => by
    show (pairs? (r.map prD)).map _ = _
    rw [pairs_g r]; rfl
theorem merge_g : ∀ (g h : Gs), ((h ++ g).map (·.1)).Nodup → mergeD (kvG h) (kvG g) = kvG (h ++ g)
  | [], h, _ => by rw [List.append_nil]; rfl
  | p :: r, h, nd => by
    show mergeD (setD (kvG h) (.inl p.1) (.bl p.2)) (kvG r) = _
    have nh : (h.map (·.1)).Nodup := by
      rw [List.map_append] at nd; exact (List.nodup_append.mp nd).1
    have hn : gl h p.1 = none := gl_none fun hm => by
      rw [List.map_append] at nd
      exact (List.nodup_append.mp nd).2.2 _ hm _ (by simp) rfl
    rw [setD_kvG nh, setG_none hn]
    have e : h ++ p :: r = h ++ [(p.1, p.2)] ++ r := by simp
    rw [e] at nd ⊢
    exact merge_g r (h ++ [(p.1, p.2)]) nd
theorem dict_g {g : Gs} (nd : (g.map (·.1)).Nodup) : dictO [.lst (g.map prD)] = .ok (.od (kvG g)) := by
  show (ofO ((some (g.map prD)).bind pairs?)).bd _ = _
  rw [Option.bind_some, pairs_g]
  show Ot.ok (SV.od (mergeD [] (kvG g))) = _
  have := merge_g g [] (by simpa using nd)
  rw [List.nil_append] at this
  rw [show ([] : List (Key × D)) = kvG [] from rfl, this]
noncomputable def gsM : ME := (cFz (cIf (tL (c2 oGtA (cV 6) (cC (.int 0)))) (cA dictO (aC (cLc (iAny (cV 4)) (.nm 13) (tL (c2 oEq (cCallM 0 g__law_draw (aC (cC (.int 3)) aN) []) (cC (.int 0)))) (cTup (aC (cV 13) (aC (c2 oEq (cCallM 0 g__law_draw (aC (cC (.int 2)) aN) []) (cC (.int 0))) aN))) [13]) aN)) (pr (.od []))))
theorem guess_eq {s : SV} (hs : Pot s) (C : List Int) (nd : C.Nodup) (hl : C.length ≤ 64) (k : Nat) (s1 s2 s3 s5 o7 o8 o9 o10 o11 o12 : SV) : ∃ (s' : SV) (g : Gs), Pot s' ∧ (g.map (·.1)).Sublist C ∧
    gsM [s, s1, s2, s3, .dat (.lst (dI C)), s5, .dat (.int (k : Nat)), o7, o8, o9, o10, o11, o12, .un, .un] = .ok (.dat (encG false g)) [s', s1, s2, s3, .dat (.lst (dI C)), s5, .dat (.int (k : Nat)), o7, o8, o9, o10, o11, o12, .un, .un] := by
  unfold gsM
  by_cases z : 0 < k
  · obtain ⟨s', g, p', hg, e⟩ := cLc_draw (mi := iAny (cV 4)) (pt := .nm 13) (mt := (tL (c2 oEq (cCallM 0 g__law_draw (aC (cC (.int 3)) aN) []) (cC (.int 0))))) (me := (cTup (aC (cV 13) (aC (c2 oEq (cCallM 0 g__law_draw (aC (cC (.int 2)) aN) []) (cC (.int 0))) aN)))) (vs := [13])
      (fun s => [s, s1, s2, s3, .dat (.lst (dI C)), s5, .dat (.int (k : Nat)), o7, o8, o9, o10, o11, o12, .un, .un]) (fun s => [s, s1, s2, s3, .dat (.lst (dI C)), s5, .dat (.int (k : Nat)), o7, o8, o9, o10, o11, o12, .un, .un]) hs D.int (fun p : Int × Bool => p.1) prD C rfl (by simp [itemsO, dI]) (by omega) (by simp) (fun x hx s hs => by
        obtain ⟨d, s', e, p, l⟩ := drawN hs (m := 3) (by decide) (by decide)
        by_cases z : d = 0
        · obtain ⟨d2, s'', e2, p2, l2⟩ := drawN p (m := 2) (by decide) (by decide)
          exact ⟨s'', some (x, decide ((d2 : Int) = 0)), p2, (fun b hb => by cases hb; rfl), by simp [lcStep, hs.own, p.own, e, z, e2, prD]⟩
        · exact ⟨s', none, p, (fun b hb => by cases hb), by simp [lcStep, hs.own, e, z]⟩) (fun s' => by simp)
    have dg := dict_g (nd.sublist hg)
    refine ⟨s', g, p', hg, ?_⟩
    simp [z, e, dg]
    rfl
  · refine ⟨s, [], hs, by simp, ?_⟩
    simp [z]
    rfl
/-! ### what goes with them -/
def goesP (g : Gs) (L : List Int) : Bool := (g.map (·.1)).all fun c => decide (c ∈ L) == (gl g c).getD false
theorem goes_agr {b : Bd} {g : Gs} (Gg : GoodG b g) (L : List Int) : goesP g L = agr g b.cells L := by
  rw [Bool.eq_iff_iff]
  unfold goesP agr
  rw [List.all_eq_true, List.all_eq_true]
  constructor
  · intro h c hc
    cases e : gl g c with
    | none => rfl
    | some v =>
      have hk : c ∈ g.map (·.1) := Classical.byContradiction fun hn => by rw [gl_none hn] at e; cases e
      have := h c hk
      rw [e] at this
      exact this
  · intro h c hc
    obtain ⟨v, hv⟩ := gl_key Gg.nd hc
    have hcc : c ∈ b.cells := by
      obtain ⟨p, hp, rfl⟩ := List.mem_map.mp hc
      exact Gg.sub p hp
    have := h c hcc
    rw [hv] at this ⊢
    exact this
theorem going_eq {b : Bd} {g : Gs} (Gg : GoodG b g) : ((lex b.cells).filter (ok b [])).filter (goesP g) = (lex b.cells).filter (ok b g) := by
  rw [List.filter_filter]
  apply List.filter_congr
  intro L hL
  rw [goes_agr Gg, ok_nil]
  unfold ok
  cases okN b L <;> cases okT b L <;> cases agr g b.cells L <;> rfl
theorem in_tD (c : Int) (L : List Int) : oIn (.dat (.int c)) (.dat (tD L)) = okd (.bl (decide (c ∈ L))) := rk_inT c L
theorem ix_G (lk : Bool) (g : Gs) (c : Int) : ixO (encG lk g) (.int c) = (ofO ((gl g c).map D.bl)).bd okd := by
  unfold encG; rw [rk_ixD, look_kvG]
theorem lk_G (lk : Bool) (g : Gs) : lkD none (encG lk g) = some (encG true g) := rfl
theorem going_comp {g : Gs} (nd : (g.map (·.1)).Nodup) (hl : g.length ≤ 64) (E : List (List Int)) (hE : E.length ≤ 1000) (s s1 s2 s4 s5 s6 o8 o9 o10 o11 o12 : SV) :
    (cLc (iAny (cV 3)) (.nm 12) (tB (lockE 7 none (cA allO (aC (cLc (iAny (cV 7)) (.nm 13) (pr true) (c2 oEq (c2 oIn (cV 13) (cV 12)) (cIx (cV 7) (cV 13))) [13]) aN)))) (cV 12) [12]) [s, s1, s2, .dat (.lst (E.map tD)), s4, s5, s6, .dat (encG false g), o8, o9, o10, o11, o12, .un, .un] = .ok (.ol ((E.filter (goesP g)).map tD)) [s, s1, s2, .dat (.lst (E.map tD)), s4, s5, s6, .dat (encG false g), o8, o9, o10, o11, o12, .un, .un] := by
  have e1 := kvG_items g
  rw [cLc_pure E tD (goesP g) tD (by simp [itemsO]) (by omega) (fun L hL => by
    simp [lcStep, lk_G]
    rw [cLc_bools (g.map (·.1)) .int (fun c => decide (c ∈ L) == (gl g c).getD false) (by simp [e1, dI]) (by rw [List.length_map]; omega) (fun a ha => by
      obtain ⟨v, hv⟩ := gl_key nd ha
      simp [lcStep, in_tD, ix_G, hv]) (by simp)]
    simp [goesP]) (by simp)]
end Wk

-- Lb12
namespace Wk
open PySem PySem.Spec PyProof.Rows L2 Dv Hm
noncomputable def rkB : MS := (sSeq (sSet 12 (cIx (cV 8) (cV 11))) (sSeq (sIf (tL (c2 oNe (cA reprO (aC (cLst (aC (cCall g_laying_at (aC (cV 2) (aC (cV 7) (aC (cV 11) aN))) []) (aC (cCallK 3 [2, 1, 0] g_laying_at (aC (cV 11) (aC (cV 7) (aC (cV 2) aN)))) aN))) aN)) (cA reprO (aC (cLst (aC (cV 12) (aC (cV 12) aN))) aN)))) (sRet (cC (.bl false))) sNil) (sIf (tL (c2 oNe (cA reprO (aC (cLst (aC (cCall g_rank_of (aC (cV 2) (aC (cV 7) (aC (cV 12) aN))) []) (aC (cCallK 3 [2, 1, 0] g_rank_of (aC (cV 12) (aC (cV 7) (aC (cV 2) aN)))) aN))) aN)) (cA reprO (aC (cLst (aC (cV 11) (aC (cV 11) aN))) aN)))) (sRet (cC (.bl false))) sNil)))
noncomputable def rgB : MS := (sSeq (sSet 7 gsM) (sSeq (sPar [8, 9] (aC (cLc (iAny (cV 3)) (.nm 12) (tB (lockE 7 none (cA allO (aC (cLc (iAny (cV 7)) (.nm 13) (pr true) (c2 oEq (c2 oIn (cV 13) (cV 12)) (cIx (cV 7) (cV 13))) [13]) aN)))) (cV 12) [12]) (aC (cA reprO (aC (cV 7) aN)) aN))) (bd (fzS 8) fun _ => (sSeq (sSet 10 (cA lenO (aC (cV 8) aN))) (sSeq (sIf (tL (c2 oNe (cA reprO (aC (cLst (aC (cCall g_many_layings (aC (cV 2) (aC (cV 7) aN)) []) (aC (cCallK 2 [1, 0] g_many_layings (aC (cV 7) (aC (cV 2) aN))) aN))) aN)) (cA reprO (aC (cLst (aC (cV 10) (aC (cV 10) aN))) aN)))) (sRet (cC (.bl false))) sNil) (sSeq (sFor (iAny (cSl (cLc (iRg1 (cV 10)) (.nm 14) (tOo (tL (c2 oLtA (cV 14) (cC (.int 3)))) (tOo (tL (c2 oGtA (cV 14) (c2 oSub (cV 10) (cC (.int 3))))) (tL (c2 oEq (cCallM 0 g__law_draw (aC (cC (.int 4)) aN) []) (cC (.int 0)))))) (cV 14) [14]) oN (oS (cC (.int 12))))) (.nm 11) rkB) (sIf (tL (c2 oNe (cA reprO (aC (cV 7) aN)) (cV 9))) (sRet (cC (.bl false))) sNil)))))))
section
variable {F : Fd} {g : Gs}
theorem cell_rng (wf : WF F) (h16 : F.bd.size ≤ 16) : ∀ c ∈ cellsF F, 0 ≤ c ∧ c ≤ 600 := fun c hc => by
  have := (mem_posOf (l := F.sg) (q := (· == 35)) (x := c)).mp hc
  have := wf.len
  omega
theorem rank_turn (wf : WF F) (h9 : (cellsF F).length ≤ 9) (h16 : F.bd.size ≤ 16) (hr : (bdF F).rim.length ≤ 20) (Gg : GoodG (bdF F) g) {i : Nat} (hi : i < ((lex (cellsF F)).filter (ok (bdF F) g)).length) (s s1 s3 s4 s5 s6 s9 s10 o11 o12 : SV) :
    turn (.nm 11) rkB (.int (i : Nat)) [s, s1, .dat (encF F), s3, s4, s5, s6, .dat (encG false g), .dat (.lst (((lex (cellsF F)).filter (ok (bdF F) g)).map tD)), s9, s10, o11, o12, .un, .un] =
      .ok .nx [s, s1, .dat (encF F), s3, s4, s5, s6, .dat (encG false g), .dat (.lst (((lex (cellsF F)).filter (ok (bdF F) g)).map tD)), s9, s10, .dat (.int (i : Nat)), .dat (tD (((lex (cellsF F)).filter (ok (bdF F) g))[i])), .un, .un] := by
  obtain ⟨G, hG⟩ : ∃ G, G = (lex (cellsF F)).filter (ok (bdF F) g) := ⟨_, rfl⟩
  simp only [← hG] at hi ⊢
  obtain ⟨L, hLe⟩ : ∃ L, L = G[i] := ⟨_, rfl⟩
  rw [← hLe]
  have nd : (bdF F).cells.Nodup := (WBf wf).good.nd
  have hL : lbF (ok (bdF F) g) [] (bdF F).cells i = some L := by
    have ef : full [] (bdF F).cells = lex (bdF F).cells := by unfold full; simp
    rw [lbF_get, ef]
    show ((lex (cellsF F)).filter (ok (bdF F) g))[i]? = _
    rw [← hG, List.getElem?_eq_getElem hi, hLe]
  obtain ⟨r1, r2, r3⟩ := rk_lb _ nd hL
  have hN : i < N (bdF F) g := by
    unfold N
    rw [List.countP_eq_length_filter]
    show i < ((lex (cellsF F)).filter (ok (bdF F) g)).length
    rw [← hG]; exact hi
  have la : g_laying_at [encF F, encG false g, .int (i : Nat)] = okd (tD L) := laying_at_eq wf hr Gg hN hL
  have ra : g_rank_of [encF F, encG false g, tD L] = okd (.int (rkF (ok (bdF F) g) [] (bdF F).cells L : Nat)) := rank_of_eq wf hr Gg r2 r3
  rw [r1] at ra
  have hat : atI (G.map tD) ((i : Nat) : Int) = some (tD L) := by
    rw [Dv.atI_nat, List.getElem?_map, List.getElem?_eq_getElem hi, ← hLe]; rfl
  have h512 : N (bdF F) g ≤ 512 := by
    unfold N
    refine Nat.le_trans List.countP_le_length ?_
    have e := lex_length (cellsF F)
    show (lex (cellsF F)).length ≤ 512
    rw [e]
    exact Nat.pow_le_pow_right (by decide) h9
  obtain ⟨z1, rl⟩ := repr_LL (L := L) (fun c hc => cell_rng wf h16 c (r2.subset hc)) (Nat.le_trans r2.length_le (Nat.le_trans h9 (by decide)))
  obtain ⟨z2, ri⟩ := repr_ii (i := ((i : Nat) : Int)) (by omega) (by omega)
  unfold rkB
  simp [turn, hat, la, ra, rl, ri]
theorem cut12 (xs : List D) : Dv.cutD xs none (some 12) = xs.take 12 := cut_to xs 12
theorem right_turn {s : SV} (hs : Pot s) (wf : WF F) (h9 : (cellsF F).length ≤ 9) (h16 : F.bd.size ≤ 16) (hr : (bdF F).rim.length ≤ 20) (k : Nat) (s1 s5 o6 o7 o8 o9 o10 o11 o12 : SV) : ∃ s' o7' o8' o9' o10' o11' o12', Pot s' ∧
    turn (.nm 6) rgB (.int (k : Nat)) [s, s1, .dat (encF F), .dat (.lst (((lex (cellsF F)).filter (ok (bdF F) [])).map tD)), .dat (.lst (dI (cellsF F))), s5, o6, o7, o8, o9, o10, o11, o12, .un, .un] =
      .ok .nx [s', s1, .dat (encF F), .dat (.lst (((lex (cellsF F)).filter (ok (bdF F) [])).map tD)), .dat (.lst (dI (cellsF F))), s5, .dat (.int (k : Nat)), o7', o8', o9', o10', o11', o12', .un, .un] := by
  have nd : (cellsF F).Nodup := (WBf wf).good.nd
  obtain ⟨sa, g, pa, hg, ea⟩ := guess_eq hs (cellsF F) nd (by omega) k s1 (.dat (encF F)) (.dat (.lst (((lex (cellsF F)).filter (ok (bdF F) [])).map tD))) s5 o7 o8 o9 o10 o11 o12
  have Gg : GoodG (bdF F) g := ⟨nd.sublist hg, fun p hp => hg.subset (List.mem_map.mpr ⟨p, hp, rfl⟩)⟩
  have gl : g.length ≤ 9 := by have := hg.length_le; rw [List.length_map] at this; omega
  have l512 : (lex (cellsF F)).length ≤ 512 := by
    rw [lex_length]; exact Nat.pow_le_pow_right (by decide) h9
  have gc := fun o8 o9 o10 o11 o12 => going_comp (nd.sublist hg) (by omega) ((lex (cellsF F)).filter (ok (bdF F) [])) (Nat.le_trans (List.length_filter_le _ _) (by omega)) sa s1 (.dat (encF F)) (.dat (.lst (dI (cellsF F)))) s5 (.dat (.int (k : Nat))) o8 o9 o10 o11 o12
  have ge : ((lex (cellsF F)).filter (ok (bdF F) [])).filter (goesP g) = (lex (cellsF F)).filter (ok (bdF F) g) := going_eq Gg
  rw [ge] at gc
  have ml := many_layings_eq wf hr Gg
  have hN : N (bdF F) g = ((lex (cellsF F)).filter (ok (bdF F) g)).length := by
    unfold N; rw [List.countP_eq_length_filter]; rfl
  rw [hN] at ml
  have rt := fun i hi => rank_turn wf h9 h16 hr Gg (i := i) hi
  obtain ⟨E, hE⟩ : ∃ E, E = ((lex (cellsF F)).filter (ok (bdF F) [])).map tD := ⟨_, rfl⟩
  obtain ⟨G, hG⟩ : ∃ G, G = (lex (cellsF F)).filter (ok (bdF F) g) := ⟨_, rfl⟩
  have G512 : G.length ≤ 512 := by rw [hG]; exact Nat.le_trans (List.length_filter_le _ _) l512
  simp only [← hE, ← hG] at gc ml rt ea ⊢
  obtain ⟨z1, rg⟩ := repr_g false (g := g) (fun p hp => cell_rng wf h16 p.1 (hg.subset (List.mem_map.mpr ⟨p, hp, rfl⟩))) (by omega)
  obtain ⟨z2, ri⟩ := repr_ii (i := ((G.length : Nat) : Int)) (by omega) (by omega)
  obtain ⟨n, hn⟩ : ∃ n, n = G.length := ⟨_, rfl⟩
  rw [← hn] at ri ml G512
  have rgn := rg_ok (n := n) (by omega)
  obtain ⟨sb, ys, pb, hy, eb⟩ := cLc_draw (mi := (iRg1 (cV 10))) (pt := .nm 14) (mt := (tOo (tL (c2 oLtA (cV 14) (cC (.int 3)))) (tOo (tL (c2 oGtA (cV 14) (c2 oSub (cV 10) (cC (.int 3))))) (tL (c2 oEq (cCallM 0 g__law_draw (aC (cC (.int 4)) aN) []) (cC (.int 0))))))) (me := cV 14) (vs := [14])
    (fun s => [s, s1, .dat (encF F), .dat (.lst E), .dat (.lst (dI (cellsF F))), s5, .dat (.int (k : Nat)), .dat (encG false g), .dat (.lst (G.map tD)), .dat (.str z1), .dat (.int (n : Nat)), o11, o12, .un, .un]) (fun s => [s, s1, .dat (encF F), .dat (.lst E), .dat (.lst (dI (cellsF F))), s5, .dat (.int (k : Nat)), .dat (encG false g), .dat (.lst (G.map tD)), .dat (.str z1), .dat (.int (n : Nat)), o11, o12, .un, .un]) pa (fun i : Nat => D.int (i : Nat)) (fun i : Nat => i) (fun i : Nat => D.int (i : Nat)) (List.range n) rfl (by simp [rgn]) (by simp; omega) (by simp) (fun x hx s hs => by
      by_cases z1 : (x : Int) < 3
      · exact ⟨s, some x, hs, (fun b hb => by cases hb; rfl), by simp [lcStep, z1]⟩
      · by_cases z2 : (n : Int) - 3 < (x : Int)
        · exact ⟨s, some x, hs, (fun b hb => by cases hb; rfl), by simp [lcStep, z1, z2]⟩
        · obtain ⟨d, s', e, p, l⟩ := drawN hs (m := 4) (by decide) (by decide)
          by_cases z : d = 0
          · exact ⟨s', some x, p, (fun b hb => by cases hb; rfl), by simp [lcStep, z1, z2, hs.own, e, z]⟩
          · exact ⟨s', none, p, (fun b hb => by cases hb), by simp [lcStep, z1, z2, hs.own, e, z]⟩) (fun s' => by simp)
  rw [List.map_id'] at hy
  have ysr : ∀ y ∈ (ys.take 12), y < n := fun y hy2 => List.mem_range.mp (hy.subset (List.mem_of_mem_take hy2))
  have loop := forL_foldM (pt := .nm 11) (body := rkB) (fun i : Nat => D.int (i : Nat)) (fun (_ : Unit) (o : Option Nat) => [sb, s1, .dat (encF F), .dat (.lst E), .dat (.lst (dI (cellsF F))), s5, .dat (.int (k : Nat)), .dat (encG false g), .dat (.lst (G.map tD)), .dat (.str z1), .dat (.int (n : Nat)), (match o with | none => o11 | some i => .dat (.int (i : Nat))), (match o with | none => o12 | some i => .dat (tD (G.getD i []))), .un, .un]) (fun _ _ => ()) (ys.take 12) () rfl (fun u o a ha => by
      have ha2 : a < G.length := by rw [← hn]; exact ysr a ha
      rw [rt a ha2]
      have : G.getD a [] = G[a] := by simp [ha2]
      simp only [this])
  rw [List.map_take] at loop
  obtain ⟨x11, x12, loop⟩ : ∃ x11 x12, forL (.nm 11) rkB ((ys.map fun i : Nat => D.int (i : Nat)).take 12) [sb, s1, .dat (encF F), .dat (.lst E), .dat (.lst (dI (cellsF F))), s5, .dat (.int (k : Nat)), .dat (encG false g), .dat (.lst (G.map tD)), .dat (.str z1), .dat (.int (n : Nat)), o11, o12, .un, .un] = .ok .nx [sb, s1, .dat (encF F), .dat (.lst E), .dat (.lst (dI (cellsF F))), s5, .dat (.int (k : Nat)), .dat (encG false g), .dat (.lst (G.map tD)), .dat (.str z1), .dat (.int (n : Nat)), x11, x12, .un, .un] := ⟨_, _, loop⟩
  refine ⟨sb, .dat (encG false g), .dat (.lst (G.map tD)), .dat (.str z1), .dat (.int (n : Nat)), x11, x12, pb, ?_⟩
  unfold rgB
  simp only [turn]
  simp [ea, gc, rg, ml, ri, dI_length, ← hn, eb, cut12, itemsO, loop, -List.map_take]
end
end Wk

-- Lb13
namespace Wk
open PySem PySem.Spec PyProof.Rows L2 Dv Hm
theorem right_loop {F : Fd} (wf : WF F) (h9 : (cellsF F).length ≤ 9) (h16 : F.bd.size ≤ 16) (hr : (bdF F).rim.length ≤ 20) (s1 s5 : SV) : ∀ (ks : List Nat) (s o6 o7 o8 o9 o10 o11 o12 : SV), Pot s → ∃ s' o6' o7' o8' o9' o10' o11' o12', Pot s' ∧
    forL (.nm 6) rgB (ks.map fun i : Nat => D.int (i : Nat)) [s, s1, .dat (encF F), .dat (.lst (((lex (cellsF F)).filter (ok (bdF F) [])).map tD)), .dat (.lst (dI (cellsF F))), s5, o6, o7, o8, o9, o10, o11, o12, .un, .un] =
      .ok .nx [s', s1, .dat (encF F), .dat (.lst (((lex (cellsF F)).filter (ok (bdF F) [])).map tD)), .dat (.lst (dI (cellsF F))), s5, o6', o7', o8', o9', o10', o11', o12', .un, .un]
  | [], s, o6, o7, o8, o9, o10, o11, o12, hs => ⟨s, o6, o7, o8, o9, o10, o11, o12, hs, rfl⟩
  | k :: r, s, o6, o7, o8, o9, o10, o11, o12, hs => by
    obtain ⟨sa, a7, a8, a9, a10, a11, a12, pa, ea⟩ := right_turn hs wf h9 h16 hr k s1 s5 o6 o7 o8 o9 o10 o11 o12
    obtain ⟨sb, b6, b7, b8, b9, b10, b11, b12, pb, eb⟩ := right_loop wf h9 h16 hr s1 s5 r sa (.dat (.int (k : Nat))) a7 a8 a9 a10 a11 a12 pa
    refine ⟨sb, b6, b7, b8, b9, b10, b11, b12, pb, ?_⟩
    rw [List.map_cons, forL_turn, ea]
    exact eb
theorem right_eq {s : SV} (hs : Pot s) (t : Bool) : ∃ s', g__law_right s [.bl t] = .ok (.dat (.bl true)) s' ∧ Pot s' := by
  have em : m__law_right = (sSeq (sSet 2 (cFz (cCallM 0 g__law_field (aC (cCallM 0 g__law_board (aC (cC (.int 4)) aN) []) (aC (cC (.int 9)) (aC (cV 1) aN))) []))) (sSeq (sPar [3, 4, 5] (aC (cCall g__law_layings (aC (cV 2) aN) []) (aC (cCall g__law_covered (aC (cV 2) aN) []) (aC (cA reprO (aC (cV 2) aN)) aN)))) (bd (fzS 3) fun _ => (bd (fzS 4) fun _ => (sSeq (sFor (iRg1 (cC (.int 4))) (.nm 6) rgB) (sRet (c2 oEq (cA reprO (aC (cV 2) aN)) (cV 5)))))))) := rfl
  obtain ⟨s1, B, e1, p1, hB, h16⟩ := board_eq hs
  obtain ⟨s2, F, e2, p2, wf, h9, hF16, h6⟩ := field_eq p1 hB h16 t
  have hr : (bdF F).rim.length ≤ 20 := by
    have : (bdF F).rim.length ≤ (cellsF F).length := List.length_filter_le _ _
    omega
  obtain ⟨z, rz⟩ := repr_fd wf hF16 h6
  have la := law_layings_eq wf h9
  have lc := law_covered_eq wf
  have rg := rg_ok (n := 4) (by decide)
  obtain ⟨s3, o6, o7, o8, o9, o10, o11, o12, p3, e3⟩ := right_loop wf h9 hF16 hr (.dat (.bl t)) (.dat (.str z)) (List.range 4) s2 .un .un .un .un .un .un .un p2
  refine ⟨s3, ?_, p3⟩
  have rg4 : rg1O (.int 4) = .ok ((List.range 4).map fun i : Nat => D.int (i : Nat)) := rg
  obtain ⟨E, hE⟩ : ∃ E, E = ((lex (cellsF F)).filter (ok (bdF F) [])).map tD := ⟨_, rfl⟩
  obtain ⟨I4, hI4⟩ : ∃ I4, I4 = (List.range 4).map fun i : Nat => D.int (i : Nat) := ⟨_, rfl⟩
  simp only [← hE, ← hI4] at la e3 rg4
  unfold g__law_right
  rw [em]
  clear em
  simp [hs.own, p1.own, e1, e2, la, lc, rz, rg4, e3]
theorem law_true (ns : List Int) (hn : ns.length ≤ 63) : g_law [.frl (ns.map .int)] = okd (.bl true) := by
  obtain ⟨s, e, p⟩ := pot_eq ns hn 0 (by decide)
  obtain ⟨s', e', p'⟩ := pot_eq ns hn 1 (by decide)
  obtain ⟨t1, c1, p1⟩ := right_eq p true
  obtain ⟨t2, c2, p2⟩ := right_eq p' true
  obtain ⟨t3, c3, p3⟩ := right_eq p2 false
  unfold g_law m_law
  simp at e e'
  simp [e, e', p.own, p'.own, p2.own, c1, c2, c3]
end Wk

-- H_k79
set_option maxHeartbeats 0
namespace Wk
open PySem PySem.Spec PyProof.Rows L2 Dv
theorem law_sp {K : Fg} {H : Hp} {a : Addr} {ns : List Int} (hm : g_law [.frl (ns.map .int)] = okd (.bl true)) (hS : SqL K H a (ns.map V.int)) : spF K g_law [.ref a] H (fun v _ => v = .bl true) (fun _ _ _ => False) := by
  refine ⟨H, [.frl (ns.map .int)], Same.refl H, .one ?_, ?_⟩
  · unfold Rep
    exact ⟨a, _, rfl, hS, reps_of_ints ns⟩
  · rw [hm]
    intro v F' H' f _ o _ _
    unfold Own at o
    have := o.2
    unfold Rep at this
    exact this
end Wk
open PySem PySem.W PySem.Calls PyProof.Rows
/-- the law holds where its def, on data, always answers True -/
theorem Wk.holds_of (hm : ∀ ns : List Int, ns.length ≤ 63 → Wk.g_law [.frl (ns.map .int)] = Dv.okd (.bl true)) : PySem.Challenge.rw_hiddenmines_k79_whole_ranks_of_layings.Holds := by
  w_on; o_law
  refine HandSHeadRun.head_any (r := OpenLaw.row PySem.Challenge.rw_hiddenmines_k79_whole_ranks_of_layings) (q := view (OpenLaw.row PySem.Challenge.rw_hiddenmines_k79_whole_ranks_of_layings).prog [83]) (H := Wk.hk) (ob := Wk.ob) (M := 6000) (loose := Wk.loose) (d := HandSHeadRun.topDef (OpenLaw.row PySem.Challenge.rw_hiddenmines_k79_whole_ranks_of_layings).prog 83) (kwd := []) Wk.ob_eq
    (by kernel_rfl) (fun s => by kernel_rfl) Wk.run (by kernel_rfl) (by kernel_rfl) (by kernel_rfl) (by rfl) (by first | assumption | decide +kernel) (by decide +kernel) ⟨rfl, rfl, rfl, rfl, rfl, by decide +kernel⟩ ?hw ?hc
  case hw => w_witness2
  case hc =>
    refine Dv.walk_ofV (l := PySem.Challenge.rw_hiddenmines_k79_whole_ranks_of_layings) (n := 63) (k := 80) (x := "script") rfl (by decide) (by kernel_rfl) ⟨⟨rfl, by decide, by decide⟩, rfl⟩ ?F
    intro w mg fa h Y G hmg0
    obtain ⟨K, KX, c⟩ := Y
    have hmg : mg ("law" : PySem.Str) = some (.ref fa) := by
      have e : (HandSHeadRun.topDef (OpenLaw.row PySem.Challenge.rw_hiddenmines_k79_whole_ranks_of_layings).prog 83).name = ("law" : PySem.Str) := by kernel_rfl
      rw [← e]
      exact hmg0
    obtain ⟨fd, b, F⟩ := Wk.law_raw (⟨c, KX, G⟩ : Dv.Fx Wk.fa Wk.fn Wk.cs K mg h)
    have hfa : fa = He.ga K "law" := by
      have := hmg.symm.trans ((⟨c, KX, G⟩ : Dv.Fx Wk.fa Wk.fn Wk.cs K mg h).glo 91 (x := "law"))
      cases this; rfl
    subst hfa
    exact ⟨K, fd, _, KX, b, fun H a ns hl hS => Wk.law_sp (hm ns hl) hS, fun base hk hn => F _ _ base ⟨c, hk, hn⟩⟩


set_option maxHeartbeats 4000000
theorem PySem.Challenge.cw_hiddenmines_k79_whole_ranks_of_layings_holds : PySem.Challenge.rw_hiddenmines_k79_whole_ranks_of_layings.Holds := by
  exact Wk.holds_of Wk.law_true
