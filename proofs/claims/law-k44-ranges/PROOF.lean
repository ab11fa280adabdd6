import PyProof.Rows.All
import Wide.All
import OpenK.AllK
import Wide.FinOn
import HandS.ForMost
import HandS.Codes
import HandS.Strs
import HandS.TupLe
import PyProof.ReprLen
import PyProof.ReprRoads
import HandS.HeadHook1
import PySem.Challenge.RW_graphtwins_k44_ranges
import KE.KStateDown
import Lean
import HandS.More
import HandS.WordsExc
import HandS.Head0
import HandS.Head1
import HandS.Head2
import HandS.HeadEnd
import HandS.HeadHook2
import KE.KDictKeyed
import KE.KeyNested
import KE.KEqDict
import HandS.SetFor
import HandS.TupSets
import HandS.Conv
import HandS.TupAny
import HandS.Style
import HandS.Flow
import HandS.Deep
import HandS.IsInst
import HandS.Replace
import HandS.SortInts
import PyProof.StrBlock2
import HandS.Walk
import HandS.HeadWalk
set_option Elab.async false
set_option linter.all false
set_option maxRecDepth 100000
set_option maxHeartbeats 4000000
/-! Part A: a def's promise where no repr is under way (FnG), its body, its call; the end of the row over such a law; repr of data. -/
namespace Gt
open PySem PySem.Spec PyProof.Rows L2

/-- like FnOk, but only where no repr is being reckoned around the call -/
structure FnG (P : Program) (w : World) (K : PySem.W.Frag) (mg : Str → Option Value) (base : Heap) (k : Nat) (f : Addr) (fd : FuncData) (ps : List Str) (sp : Sp) : Prop where
  size : ∀ vs H Q E, sp vs H Q E → vs.length = ps.length
  goes : ∀ (A : Around) (outer : List Env) (s : Shared) (H : Hp) (args : Args) (us : List Value) (vs : List V) (Q : VK) (E : XK), A.guards = some [] → Room k A →
    Env0 P w K mg base A outer s H → BindsTo s fd args (ps.zip us) → Vals vs us → sp vs H Q E → codeAny (model P w) A (.call (.ref f) args) (CR CX0 outer P w H s Q E) s

section
variable {P : Program} {w : World} {K : PySem.W.Frag} {mg : Str → Option Value} {base : Heap}
theorem FnG.ofOk {k : Nat} {f : Addr} {fd : FuncData} {ps : List Str} {sp : Sp} (F : FnOk P w K mg base CX0 k f fd ps sp) : FnG P w K mg base k f fd ps sp :=
  ⟨F.len, fun A outer s H args us vs Q E _ => F.run A outer s H args us vs Q E⟩

/-- a body keeps such a promise: in its reading the stack is known to hold no repr -/
theorem bodyG {x qual : Str} {st : Stmt} {f : Addr} {fd : FuncData} {N ps : List Str} {k : Nat} {sp : Sp} (F : L2.Fun K x qual st f fd) (S : FnScope N ps (defScope st)) (len : ∀ vs H Q E, sp vs H Q E → vs.length = ps.length)
    (hb : ∀ (cdv : Value) (A : Around) (outer : List Env) (s : Shared) (H : Hp) (vs : List V) (Q : VK) (E : XK), (A.deeper (envOfC qual (defScope st) s.heap.objs.size f cdv)).guards = some [] →
      Room k (A.deeper (envOfC qual (defScope st) s.heap.objs.size f cdv)) → sp vs H Q E →
      ∃ t, PSs (cxOf CX0 P w K mg base N qual (defScope st) f cdv A outer s H E).nox (defBody st) t ∧ t { nx := fun _ H' => Q .non H', rt := Q } (start N vs) H) : FnG P w K mg base (k + 1) f fd ps sp := by
  obtain ⟨oc, od, kV, doc, pm, an, cdv, ct, osl, rfl, lk, hcd⟩ := F.ex
  constructor
  · exact len
  intro A outer s H args us vs Q E hg hr e0 bt rv q
  have KX : K.In s.heap := e0.mod.kin.keeps (fun b o e => (e0.bs b o e).1)
  have kinds : ((ps.zip us).all fun y => (defScope st).names.lookup y.1 == some .local || (defScope st).names.lookup y.1 == some .cell) = true := by
    rw [List.all_eq_true]
    intro y hy
    have hm : y.1 ∈ ps := (List.of_mem_zip (show (y.1, y.2) ∈ ps.zip us from hy)).1
    rcases S.par y.1 hm with z | z <;> rw [z] <;> decide
  obtain ⟨t, ht, hq⟩ := hb cdv A outer s H vs Q E hg (hr.deeper _) q
  refine Att.call_fn KX (e0.mod.nolimit.keeps fun b o e => (e0.bs b o e).1) lk hcd hr.depth bt kinds (fun s1 x => ?_) S.co S.gen S.kind
  have I := inv_start (CX := CX0) (E := E) (f := f) (cd := cdv) (qual := qual) S hr.hd e0 (len _ _ _ _ q) rv x
  refine wpAny_mono (ht.nox.run [] s1 _ H _ I hq) ?_ fun _ _ z => z
  intro fl s' hs
  cases fl with
  | next =>
    obtain ⟨σ2, H2, J, q2⟩ := hs
    exact ⟨.non, H2, J.os, J.bare, J.base, J.hok, rfl, q2⟩
  | ret u =>
    obtain ⟨v, σ2, H2, J, ru, q2⟩ := hs
    exact ⟨v, H2, J.os, J.bare, J.base, J.hok, ru, q2⟩
  | brk => exact (hs.elim fun _ z => z.elim fun _ y => y.2).elim
  | cont => exact (hs.elim fun _ z => z.elim fun _ y => y.2).elim
end

section
variable {X : Cx} {k : Nat} {f : Addr} {fd : FuncData} {ps : List Str} {sp : Sp} {x : Str} {p pos : Pos} {e : Expr} {es : List Expr} {t : TA}
/-- f(e, ..) of such a def, from a body in which no repr is under way -/
theorem pe_g (F : FnG X.prog X.w X.K X.mg X.base k f fd ps sp) (hq : X.A.guards = some []) (hr : Room k X.A) (hg : Gl X x) (hm : X.mg x = some (.ref f)) (kp : PySem.W.keepIn X.K (.ref f) = true) (hb : Binds X.K fd ps [])
    (ha : PA X (e :: es) t) (hdb : (x == ("__debug__" : Str)) = false := by decide) (he : starEach (e :: es) X.env = (false, eval e X.env) :: starEach es X.env := by rfl)
    (hpl : (backTo pos (starEach es X.env)).any (·.1) = false := by rfl) : PE X (.Call (.Name x p) (e :: es) [] pos) (tCall sp [] E0 t) := by
  constructor
  intro pins s σ H Q I h
  refine wpAny_Call_Name_kw (ld_glob I hg hm (PySem.W.callWith_K (h₀ := X.base) I.mod.kin kp ?_ he hpl) hdb)
  refine thn (ha.run pos pins s σ H _ I h) ?_
  rintro us s1 ⟨vs, H1, J, r, q⟩
  refine ⟨J.kIn, wpAny_call ?_⟩
  rw [List.append_nil] at q
  have hl : (us ++ []).length = ps.length := by rw [List.append_nil, ← r.length]; exact F.size _ _ _ _ q
  have bt := hb s1 us J.kIn hl
  rw [List.append_nil] at bt
  refine codeAny_mono (F.goes X.A X.stack s1 H1 ⟨us, []⟩ us vs Q E0 hq hr J.env0 bt r q) ?_
  intro r' s' hs
  cases r' with
  | error e' => exact hs.elim
  | ok fl =>
    cases fl with
    | ret u => exact J.after hs
    | _ => exact False.elim hs
end
end Gt

/-! ### the end of the row -/
namespace Gt
open PySem PySem.Spec PyProof.Rows L2
/-- the call of the law from what the top left, the script tracked as H says -/
theorem endH {P : Program} {w : World} {K : PySem.W.Frag} {mg mb : Str → Option Value} {k : Nat} {fa a : Addr} {fd : FuncData} {x : Str} {sp : Sp} {s : Shared} {H : Hp}
    (KX : K.In s.heap) (hm : s.heap.Ns mainGlobals mg) (hb : s.heap.Ns builtinsNs mb) (hbb : ∀ y : Str, y ≠ "__name__" → mb y = bootBuiltins y) (hl : s.heap.NoLimit) (hg : s.gens = #[]) (hr : Room k callerA)
    (F : ∀ base : Heap, K.In base → base.Ns mainGlobals mg → FnG P w K mg base k fa fd [x] sp) (bt : ∀ (s : Shared) (u : Value), BindsTo s fd ⟨[u], []⟩ [(x, u)])
    (hok : HOk P w H s.heap) (hK : ∀ b o, K.lookup b = some o → H b = none) (hD : ∀ b o es ep, s.heap.get? b = some o → o.data = .dict es ep → H b = none) (hF : ∀ b, H b = none ∨ ∃ o u, H b = some (.frz o u))
    (hsp : sp [.ref a] H (fun v _ => v = .bl true) E0) :
    codeAny (model P w) callerA (.call (.ref fa) ⟨[.ref a], []⟩) (fun r s' => r = .ok (.ret (.bool true)) ∧ OldK s.heap s'.heap ∧ s'.os = s.os ∧ AllBare s'.gens) s := by
  have ns : ∀ {b : Addr} {m : Str → Option Value}, s.heap.Ns b m → (hidT s.heap H).Ns b m := by
    rintro b m ⟨o, es, ep, e, d, r⟩
    exact ⟨o, es, ep, hidT_get e (hD b o es ep e d), d, r⟩
  have kin : K.In (hidT s.heap H) := by
    intro b o e
    exact hidT_get (KX b o e) (hK b o e)
  have lim : (hidT s.heap H).NoLimit := by
    obtain ⟨mc, z1, z2⟩ := hl
    exact ⟨mc, ns z1, z2⟩
  have e0 : Env0 P w K mg (hidT s.heap H) callerA [] s H :=
    { frames := rfl, mod := ⟨kin, ns hm, ⟨mb, ns hb, hbb⟩, lim⟩, bs := fun b o e => of_hidT e, bsz := Nat.le_of_eq (hidT_size _ _), funs := trivial, frf := (fun b z => nomatch z), hok := hok, bare := .of_eq hg }
  refine codeAny_mono ((F _ kin (ns hm)).goes callerA [] s H ⟨[.ref a], []⟩ [.ref a] [.ref a] _ _ rfl hr e0 (bt s (.ref a)) (.cons rfl .nil) hsp) ?_
  intro r' s' q
  cases r' with
  | error e' => exact q.elim
  | ok fl =>
    cases fl with
    | ret u =>
      obtain ⟨v, H', os, bare, un, ok', ru, rfl⟩ := q
      cases ru
      refine ⟨rfl, OldK.of_keep ?_, os, bare⟩
      intro b o e
      rcases hF b with z | ⟨ob, u, z⟩
      · exact un.keep b o e z (fun y => nomatch y) (fun y => nomatch y)
      · have e1 := (hok b _ z).1
        have e2 := (ok' b _ (un.frzs b ob u z)).1
        rw [e] at e1
        rw [e2, e1]
    | _ => exact False.elim q

theorem endG {P : Program} {w : World} {K : PySem.W.Frag} {mg mb : Str → Option Value} {k : Nat} {fa a : Addr} {fd : FuncData} {x : Str} {sp : Sp} {s : Shared} {vs : List Value} {ns : List Int}
    (KX : K.In s.heap) (hm : s.heap.Ns mainGlobals mg) (hb : s.heap.Ns builtinsNs mb) (hbb : ∀ y : Str, y ≠ "__name__" → mb y = bootBuiltins y) (hl : s.heap.NoLimit) (hg : s.gens = #[])
    (ha : s.heap.get? a = some { cls := .type "list", data := .seq vs.toArray }) (hi : IntsAre vs ns) (hz : ns.length ≤ sizeLine) (hr : Room k callerA)
    (F : ∀ base : Heap, K.In base → base.Ns mainGlobals mg → FnG P w K mg base k fa fd [x] sp) (bt : ∀ (s : Shared) (u : Value), BindsTo s fd ⟨[u], []⟩ [(x, u)])
    (hsp : ∀ H : Hp, SqL K H a (ns.map V.int) → sp [.ref a] H (fun v _ => v = .bl true) E0) :
    codeAny (model P w) callerA (.call (.ref fa) ⟨[.ref a], []⟩) (fun r s' => r = .ok (.ret (.bool true)) ∧ OldK s.heap s'.heap ∧ s'.os = s.os ∧ AllBare s'.gens) s := by
  have rv := vals_ints hi
  cases hk : K.lookup a with
  | some o =>
    have e := KX a o hk
    rw [ha] at e
    cases e
    refine endH (H := fun _ => none) KX hm hb hbb hl hg hr F bt (fun b u z => nomatch z) (fun _ _ _ => rfl) (fun _ _ _ _ _ _ => rfl) (fun _ => .inl rfl) (hsp _ (.inr ?_))
    exact ⟨_, vs.toArray, _, hk, rfl, rfl, rfl, by rw [List.size_toArray, hi.length]; exact hz, by simpa using rv⟩
  | none =>
    have at_ : ∀ (b : Addr) (o : HO), (if b = a then some (HO.frz { cls := .type "list", data := .seq vs.toArray } (.lst (ns.map V.int))) else none) = some o → b = a ∧ o = .frz { cls := .type "list", data := .seq vs.toArray } (.lst (ns.map V.int)) := by
      intro b o z
      by_cases e : b = a
      · rw [if_pos e] at z
        exact ⟨e, (Option.some.inj z).symm⟩
      · rw [if_neg e] at z
        cases z
    refine endH (H := fun b => if b = a then some (.frz { cls := .type "list", data := .seq vs.toArray } (.lst (ns.map V.int))) else none) KX hm hb hbb hl hg hr F bt ?_ ?_ ?_ ?_ (hsp _ (.inl (.inr ⟨_, if_pos rfl⟩)))
    · intro b u z
      obtain ⟨rfl, rfl⟩ := at_ b u z
      exact ⟨ha, by rw [List.length_map]; exact hz, vs, _, rv, ha⟩
    · intro b o e
      refine if_neg ?_
      rintro rfl
      rw [hk] at e
      cases e
    · intro b o es ep e d
      refine if_neg ?_
      rintro rfl
      rw [ha] at e
      cases e
      cases (show Data.seq vs.toArray _ = Data.dict es ep from d)
    · intro b
      by_cases e : b = a
      · exact .inr ⟨_, _, if_pos e⟩
      · exact .inl (if_neg e)

/-- what k_head leaves, from the law's promise -/
theorem walkG {l : PySem.W.OpenLaw} {n k : Nat} {q : Program} {loose : List Str} {XP : (Str → Option Value) → Heap → Prop} {YP : World → Heap → Prop} {d : DefRec} {K : World → PySem.W.Frag} {sp : PySem.W.Frag → Sp} {x : Str}
    (hn : l.most = some n) (hn2 : n ≤ sizeLine) (hdf : d.params.defaults = []) (hr : Room k callerA) (hY : ∀ (w : World) (h : Heap), YP w h → (K w).In h)
    (F : ∀ (w : World) (mg : Str → Option Value) (fa : Addr) (h : Heap), YP w h → h.Ns mainGlobals mg → mg d.name = some (.ref fa) →
      ∃ fd : FuncData, (∀ (s : Shared) (u : Value), BindsTo s fd ⟨[u], []⟩ [(x, u)]) ∧ ∀ base : Heap, (K w).In base → base.Ns mainGlobals mg → FnG l.prog w (K w) mg base k fa fd [x] (sp (K w)))
    (hsp : ∀ (K : PySem.W.Frag) (H : Hp) (a : Addr) (ns : List Int), ns.length ≤ n → SqL K H a (ns.map V.int) → sp K [.ref a] H (fun v _ => v = .bl true) E0) :
    PySem.W.WalkO q loose XP YP l.row.toRowW d [] (fun f vs => PySem.call f vs) := by
  refine Att.attach_call hn hdf ?_
  intro w s0 s1 mg mb fa o pm cd doc a vs ns G Y ho hd hcd hmg hobj hints hlen hg
  obtain ⟨fd, bt, hF⟩ := F w mg fa _ Y G.T.g hmg
  exact endG (hY w _ Y) G.T.g G.T.b G.T.builtins G.T.nolimit hg hobj hints (Nat.le_trans hlen hn2) hr hF bt fun H hS => hsp _ H a ns hlen hS
end Gt

/-! ### repr of data -/
namespace Gt
open PySem PySem.Spec PyProof.Rows L2
/-- data whose repr the law may ask -/
structure Fit (d : PyData) : Prop where
  sh : d.showable = true
  nd : d.hasDict = false
  lf : d.leavesShort 13 = true
  wt : d.weight ≤ 2 ^ 20
  dp : d.depth ≤ 60
theorem Fit.short {d : PyData} (h : Fit d) : d.shown.length ≤ sizeLine := PyData.shown_fits (by decide) (by decide) h.lf h.wt
def isRef : V → Bool
  | .ref _ => true
  | _ => false
def isInt : V → Bool
  | .int _ => true
  | _ => false
def rRepr (K : PySem.W.Frag) : List V → Hp → VK → Prop := fun xs H Q => ∃ (x : V) (d : PyData), xs = [x] ∧ (isRef x = true ∨ isInt x = true) ∧ Dp K H x d ∧ Fit d ∧ Q (.str d.shown) H
section
variable {X : Cx}
theorem cr_repr (hq : X.A.guards = some []) (hu : X.A.units + 64 < cLine) : CallR X (.builtin "repr") (rRepr X.K) := by
  intro pins s σ H xs us Q I r h
  obtain ⟨x, d, rfl, hx, hd, ft, q⟩ := h
  obtain ⟨u, rfl, ru⟩ := vals1 r
  rcases hx with hx | hx
  · cases x with
    | ref a =>
      cases ru
      obtain ⟨as, rd⟩ := Dp.reads I d (.ref a) (.ref a) hd rfl
      refine repr_of_reads' rd ft.sh (fun z => absurd (z.symm.trans ft.nd) (by decide)) hq (by have := ft.dp; omega) (fun _ _ e => e) ?_ ft.short
      intro h' u tk hk
      exact ⟨.str d.shown, H, I.kept hk, ⟨u, rfl⟩, q⟩
    | _ => exact absurd hx (by simp [isRef])
  · cases x with
    | int i =>
      obtain ⟨t, rfl⟩ := ru
      cases hd
      have hs : i.natAbs.log2 < 1920 := by simpa [PyData.showable] using ft.sh
      refine PySem.P.repr_of_int hs ⟨.str _, H, I.tok _, ⟨_, rfl⟩, ?_⟩
      rw [PyData.shown_int] at q
      exact q
    | _ => exact absurd hx (by simp [isInt])
end
end Gt
set_option Elab.async false
set_option linter.all false
set_option maxRecDepth 100000
set_option maxHeartbeats 4000000
/-! The text by places: each def that the law reaches, as a statement of the program's top. Printed by texts.py. -/
namespace Gt
open PySem PySem.Spec PyProof.Rows L2
def top (i : Nat) : Stmt := PySem.Challenge.pw_graphtwins_k44_ranges.main.body.getD i (.Pass ⟨0, 0, 0, 0⟩)
abbrev sTargetOf : Stmt := top 10
abbrev sIsReference : Stmt := top 11
abbrev sRangesOf : Stmt := top 13
abbrev sNumbersOf : Stmt := top 14
abbrev sTold : Stmt := top 15
abbrev sOutside : Stmt := top 16
abbrev sLacking : Stmt := top 17
abbrev sAnswer : Stmt := top 18
abbrev sBring : Stmt := top 19
abbrev sIsLater : Stmt := top 27
abbrev sNumberOctets : Stmt := top 37
abbrev sWordOctets : Stmt := top 38
abbrev sNameOctets : Stmt := top 43
abbrev sWorthOctets : Stmt := top 44
abbrev sChangeOctets : Stmt := top 45
abbrev sCheckOf : Stmt := top 46
abbrev sMessageOctets : Stmt := top 47
abbrev sReadMessage : Stmt := top 49
abbrev sLawCell : Stmt := top 53
abbrev sLawRow : Stmt := top 54
abbrev sLawBox : Stmt := top 55
abbrev sLawDraw : Stmt := top 56
abbrev sLawSame : Stmt := top 57
abbrev sLawPick : Stmt := top 58
abbrev sLawWorth : Stmt := top 59
abbrev sLawField : Stmt := top 60
abbrev sLawCells : Stmt := top 61
abbrev sLawRanges : Stmt := top 62
abbrev sLawRowOf : Stmt := top 63
abbrev sLawMessages : Stmt := top 64
abbrev sLawSome : Stmt := top 65
abbrev sLawTold : Stmt := top 66
abbrev sLawHas : Stmt := top 67
abbrev sLaw : Stmt := top 68
abbrev sStateInit : Stmt := inClass (top 30) 0
abbrev sStateTake : Stmt := inClass (top 30) 1
abbrev sMessageInit : Stmt := inClass (top 39) 0
abbrev sMessageOctet : Stmt := inClass (top 39) 1
abbrev sMessageNumber : Stmt := inClass (top 39) 2
abbrev sMessageLetters : Stmt := inClass (top 39) 4
abbrev sMessageName : Stmt := inClass (top 48) 0
abbrev sMessageStamp : Stmt := inClass (top 48) 1
abbrev sMessageWorth : Stmt := inClass (top 48) 2
abbrev sMessageChange : Stmt := inClass (top 48) 3
abbrev sReplicaInit : Stmt := inClass (top 51) 0
abbrev sReplicaCopyOf : Stmt := inClass (top 51) 12
abbrev sReplicaAccept : Stmt := inClass (top 51) 13
abbrev sReplicaReceive : Stmt := inClass (top 51) 14
end Gt
set_option Elab.async false
set_option linter.all false
set_option maxRecDepth 100000
set_option maxHeartbeats 0
/-! The head: what the top has written, by one kernel run, told by names. Printed by texts.py. -/
namespace Gt
open PySem PySem.Spec PyProof.Rows L2
abbrev R : PySem.W.OpenRow := PySem.W.OpenLaw.row PySem.Challenge.rw_graphtwins_k44_ranges
def fnd (st : Stmt) (x : Str) : He.FnD := ⟨(x, none), x, x, defArgs st, defBody st, defScope st⟩
def fnm (st : Stmt) (C m : Str) (q : Str) : He.FnD := ⟨(C, some m), m, q, defArgs st, defBody st, defScope st⟩
def fns : List He.FnD := [fnd sTargetOf "target_of",
  fnd sIsReference "is_reference",
  fnd sRangesOf "ranges_of",
  fnd sNumbersOf "numbers_of",
  fnd sTold "told",
  fnd sOutside "outside",
  fnd sLacking "lacking",
  fnd sAnswer "answer",
  fnd sBring "bring",
  fnd sIsLater "is_later",
  fnd sNumberOctets "number_octets",
  fnd sWordOctets "word_octets",
  fnd sNameOctets "name_octets",
  fnd sWorthOctets "worth_octets",
  fnd sChangeOctets "change_octets",
  fnd sCheckOf "check_of",
  fnd sMessageOctets "message_octets",
  fnd sReadMessage "read_message",
  fnd sLawCell "_law_cell",
  fnd sLawRow "_law_row",
  fnd sLawBox "_law_box",
  fnd sLawDraw "_law_draw",
  fnd sLawSame "_law_same",
  fnd sLawPick "_law_pick",
  fnd sLawWorth "_law_worth",
  fnd sLawField "_law_field",
  fnd sLawCells "_law_cells",
  fnd sLawRanges "_law_ranges",
  fnd sLawRowOf "_law_row_of",
  fnd sLawMessages "_law_messages",
  fnd sLawSome "_law_some",
  fnd sLawTold "_law_told",
  fnd sLawHas "_law_has",
  fnd sLaw "law",
  fnm sStateInit "State" "__init__" "State.__init__",
  fnm sStateTake "State" "take" "State.take",
  fnm sMessageInit "Message" "__init__" "Reader.__init__",
  fnm sMessageOctet "Message" "octet" "Reader.octet",
  fnm sMessageNumber "Message" "number" "Reader.number",
  fnm sMessageLetters "Message" "letters" "Reader.letters",
  fnm sMessageName "Message" "name" "Message.name",
  fnm sMessageStamp "Message" "stamp" "Message.stamp",
  fnm sMessageWorth "Message" "worth" "Message.worth",
  fnm sMessageChange "Message" "change" "Message.change",
  fnm sReplicaInit "Replica" "__init__" "Replica.__init__",
  fnm sReplicaCopyOf "Replica" "copy_of" "Replica.copy_of",
  fnm sReplicaAccept "Replica" "accept" "Replica.accept",
  fnm sReplicaReceive "Replica" "receive" "Replica.receive"]
def fas : List He.Fa := [.glo "target_of",
  .keep "target_of",
  .glo "is_reference",
  .keep "is_reference",
  .glo "ranges_of",
  .keep "ranges_of",
  .glo "numbers_of",
  .keep "numbers_of",
  .glo "told",
  .keep "told",
  .glo "outside",
  .keep "outside",
  .glo "lacking",
  .keep "lacking",
  .glo "answer",
  .keep "answer",
  .glo "bring",
  .keep "bring",
  .glo "is_later",
  .keep "is_later",
  .glo "number_octets",
  .keep "number_octets",
  .glo "word_octets",
  .keep "word_octets",
  .glo "name_octets",
  .keep "name_octets",
  .glo "worth_octets",
  .keep "worth_octets",
  .glo "change_octets",
  .keep "change_octets",
  .glo "check_of",
  .keep "check_of",
  .glo "message_octets",
  .keep "message_octets",
  .glo "read_message",
  .keep "read_message",
  .glo "_law_cell",
  .keep "_law_cell",
  .glo "_law_row",
  .keep "_law_row",
  .glo "_law_box",
  .keep "_law_box",
  .glo "_law_draw",
  .keep "_law_draw",
  .glo "_law_same",
  .keep "_law_same",
  .glo "_law_pick",
  .keep "_law_pick",
  .glo "_law_worth",
  .keep "_law_worth",
  .glo "_law_field",
  .keep "_law_field",
  .glo "_law_cells",
  .keep "_law_cells",
  .glo "_law_ranges",
  .keep "_law_ranges",
  .glo "_law_row_of",
  .keep "_law_row_of",
  .glo "_law_messages",
  .keep "_law_messages",
  .glo "_law_some",
  .keep "_law_some",
  .glo "_law_told",
  .keep "_law_told",
  .glo "_law_has",
  .keep "_law_has",
  .glo "law",
  .keep "law",
  .free "len",
  .free "sorted",
  .free "set",
  .free "list",
  .free "range",
  .free "isinstance",
  .free "str",
  .free "tuple",
  .free "int",
  .free "max",
  .free "min",
  .free "repr",
  .int "PEERS" 8,
  .int "COUNT_MOST" 4294967295,
  .int "FIELD_MOST" 8,
  .int "TEXT_MOST" 20,
  .int "INTEGER_MOST" 1000000,
  .int "INTEGER" 1,
  .int "TEXT" 2,
  .int "REFERENCE" 3,
  .int "CODE" 97,
  .int "NOTHING" 0,
  .int "CHANGES_MOST" 65535,
  .str "LETTERS" "abcdefghijklmnopqrstuvwxyz",
  .str "REF" "ref",
  .glo "ROOT",
  .glo "UNITS",
  .glo "State",
  .cls "State",
  .mkr "State",
  .glo "Message",
  .cls "Message",
  .mkr "Message",
  .glo "Replica",
  .cls "Replica",
  .mkr "Replica",
  .noat "State" "cells",
  .noat "Message" "octets",
  .noat "Message" "place",
  .noat "Message" "known",
  .noat "Replica" "peer",
  .noat "Replica" "clock",
  .noat "Replica" "made",
  .noat "Replica" "state",
  .noat "Replica" "roots",
  .noat "Replica" "pending",
  .noat "Replica" "messages",
  .meth "State" "__init__",
  .meth "State" "take",
  .meth "Message" "__init__",
  .meth "Message" "octet",
  .meth "Message" "number",
  .meth "Message" "letters",
  .meth "Message" "name",
  .meth "Message" "stamp",
  .meth "Message" "worth",
  .meth "Message" "change",
  .meth "Replica" "__init__",
  .meth "Replica" "copy_of",
  .meth "Replica" "accept",
  .meth "Replica" "receive"]
def loose0 : List PySem.Str := ["_wall", "__name__", "LETTERS", "PEERS", "COUNT_MOST", "FIELD_MOST", "TEXT_MOST", "INTEGER_MOST", "ROOT", "REF", "target_of", "is_reference", "ranges_of", "numbers_of", "told", "outside", "lacking", "answer", "bring", "GraphtwinsError"]
def loose1 : List PySem.Str := ["CodeError", "NoSuchObject", "BadPeer", "NoSuchMessage", "is_later", "sorted_changes", "State", "INTEGER", "TEXT", "REFERENCE", "CODE", "UNITS", "number_octets", "word_octets", "Reader", "NOTHING", "CHANGES_MOST", "name_octets", "worth_octets", "change_octets"]
def loose2 : List PySem.Str := ["check_of", "message_octets", "Message", "read_message", "Replica", "_law_cell", "_law_row", "_law_box", "_law_draw", "_law_same", "_law_pick", "_law_worth", "_law_field", "_law_cells", "_law_ranges", "_law_row_of", "_law_messages", "_law_some", "_law_told", "_law_has"]
def loose : List PySem.Str := loose0 ++ loose1 ++ loose2
def tabs (K : PySem.W.Frag) : Bool := He.tupB K "ROOT" [.int 0, .int 0] && He.tupB K "UNITS" [.int 16777216, .int 65536, .int 256, .int 1]
abbrev AlX : Type := Bool × He.Al
def obsX (K : PySem.W.Frag) : AlX := (tabs K, He.obsE fas fns K)
def valX : AlX := (true, He.valE fns)
def SaysX (K : PySem.W.Frag) : Prop := obsX K = valX
def hk : PySem.W.Hook where
  α := AlX
  obs := fun s => obsX (He.frG s.heap.get? (He.asG s.heap.get? 5))
  val := fun _ => valX
  says := fun _ h => ∃ K : PySem.W.Frag, K.In h ∧ SaysX K
  of := fun _ _ e => ⟨_, He.frG_in, e⟩
  keeps := fun _ _ _ ⟨K, hK, c⟩ k => ⟨K, PySem.W.Frag.In.keeps hK k, c⟩
def ob (s : PySem.W.SharedT) : AlX := obsX (He.frG (HandSHeadRun.getT s) (He.asG (HandSHeadRun.getT s) 5))
theorem ob_eq (s : PySem.W.SharedT) : ob s = hk.obs s.abs := by
  have e : HandSHeadRun.getT s = s.abs.heap.get? := funext (HandSHeadRun.getT_eq s)
  unfold ob
  rw [e]
  rfl
theorem run (w : World) : HandSHeadRun.RunEq R (PySem.W.view R.prog [68]) hk ob 6000 loose w := by
  intro os
  kernel_rfl
end Gt
set_option Elab.async false
set_option linter.all false
set_option maxRecDepth 100000
set_option maxHeartbeats 4000000
/-! The head's facts, each under a name. Printed by mkx.py. -/
namespace Gt
open PySem PySem.Spec PyProof.Rows L2
/-- what the walk asks of the top -/
structure Tx (K : PySem.W.Frag) (mg : Str → Option Value) : Prop where
  at_ : ∃ h : Heap, K.In h ∧ h.Ns mainGlobals mg
  says : SaysX K
section
variable {K : PySem.W.Frag} {mg : Str → Option Value}
theorem Tx.se (T : Tx K mg) : He.SaysE fas fns K := congrArg (fun z : AlX => z.2) T.says
theorem Tx.tb (T : Tx K mg) : tabs K = true := congrArg (fun z : AlX => z.1) T.says
theorem Tx.fa (T : Tx K mg) (i : Nat) {f : He.Fa} (h : fas[i]? = some f := by rfl) : f.ok K = true := T.se.fact i h
theorem Tx.glo (T : Tx K mg) {x : Str} (c : (He.Fa.glo x).ok K = true) : mg x = some (.ref (He.ga K x)) := let ⟨_, a, b⟩ := T.at_; He.glo_ok a b c
theorem Tx.free (T : Tx K mg) {x : Str} (c : (He.Fa.free x).ok K = true) : mg x = none := let ⟨_, a, b⟩ := T.at_; He.free_ok a b c
theorem Tx.int (T : Tx K mg) {x : Str} {i : Int} (c : (He.Fa.int x i).ok K = true) : ∃ u, mg x = some u ∧ RelV (.int i) u := by
  obtain ⟨_, a, b⟩ := T.at_
  obtain ⟨t, e⟩ := He.int_ok a b c
  exact ⟨_, e, t, rfl⟩
theorem Tx.str (T : Tx K mg) {x z : Str} (c : (He.Fa.str x z).ok K = true) : ∃ u, mg x = some u ∧ RelV (.str z) u := by
  obtain ⟨_, a, b⟩ := T.at_
  obtain ⟨t, e⟩ := He.str_ok a b c
  exact ⟨_, e, t, rfl⟩
theorem Tx.fun_ (T : Tx K mg) (i : Nat) {d : He.FnD} (kp : PySem.W.keepIn K (.ref (He.fAd K d.at_)) = true) (st : Stmt) (e1 : d.params = defArgs st) (e2 : d.body = defBody st) (e3 : d.scope = defScope st) (h : fns[i]? = some d := by rfl) :
    ∃ fd, L2.Fun K d.name d.qual st (He.fAd K d.at_) fd := by
  obtain ⟨oc, od, osl, kV, doc, pm, an, cdv, ct, l, c⟩ := T.se.def_ i h
  rw [e1, e2, e3] at l
  exact ⟨_, fun_mk l c kp⟩
theorem Tx.root (T : Tx K mg) (H : Hp) : SqT K H (He.ga K "ROOT") [.int 0, .int 0] := He.tupB_ok (He.ba T.tb).1 H
theorem Tx.units (T : Tx K mg) (H : Hp) : SqT K H (He.ga K "UNITS") [.int 16777216, .int 65536, .int 256, .int 1] := He.tupB_ok (He.ba T.tb).2 H
theorem Tx.g_target_of (T : Tx K mg) : mg "target_of" = some (.ref (He.ga K "target_of")) := T.glo (T.fa 0)
theorem Tx.k_target_of (T : Tx K mg) : PySem.W.keepIn K (.ref (He.ga K "target_of")) = true := He.keep_ok (T.fa 1)
theorem Tx.g_is_reference (T : Tx K mg) : mg "is_reference" = some (.ref (He.ga K "is_reference")) := T.glo (T.fa 2)
theorem Tx.k_is_reference (T : Tx K mg) : PySem.W.keepIn K (.ref (He.ga K "is_reference")) = true := He.keep_ok (T.fa 3)
theorem Tx.g_ranges_of (T : Tx K mg) : mg "ranges_of" = some (.ref (He.ga K "ranges_of")) := T.glo (T.fa 4)
theorem Tx.k_ranges_of (T : Tx K mg) : PySem.W.keepIn K (.ref (He.ga K "ranges_of")) = true := He.keep_ok (T.fa 5)
theorem Tx.g_numbers_of (T : Tx K mg) : mg "numbers_of" = some (.ref (He.ga K "numbers_of")) := T.glo (T.fa 6)
theorem Tx.k_numbers_of (T : Tx K mg) : PySem.W.keepIn K (.ref (He.ga K "numbers_of")) = true := He.keep_ok (T.fa 7)
theorem Tx.g_told (T : Tx K mg) : mg "told" = some (.ref (He.ga K "told")) := T.glo (T.fa 8)
theorem Tx.k_told (T : Tx K mg) : PySem.W.keepIn K (.ref (He.ga K "told")) = true := He.keep_ok (T.fa 9)
theorem Tx.g_outside (T : Tx K mg) : mg "outside" = some (.ref (He.ga K "outside")) := T.glo (T.fa 10)
theorem Tx.k_outside (T : Tx K mg) : PySem.W.keepIn K (.ref (He.ga K "outside")) = true := He.keep_ok (T.fa 11)
theorem Tx.g_lacking (T : Tx K mg) : mg "lacking" = some (.ref (He.ga K "lacking")) := T.glo (T.fa 12)
theorem Tx.k_lacking (T : Tx K mg) : PySem.W.keepIn K (.ref (He.ga K "lacking")) = true := He.keep_ok (T.fa 13)
theorem Tx.g_answer (T : Tx K mg) : mg "answer" = some (.ref (He.ga K "answer")) := T.glo (T.fa 14)
theorem Tx.k_answer (T : Tx K mg) : PySem.W.keepIn K (.ref (He.ga K "answer")) = true := He.keep_ok (T.fa 15)
theorem Tx.g_bring (T : Tx K mg) : mg "bring" = some (.ref (He.ga K "bring")) := T.glo (T.fa 16)
theorem Tx.k_bring (T : Tx K mg) : PySem.W.keepIn K (.ref (He.ga K "bring")) = true := He.keep_ok (T.fa 17)
theorem Tx.g_is_later (T : Tx K mg) : mg "is_later" = some (.ref (He.ga K "is_later")) := T.glo (T.fa 18)
theorem Tx.k_is_later (T : Tx K mg) : PySem.W.keepIn K (.ref (He.ga K "is_later")) = true := He.keep_ok (T.fa 19)
theorem Tx.g_number_octets (T : Tx K mg) : mg "number_octets" = some (.ref (He.ga K "number_octets")) := T.glo (T.fa 20)
theorem Tx.k_number_octets (T : Tx K mg) : PySem.W.keepIn K (.ref (He.ga K "number_octets")) = true := He.keep_ok (T.fa 21)
theorem Tx.g_word_octets (T : Tx K mg) : mg "word_octets" = some (.ref (He.ga K "word_octets")) := T.glo (T.fa 22)
theorem Tx.k_word_octets (T : Tx K mg) : PySem.W.keepIn K (.ref (He.ga K "word_octets")) = true := He.keep_ok (T.fa 23)
theorem Tx.g_name_octets (T : Tx K mg) : mg "name_octets" = some (.ref (He.ga K "name_octets")) := T.glo (T.fa 24)
theorem Tx.k_name_octets (T : Tx K mg) : PySem.W.keepIn K (.ref (He.ga K "name_octets")) = true := He.keep_ok (T.fa 25)
theorem Tx.g_worth_octets (T : Tx K mg) : mg "worth_octets" = some (.ref (He.ga K "worth_octets")) := T.glo (T.fa 26)
theorem Tx.k_worth_octets (T : Tx K mg) : PySem.W.keepIn K (.ref (He.ga K "worth_octets")) = true := He.keep_ok (T.fa 27)
theorem Tx.g_change_octets (T : Tx K mg) : mg "change_octets" = some (.ref (He.ga K "change_octets")) := T.glo (T.fa 28)
theorem Tx.k_change_octets (T : Tx K mg) : PySem.W.keepIn K (.ref (He.ga K "change_octets")) = true := He.keep_ok (T.fa 29)
theorem Tx.g_check_of (T : Tx K mg) : mg "check_of" = some (.ref (He.ga K "check_of")) := T.glo (T.fa 30)
theorem Tx.k_check_of (T : Tx K mg) : PySem.W.keepIn K (.ref (He.ga K "check_of")) = true := He.keep_ok (T.fa 31)
theorem Tx.g_message_octets (T : Tx K mg) : mg "message_octets" = some (.ref (He.ga K "message_octets")) := T.glo (T.fa 32)
theorem Tx.k_message_octets (T : Tx K mg) : PySem.W.keepIn K (.ref (He.ga K "message_octets")) = true := He.keep_ok (T.fa 33)
theorem Tx.g_read_message (T : Tx K mg) : mg "read_message" = some (.ref (He.ga K "read_message")) := T.glo (T.fa 34)
theorem Tx.k_read_message (T : Tx K mg) : PySem.W.keepIn K (.ref (He.ga K "read_message")) = true := He.keep_ok (T.fa 35)
theorem Tx.g__law_cell (T : Tx K mg) : mg "_law_cell" = some (.ref (He.ga K "_law_cell")) := T.glo (T.fa 36)
theorem Tx.k__law_cell (T : Tx K mg) : PySem.W.keepIn K (.ref (He.ga K "_law_cell")) = true := He.keep_ok (T.fa 37)
theorem Tx.g__law_row (T : Tx K mg) : mg "_law_row" = some (.ref (He.ga K "_law_row")) := T.glo (T.fa 38)
theorem Tx.k__law_row (T : Tx K mg) : PySem.W.keepIn K (.ref (He.ga K "_law_row")) = true := He.keep_ok (T.fa 39)
theorem Tx.g__law_box (T : Tx K mg) : mg "_law_box" = some (.ref (He.ga K "_law_box")) := T.glo (T.fa 40)
theorem Tx.k__law_box (T : Tx K mg) : PySem.W.keepIn K (.ref (He.ga K "_law_box")) = true := He.keep_ok (T.fa 41)
theorem Tx.g__law_draw (T : Tx K mg) : mg "_law_draw" = some (.ref (He.ga K "_law_draw")) := T.glo (T.fa 42)
theorem Tx.k__law_draw (T : Tx K mg) : PySem.W.keepIn K (.ref (He.ga K "_law_draw")) = true := He.keep_ok (T.fa 43)
theorem Tx.g__law_same (T : Tx K mg) : mg "_law_same" = some (.ref (He.ga K "_law_same")) := T.glo (T.fa 44)
theorem Tx.k__law_same (T : Tx K mg) : PySem.W.keepIn K (.ref (He.ga K "_law_same")) = true := He.keep_ok (T.fa 45)
theorem Tx.g__law_pick (T : Tx K mg) : mg "_law_pick" = some (.ref (He.ga K "_law_pick")) := T.glo (T.fa 46)
theorem Tx.k__law_pick (T : Tx K mg) : PySem.W.keepIn K (.ref (He.ga K "_law_pick")) = true := He.keep_ok (T.fa 47)
theorem Tx.g__law_worth (T : Tx K mg) : mg "_law_worth" = some (.ref (He.ga K "_law_worth")) := T.glo (T.fa 48)
theorem Tx.k__law_worth (T : Tx K mg) : PySem.W.keepIn K (.ref (He.ga K "_law_worth")) = true := He.keep_ok (T.fa 49)
theorem Tx.g__law_field (T : Tx K mg) : mg "_law_field" = some (.ref (He.ga K "_law_field")) := T.glo (T.fa 50)
theorem Tx.k__law_field (T : Tx K mg) : PySem.W.keepIn K (.ref (He.ga K "_law_field")) = true := He.keep_ok (T.fa 51)
theorem Tx.g__law_cells (T : Tx K mg) : mg "_law_cells" = some (.ref (He.ga K "_law_cells")) := T.glo (T.fa 52)
theorem Tx.k__law_cells (T : Tx K mg) : PySem.W.keepIn K (.ref (He.ga K "_law_cells")) = true := He.keep_ok (T.fa 53)
theorem Tx.g__law_ranges (T : Tx K mg) : mg "_law_ranges" = some (.ref (He.ga K "_law_ranges")) := T.glo (T.fa 54)
theorem Tx.k__law_ranges (T : Tx K mg) : PySem.W.keepIn K (.ref (He.ga K "_law_ranges")) = true := He.keep_ok (T.fa 55)
theorem Tx.g__law_row_of (T : Tx K mg) : mg "_law_row_of" = some (.ref (He.ga K "_law_row_of")) := T.glo (T.fa 56)
theorem Tx.k__law_row_of (T : Tx K mg) : PySem.W.keepIn K (.ref (He.ga K "_law_row_of")) = true := He.keep_ok (T.fa 57)
theorem Tx.g__law_messages (T : Tx K mg) : mg "_law_messages" = some (.ref (He.ga K "_law_messages")) := T.glo (T.fa 58)
theorem Tx.k__law_messages (T : Tx K mg) : PySem.W.keepIn K (.ref (He.ga K "_law_messages")) = true := He.keep_ok (T.fa 59)
theorem Tx.g__law_some (T : Tx K mg) : mg "_law_some" = some (.ref (He.ga K "_law_some")) := T.glo (T.fa 60)
theorem Tx.k__law_some (T : Tx K mg) : PySem.W.keepIn K (.ref (He.ga K "_law_some")) = true := He.keep_ok (T.fa 61)
theorem Tx.g__law_told (T : Tx K mg) : mg "_law_told" = some (.ref (He.ga K "_law_told")) := T.glo (T.fa 62)
theorem Tx.k__law_told (T : Tx K mg) : PySem.W.keepIn K (.ref (He.ga K "_law_told")) = true := He.keep_ok (T.fa 63)
theorem Tx.g__law_has (T : Tx K mg) : mg "_law_has" = some (.ref (He.ga K "_law_has")) := T.glo (T.fa 64)
theorem Tx.k__law_has (T : Tx K mg) : PySem.W.keepIn K (.ref (He.ga K "_law_has")) = true := He.keep_ok (T.fa 65)
theorem Tx.g_law (T : Tx K mg) : mg "law" = some (.ref (He.ga K "law")) := T.glo (T.fa 66)
theorem Tx.k_law (T : Tx K mg) : PySem.W.keepIn K (.ref (He.ga K "law")) = true := He.keep_ok (T.fa 67)
theorem Tx.n_len (T : Tx K mg) : mg "len" = none := T.free (T.fa 68)
theorem Tx.n_sorted (T : Tx K mg) : mg "sorted" = none := T.free (T.fa 69)
theorem Tx.n_set (T : Tx K mg) : mg "set" = none := T.free (T.fa 70)
theorem Tx.n_list (T : Tx K mg) : mg "list" = none := T.free (T.fa 71)
theorem Tx.n_range (T : Tx K mg) : mg "range" = none := T.free (T.fa 72)
theorem Tx.n_isinstance (T : Tx K mg) : mg "isinstance" = none := T.free (T.fa 73)
theorem Tx.n_str (T : Tx K mg) : mg "str" = none := T.free (T.fa 74)
theorem Tx.n_tuple (T : Tx K mg) : mg "tuple" = none := T.free (T.fa 75)
theorem Tx.n_int (T : Tx K mg) : mg "int" = none := T.free (T.fa 76)
theorem Tx.n_max (T : Tx K mg) : mg "max" = none := T.free (T.fa 77)
theorem Tx.n_min (T : Tx K mg) : mg "min" = none := T.free (T.fa 78)
theorem Tx.n_repr (T : Tx K mg) : mg "repr" = none := T.free (T.fa 79)
theorem Tx.i_PEERS (T : Tx K mg) : ∃ u, mg "PEERS" = some u ∧ RelV (.int 8) u := T.int (T.fa 80)
theorem Tx.i_COUNT_MOST (T : Tx K mg) : ∃ u, mg "COUNT_MOST" = some u ∧ RelV (.int 4294967295) u := T.int (T.fa 81)
theorem Tx.i_FIELD_MOST (T : Tx K mg) : ∃ u, mg "FIELD_MOST" = some u ∧ RelV (.int 8) u := T.int (T.fa 82)
theorem Tx.i_TEXT_MOST (T : Tx K mg) : ∃ u, mg "TEXT_MOST" = some u ∧ RelV (.int 20) u := T.int (T.fa 83)
theorem Tx.i_INTEGER_MOST (T : Tx K mg) : ∃ u, mg "INTEGER_MOST" = some u ∧ RelV (.int 1000000) u := T.int (T.fa 84)
theorem Tx.i_INTEGER (T : Tx K mg) : ∃ u, mg "INTEGER" = some u ∧ RelV (.int 1) u := T.int (T.fa 85)
theorem Tx.i_TEXT (T : Tx K mg) : ∃ u, mg "TEXT" = some u ∧ RelV (.int 2) u := T.int (T.fa 86)
theorem Tx.i_REFERENCE (T : Tx K mg) : ∃ u, mg "REFERENCE" = some u ∧ RelV (.int 3) u := T.int (T.fa 87)
theorem Tx.i_CODE (T : Tx K mg) : ∃ u, mg "CODE" = some u ∧ RelV (.int 97) u := T.int (T.fa 88)
theorem Tx.i_NOTHING (T : Tx K mg) : ∃ u, mg "NOTHING" = some u ∧ RelV (.int 0) u := T.int (T.fa 89)
theorem Tx.i_CHANGES_MOST (T : Tx K mg) : ∃ u, mg "CHANGES_MOST" = some u ∧ RelV (.int 65535) u := T.int (T.fa 90)
theorem Tx.s_LETTERS (T : Tx K mg) : ∃ u, mg "LETTERS" = some u ∧ RelV (.str "abcdefghijklmnopqrstuvwxyz") u := T.str (T.fa 91)
theorem Tx.s_REF (T : Tx K mg) : ∃ u, mg "REF" = some u ∧ RelV (.str "ref") u := T.str (T.fa 92)
theorem Tx.g_ROOT (T : Tx K mg) : mg "ROOT" = some (.ref (He.ga K "ROOT")) := T.glo (T.fa 93)
theorem Tx.g_UNITS (T : Tx K mg) : mg "UNITS" = some (.ref (He.ga K "UNITS")) := T.glo (T.fa 94)
theorem Tx.g_State (T : Tx K mg) : mg "State" = some (.ref (He.ga K "State")) := T.glo (T.fa 95)
theorem Tx.c_State (T : Tx K mg) : Cls K (He.ga K "State") := He.cls_ok (T.fa 96)
theorem Tx.m_State (T : Tx K mg) : Mk K (He.ga K "State") (He.ma K (He.ga K "State") "__init__") := He.mkr_ok (T.fa 97)
theorem Tx.g_Message (T : Tx K mg) : mg "Message" = some (.ref (He.ga K "Message")) := T.glo (T.fa 98)
theorem Tx.c_Message (T : Tx K mg) : Cls K (He.ga K "Message") := He.cls_ok (T.fa 99)
theorem Tx.m_Message (T : Tx K mg) : Mk K (He.ga K "Message") (He.ma K (He.ga K "Message") "__init__") := He.mkr_ok (T.fa 100)
theorem Tx.g_Replica (T : Tx K mg) : mg "Replica" = some (.ref (He.ga K "Replica")) := T.glo (T.fa 101)
theorem Tx.c_Replica (T : Tx K mg) : Cls K (He.ga K "Replica") := He.cls_ok (T.fa 102)
theorem Tx.m_Replica (T : Tx K mg) : Mk K (He.ga K "Replica") (He.ma K (He.ga K "Replica") "__init__") := He.mkr_ok (T.fa 103)
theorem Tx.a_State_cells (T : Tx K mg) : NoAttr K (He.ga K "State") "cells" := He.noat_ok (T.fa 104)
theorem Tx.a_Message_octets (T : Tx K mg) : NoAttr K (He.ga K "Message") "octets" := He.noat_ok (T.fa 105)
theorem Tx.a_Message_place (T : Tx K mg) : NoAttr K (He.ga K "Message") "place" := He.noat_ok (T.fa 106)
theorem Tx.a_Message_known (T : Tx K mg) : NoAttr K (He.ga K "Message") "known" := He.noat_ok (T.fa 107)
theorem Tx.a_Replica_peer (T : Tx K mg) : NoAttr K (He.ga K "Replica") "peer" := He.noat_ok (T.fa 108)
theorem Tx.a_Replica_clock (T : Tx K mg) : NoAttr K (He.ga K "Replica") "clock" := He.noat_ok (T.fa 109)
theorem Tx.a_Replica_made (T : Tx K mg) : NoAttr K (He.ga K "Replica") "made" := He.noat_ok (T.fa 110)
theorem Tx.a_Replica_state (T : Tx K mg) : NoAttr K (He.ga K "Replica") "state" := He.noat_ok (T.fa 111)
theorem Tx.a_Replica_roots (T : Tx K mg) : NoAttr K (He.ga K "Replica") "roots" := He.noat_ok (T.fa 112)
theorem Tx.a_Replica_pending (T : Tx K mg) : NoAttr K (He.ga K "Replica") "pending" := He.noat_ok (T.fa 113)
theorem Tx.a_Replica_messages (T : Tx K mg) : NoAttr K (He.ga K "Replica") "messages" := He.noat_ok (T.fa 114)
theorem Tx.e_State___init__ (T : Tx K mg) : Meth K (He.ga K "State") "__init__" (He.ma K (He.ga K "State") "__init__") := He.meth_ok (T.fa 115)
theorem Tx.e_State_take (T : Tx K mg) : Meth K (He.ga K "State") "take" (He.ma K (He.ga K "State") "take") := He.meth_ok (T.fa 116)
theorem Tx.e_Message___init__ (T : Tx K mg) : Meth K (He.ga K "Message") "__init__" (He.ma K (He.ga K "Message") "__init__") := He.meth_ok (T.fa 117)
theorem Tx.e_Message_octet (T : Tx K mg) : Meth K (He.ga K "Message") "octet" (He.ma K (He.ga K "Message") "octet") := He.meth_ok (T.fa 118)
theorem Tx.e_Message_number (T : Tx K mg) : Meth K (He.ga K "Message") "number" (He.ma K (He.ga K "Message") "number") := He.meth_ok (T.fa 119)
theorem Tx.e_Message_letters (T : Tx K mg) : Meth K (He.ga K "Message") "letters" (He.ma K (He.ga K "Message") "letters") := He.meth_ok (T.fa 120)
theorem Tx.e_Message_name (T : Tx K mg) : Meth K (He.ga K "Message") "name" (He.ma K (He.ga K "Message") "name") := He.meth_ok (T.fa 121)
theorem Tx.e_Message_stamp (T : Tx K mg) : Meth K (He.ga K "Message") "stamp" (He.ma K (He.ga K "Message") "stamp") := He.meth_ok (T.fa 122)
theorem Tx.e_Message_worth (T : Tx K mg) : Meth K (He.ga K "Message") "worth" (He.ma K (He.ga K "Message") "worth") := He.meth_ok (T.fa 123)
theorem Tx.e_Message_change (T : Tx K mg) : Meth K (He.ga K "Message") "change" (He.ma K (He.ga K "Message") "change") := He.meth_ok (T.fa 124)
theorem Tx.e_Replica___init__ (T : Tx K mg) : Meth K (He.ga K "Replica") "__init__" (He.ma K (He.ga K "Replica") "__init__") := He.meth_ok (T.fa 125)
theorem Tx.e_Replica_copy_of (T : Tx K mg) : Meth K (He.ga K "Replica") "copy_of" (He.ma K (He.ga K "Replica") "copy_of") := He.meth_ok (T.fa 126)
theorem Tx.e_Replica_accept (T : Tx K mg) : Meth K (He.ga K "Replica") "accept" (He.ma K (He.ga K "Replica") "accept") := He.meth_ok (T.fa 127)
theorem Tx.e_Replica_receive (T : Tx K mg) : Meth K (He.ga K "Replica") "receive" (He.ma K (He.ga K "Replica") "receive") := He.meth_ok (T.fa 128)
theorem Tx.d_target_of (T : Tx K mg) : ∃ fd, L2.Fun K "target_of" "target_of" sTargetOf (He.ga K "target_of") fd := T.fun_ 0 (d := fnd sTargetOf "target_of") (He.keep_ok (T.fa 1)) sTargetOf rfl rfl rfl
theorem Tx.d_is_reference (T : Tx K mg) : ∃ fd, L2.Fun K "is_reference" "is_reference" sIsReference (He.ga K "is_reference") fd := T.fun_ 1 (d := fnd sIsReference "is_reference") (He.keep_ok (T.fa 3)) sIsReference rfl rfl rfl
theorem Tx.d_ranges_of (T : Tx K mg) : ∃ fd, L2.Fun K "ranges_of" "ranges_of" sRangesOf (He.ga K "ranges_of") fd := T.fun_ 2 (d := fnd sRangesOf "ranges_of") (He.keep_ok (T.fa 5)) sRangesOf rfl rfl rfl
theorem Tx.d_numbers_of (T : Tx K mg) : ∃ fd, L2.Fun K "numbers_of" "numbers_of" sNumbersOf (He.ga K "numbers_of") fd := T.fun_ 3 (d := fnd sNumbersOf "numbers_of") (He.keep_ok (T.fa 7)) sNumbersOf rfl rfl rfl
theorem Tx.d_told (T : Tx K mg) : ∃ fd, L2.Fun K "told" "told" sTold (He.ga K "told") fd := T.fun_ 4 (d := fnd sTold "told") (He.keep_ok (T.fa 9)) sTold rfl rfl rfl
theorem Tx.d_outside (T : Tx K mg) : ∃ fd, L2.Fun K "outside" "outside" sOutside (He.ga K "outside") fd := T.fun_ 5 (d := fnd sOutside "outside") (He.keep_ok (T.fa 11)) sOutside rfl rfl rfl
theorem Tx.d_lacking (T : Tx K mg) : ∃ fd, L2.Fun K "lacking" "lacking" sLacking (He.ga K "lacking") fd := T.fun_ 6 (d := fnd sLacking "lacking") (He.keep_ok (T.fa 13)) sLacking rfl rfl rfl
theorem Tx.d_answer (T : Tx K mg) : ∃ fd, L2.Fun K "answer" "answer" sAnswer (He.ga K "answer") fd := T.fun_ 7 (d := fnd sAnswer "answer") (He.keep_ok (T.fa 15)) sAnswer rfl rfl rfl
theorem Tx.d_bring (T : Tx K mg) : ∃ fd, L2.Fun K "bring" "bring" sBring (He.ga K "bring") fd := T.fun_ 8 (d := fnd sBring "bring") (He.keep_ok (T.fa 17)) sBring rfl rfl rfl
theorem Tx.d_is_later (T : Tx K mg) : ∃ fd, L2.Fun K "is_later" "is_later" sIsLater (He.ga K "is_later") fd := T.fun_ 9 (d := fnd sIsLater "is_later") (He.keep_ok (T.fa 19)) sIsLater rfl rfl rfl
theorem Tx.d_number_octets (T : Tx K mg) : ∃ fd, L2.Fun K "number_octets" "number_octets" sNumberOctets (He.ga K "number_octets") fd := T.fun_ 10 (d := fnd sNumberOctets "number_octets") (He.keep_ok (T.fa 21)) sNumberOctets rfl rfl rfl
theorem Tx.d_word_octets (T : Tx K mg) : ∃ fd, L2.Fun K "word_octets" "word_octets" sWordOctets (He.ga K "word_octets") fd := T.fun_ 11 (d := fnd sWordOctets "word_octets") (He.keep_ok (T.fa 23)) sWordOctets rfl rfl rfl
theorem Tx.d_name_octets (T : Tx K mg) : ∃ fd, L2.Fun K "name_octets" "name_octets" sNameOctets (He.ga K "name_octets") fd := T.fun_ 12 (d := fnd sNameOctets "name_octets") (He.keep_ok (T.fa 25)) sNameOctets rfl rfl rfl
theorem Tx.d_worth_octets (T : Tx K mg) : ∃ fd, L2.Fun K "worth_octets" "worth_octets" sWorthOctets (He.ga K "worth_octets") fd := T.fun_ 13 (d := fnd sWorthOctets "worth_octets") (He.keep_ok (T.fa 27)) sWorthOctets rfl rfl rfl
theorem Tx.d_change_octets (T : Tx K mg) : ∃ fd, L2.Fun K "change_octets" "change_octets" sChangeOctets (He.ga K "change_octets") fd := T.fun_ 14 (d := fnd sChangeOctets "change_octets") (He.keep_ok (T.fa 29)) sChangeOctets rfl rfl rfl
theorem Tx.d_check_of (T : Tx K mg) : ∃ fd, L2.Fun K "check_of" "check_of" sCheckOf (He.ga K "check_of") fd := T.fun_ 15 (d := fnd sCheckOf "check_of") (He.keep_ok (T.fa 31)) sCheckOf rfl rfl rfl
theorem Tx.d_message_octets (T : Tx K mg) : ∃ fd, L2.Fun K "message_octets" "message_octets" sMessageOctets (He.ga K "message_octets") fd := T.fun_ 16 (d := fnd sMessageOctets "message_octets") (He.keep_ok (T.fa 33)) sMessageOctets rfl rfl rfl
theorem Tx.d_read_message (T : Tx K mg) : ∃ fd, L2.Fun K "read_message" "read_message" sReadMessage (He.ga K "read_message") fd := T.fun_ 17 (d := fnd sReadMessage "read_message") (He.keep_ok (T.fa 35)) sReadMessage rfl rfl rfl
theorem Tx.d__law_cell (T : Tx K mg) : ∃ fd, L2.Fun K "_law_cell" "_law_cell" sLawCell (He.ga K "_law_cell") fd := T.fun_ 18 (d := fnd sLawCell "_law_cell") (He.keep_ok (T.fa 37)) sLawCell rfl rfl rfl
theorem Tx.d__law_row (T : Tx K mg) : ∃ fd, L2.Fun K "_law_row" "_law_row" sLawRow (He.ga K "_law_row") fd := T.fun_ 19 (d := fnd sLawRow "_law_row") (He.keep_ok (T.fa 39)) sLawRow rfl rfl rfl
theorem Tx.d__law_box (T : Tx K mg) : ∃ fd, L2.Fun K "_law_box" "_law_box" sLawBox (He.ga K "_law_box") fd := T.fun_ 20 (d := fnd sLawBox "_law_box") (He.keep_ok (T.fa 41)) sLawBox rfl rfl rfl
theorem Tx.d__law_draw (T : Tx K mg) : ∃ fd, L2.Fun K "_law_draw" "_law_draw" sLawDraw (He.ga K "_law_draw") fd := T.fun_ 21 (d := fnd sLawDraw "_law_draw") (He.keep_ok (T.fa 43)) sLawDraw rfl rfl rfl
theorem Tx.d__law_same (T : Tx K mg) : ∃ fd, L2.Fun K "_law_same" "_law_same" sLawSame (He.ga K "_law_same") fd := T.fun_ 22 (d := fnd sLawSame "_law_same") (He.keep_ok (T.fa 45)) sLawSame rfl rfl rfl
theorem Tx.d__law_pick (T : Tx K mg) : ∃ fd, L2.Fun K "_law_pick" "_law_pick" sLawPick (He.ga K "_law_pick") fd := T.fun_ 23 (d := fnd sLawPick "_law_pick") (He.keep_ok (T.fa 47)) sLawPick rfl rfl rfl
theorem Tx.d__law_worth (T : Tx K mg) : ∃ fd, L2.Fun K "_law_worth" "_law_worth" sLawWorth (He.ga K "_law_worth") fd := T.fun_ 24 (d := fnd sLawWorth "_law_worth") (He.keep_ok (T.fa 49)) sLawWorth rfl rfl rfl
theorem Tx.d__law_field (T : Tx K mg) : ∃ fd, L2.Fun K "_law_field" "_law_field" sLawField (He.ga K "_law_field") fd := T.fun_ 25 (d := fnd sLawField "_law_field") (He.keep_ok (T.fa 51)) sLawField rfl rfl rfl
theorem Tx.d__law_cells (T : Tx K mg) : ∃ fd, L2.Fun K "_law_cells" "_law_cells" sLawCells (He.ga K "_law_cells") fd := T.fun_ 26 (d := fnd sLawCells "_law_cells") (He.keep_ok (T.fa 53)) sLawCells rfl rfl rfl
theorem Tx.d__law_ranges (T : Tx K mg) : ∃ fd, L2.Fun K "_law_ranges" "_law_ranges" sLawRanges (He.ga K "_law_ranges") fd := T.fun_ 27 (d := fnd sLawRanges "_law_ranges") (He.keep_ok (T.fa 55)) sLawRanges rfl rfl rfl
theorem Tx.d__law_row_of (T : Tx K mg) : ∃ fd, L2.Fun K "_law_row_of" "_law_row_of" sLawRowOf (He.ga K "_law_row_of") fd := T.fun_ 28 (d := fnd sLawRowOf "_law_row_of") (He.keep_ok (T.fa 57)) sLawRowOf rfl rfl rfl
theorem Tx.d__law_messages (T : Tx K mg) : ∃ fd, L2.Fun K "_law_messages" "_law_messages" sLawMessages (He.ga K "_law_messages") fd := T.fun_ 29 (d := fnd sLawMessages "_law_messages") (He.keep_ok (T.fa 59)) sLawMessages rfl rfl rfl
theorem Tx.d__law_some (T : Tx K mg) : ∃ fd, L2.Fun K "_law_some" "_law_some" sLawSome (He.ga K "_law_some") fd := T.fun_ 30 (d := fnd sLawSome "_law_some") (He.keep_ok (T.fa 61)) sLawSome rfl rfl rfl
theorem Tx.d__law_told (T : Tx K mg) : ∃ fd, L2.Fun K "_law_told" "_law_told" sLawTold (He.ga K "_law_told") fd := T.fun_ 31 (d := fnd sLawTold "_law_told") (He.keep_ok (T.fa 63)) sLawTold rfl rfl rfl
theorem Tx.d__law_has (T : Tx K mg) : ∃ fd, L2.Fun K "_law_has" "_law_has" sLawHas (He.ga K "_law_has") fd := T.fun_ 32 (d := fnd sLawHas "_law_has") (He.keep_ok (T.fa 65)) sLawHas rfl rfl rfl
theorem Tx.d_law (T : Tx K mg) : ∃ fd, L2.Fun K "law" "law" sLaw (He.ga K "law") fd := T.fun_ 33 (d := fnd sLaw "law") (He.keep_ok (T.fa 67)) sLaw rfl rfl rfl
theorem Tx.d_State___init__ (T : Tx K mg) : ∃ fd, L2.Fun K "__init__" "State.__init__" sStateInit (He.ma K (He.ga K "State") "__init__") fd := T.fun_ 34 (d := fnm sStateInit "State" "__init__" "State.__init__") T.e_State___init__.kp sStateInit rfl rfl rfl
theorem Tx.d_State_take (T : Tx K mg) : ∃ fd, L2.Fun K "take" "State.take" sStateTake (He.ma K (He.ga K "State") "take") fd := T.fun_ 35 (d := fnm sStateTake "State" "take" "State.take") T.e_State_take.kp sStateTake rfl rfl rfl
theorem Tx.d_Message___init__ (T : Tx K mg) : ∃ fd, L2.Fun K "__init__" "Reader.__init__" sMessageInit (He.ma K (He.ga K "Message") "__init__") fd := T.fun_ 36 (d := fnm sMessageInit "Message" "__init__" "Reader.__init__") T.e_Message___init__.kp sMessageInit rfl rfl rfl
theorem Tx.d_Message_octet (T : Tx K mg) : ∃ fd, L2.Fun K "octet" "Reader.octet" sMessageOctet (He.ma K (He.ga K "Message") "octet") fd := T.fun_ 37 (d := fnm sMessageOctet "Message" "octet" "Reader.octet") T.e_Message_octet.kp sMessageOctet rfl rfl rfl
theorem Tx.d_Message_number (T : Tx K mg) : ∃ fd, L2.Fun K "number" "Reader.number" sMessageNumber (He.ma K (He.ga K "Message") "number") fd := T.fun_ 38 (d := fnm sMessageNumber "Message" "number" "Reader.number") T.e_Message_number.kp sMessageNumber rfl rfl rfl
theorem Tx.d_Message_letters (T : Tx K mg) : ∃ fd, L2.Fun K "letters" "Reader.letters" sMessageLetters (He.ma K (He.ga K "Message") "letters") fd := T.fun_ 39 (d := fnm sMessageLetters "Message" "letters" "Reader.letters") T.e_Message_letters.kp sMessageLetters rfl rfl rfl
theorem Tx.d_Message_name (T : Tx K mg) : ∃ fd, L2.Fun K "name" "Message.name" sMessageName (He.ma K (He.ga K "Message") "name") fd := T.fun_ 40 (d := fnm sMessageName "Message" "name" "Message.name") T.e_Message_name.kp sMessageName rfl rfl rfl
theorem Tx.d_Message_stamp (T : Tx K mg) : ∃ fd, L2.Fun K "stamp" "Message.stamp" sMessageStamp (He.ma K (He.ga K "Message") "stamp") fd := T.fun_ 41 (d := fnm sMessageStamp "Message" "stamp" "Message.stamp") T.e_Message_stamp.kp sMessageStamp rfl rfl rfl
theorem Tx.d_Message_worth (T : Tx K mg) : ∃ fd, L2.Fun K "worth" "Message.worth" sMessageWorth (He.ma K (He.ga K "Message") "worth") fd := T.fun_ 42 (d := fnm sMessageWorth "Message" "worth" "Message.worth") T.e_Message_worth.kp sMessageWorth rfl rfl rfl
theorem Tx.d_Message_change (T : Tx K mg) : ∃ fd, L2.Fun K "change" "Message.change" sMessageChange (He.ma K (He.ga K "Message") "change") fd := T.fun_ 43 (d := fnm sMessageChange "Message" "change" "Message.change") T.e_Message_change.kp sMessageChange rfl rfl rfl
theorem Tx.d_Replica___init__ (T : Tx K mg) : ∃ fd, L2.Fun K "__init__" "Replica.__init__" sReplicaInit (He.ma K (He.ga K "Replica") "__init__") fd := T.fun_ 44 (d := fnm sReplicaInit "Replica" "__init__" "Replica.__init__") T.e_Replica___init__.kp sReplicaInit rfl rfl rfl
theorem Tx.d_Replica_copy_of (T : Tx K mg) : ∃ fd, L2.Fun K "copy_of" "Replica.copy_of" sReplicaCopyOf (He.ma K (He.ga K "Replica") "copy_of") fd := T.fun_ 45 (d := fnm sReplicaCopyOf "Replica" "copy_of" "Replica.copy_of") T.e_Replica_copy_of.kp sReplicaCopyOf rfl rfl rfl
theorem Tx.d_Replica_accept (T : Tx K mg) : ∃ fd, L2.Fun K "accept" "Replica.accept" sReplicaAccept (He.ma K (He.ga K "Replica") "accept") fd := T.fun_ 46 (d := fnm sReplicaAccept "Replica" "accept" "Replica.accept") T.e_Replica_accept.kp sReplicaAccept rfl rfl rfl
theorem Tx.d_Replica_receive (T : Tx K mg) : ∃ fd, L2.Fun K "receive" "Replica.receive" sReplicaReceive (He.ma K (He.ga K "Replica") "receive") fd := T.fun_ 47 (d := fnm sReplicaReceive "Replica" "receive" "Replica.receive") T.e_Replica_receive.kp sReplicaReceive rfl rfl rfl
end
end Gt
set_option Elab.async false
set_option linter.all false
set_option maxRecDepth 100000
set_option maxHeartbeats 4000000
/-! Part B: dicts whose keys are ((peer, count), field): made, asked, stored, compared. -/
namespace Gt
open PySem PySem.Spec PyProof.Rows L2

/-- a field of an object: ((p, c), f) -/
abbrev CK := Int × Int × Str
def nk (k : CK) : NestedKey := .tup [.tup [.num k.1, .num k.2.1], .text k.2.2]
theorem nk_inj {a b : CK} (h : nk a = nk b) : a = b := by
  obtain ⟨a1, a2, a3⟩ := a
  obtain ⟨b1, b2, b3⟩ := b
  simp only [nk, NestedKey.tup.injEq, List.cons.injEq, NestedKey.num.injEq, NestedKey.text.injEq, and_true] at h
  obtain ⟨⟨h1, h2⟩, h3⟩ := h
  rw [h1, h2, h3]
theorem nk_depth (k : CK) : (nk k).depth ≤ 8 := by
  simp [nk, NestedKey.depth, NestedKey.depthAll]
/-- the tuple of a key stands at b -/
def KeyAt (H : Hp) (b : Addr) (k : CK) : Prop := ∃ n, H b = some (.tup [.ref n, .str k.2.2]) ∧ H n = some (.tup [.int k.1, .int k.2.1])
/-- a dict object with these entries -/
def CelO (P : Program) (w : World) (a : Addr) (xs : List (NestedKey × Addr × Value)) : HO := .ext fun h => (a == sysModules) = false ∧ xs.length ≤ sizeLine ∧
  ∃ o es ep, h.get? a = some o ∧ o.ExactDict ∧ o.data = .dict es ep ∧ es.toList = xs.map (entryOfKey (nestedKind P w)) ∧ (xs.map (·.1)).Nodup
abbrev Cs (H : Hp) : List (CK × V) → List (NestedKey × Addr × Value) → Prop := Paired fun p q => q.1 = nk p.1 ∧ KeyAt H q.2.1 p.1 ∧ RelV p.2 q.2.2
/-- at d stands a dict of cells -/
def CelAt (P : Program) (w : World) (H : Hp) (d : Addr) (kvs : List (CK × V)) : Prop := ∃ xs, Cs H kvs xs ∧ (H d = some (CelO P w d xs) ∨ (xs = [] ∧ H d = some (.dT [])))

/-- all tuples stay -/
def Tups (H H' : Hp) : Prop := ∀ b xs, H b = some (.tup xs) → H' b = some (.tup xs)
theorem Tups.refl (H : Hp) : Tups H H := fun _ _ e => e
theorem Tups.trans {H H1 H2 : Hp} (a : Tups H H1) (b : Tups H1 H2) : Tups H H2 := fun c xs e => b c xs (a c xs e)
theorem KeyAt.mono {H H' : Hp} {b : Addr} {k : CK} (t : Tups H H') (h : KeyAt H b k) : KeyAt H' b k := let ⟨n, h1, h2⟩ := h; ⟨n, t _ _ h1, t _ _ h2⟩
theorem Cs.mono {H H' : Hp} {kvs : List (CK × V)} {xs : List (NestedKey × Addr × Value)} (t : Tups H H') (h : Cs H kvs xs) : Cs H' kvs xs := Paired.mapP h fun _ _ z => ⟨z.1, z.2.1.mono t, z.2.2⟩
theorem CelAt.mono {P : Program} {w : World} {H H' : Hp} {d : Addr} {kvs : List (CK × V)} (t : Tups H H') (hd : ∀ o, H d = some o → H' d = some o) (h : CelAt P w H d kvs) : CelAt P w H' d kvs := by
  obtain ⟨xs, c, e⟩ := h
  refine ⟨xs, c.mono t, ?_⟩
  rcases e with e | ⟨e1, e⟩
  · exact .inl (hd _ e)
  · exact .inr ⟨e1, hd _ e⟩
theorem CelAt.new {P : Program} {w : World} {H : Hp} {d : Addr} (h : H d = some (.dT [])) : CelAt P w H d [] := ⟨[], .nil, .inr ⟨rfl, h⟩⟩
theorem CelAt.there {P : Program} {w : World} {H : Hp} {d : Addr} {kvs : List (CK × V)} (h : CelAt P w H d kvs) : ∃ o, H d = some o ∧ ∀ xs, o ≠ .tup xs := by
  obtain ⟨xs, _, e | ⟨_, e⟩⟩ := h
  · exact ⟨_, e, fun ys z => by unfold CelO at z; cases z⟩
  · exact ⟨_, e, fun ys z => by cases z⟩

theorem Cs.val {H : Hp} {kvs : List (CK × V)} {xs : List (NestedKey × Addr × Value)} (r : Cs H kvs xs) (k : CK) : RelO (valV kvs k) ((atKey xs (nk k)).map (·.2)) := by
  induction r with
  | nil => trivial
  | @cons p q ps qs h t ih =>
    by_cases e : p.1 = k
    · have e' : q.1 = nk k := by rw [h.1, e]
      rw [valV_pos e, show atKey (q :: qs) (nk k) = some q.2 by simp [atKey, List.find?_cons, e']]
      exact h.2.2
    · have e' : ¬ q.1 = nk k := fun z => e (nk_inj (h.1.symm.trans z))
      rw [valV_neg e, show atKey (q :: qs) (nk k) = atKey qs (nk k) by simp [atKey, List.find?_cons, e']]
      exact ih
theorem Cs.put {H : Hp} {kvs : List (CK × V)} {xs : List (NestedKey × Addr × Value)} (r : Cs H kvs xs) (k : CK) {b : Addr} {y : V} {u : Value} (hb : KeyAt H b k) (ry : RelV y u) : Cs H (putK kvs k y) (storedH xs (nk k) b u) := by
  have e : (kvs.any fun kv => decide (kv.1 = k)) = (atKey xs (nk k)).isSome := by rw [valV_any, (r.val k).isSome_eq, Option.isSome_map]
  unfold putK storedH
  rw [e]
  cases q : (atKey xs (nk k)).isSome with
  | false =>
    rw [if_neg Bool.false_ne_true, if_neg Bool.false_ne_true]
    exact Paired.snoc r ⟨rfl, hb, ry⟩
  | true =>
    rw [if_pos rfl, if_pos rfl]
    clear e q
    induction r with
    | nil => exact .nil
    | @cons p q ps qs h t ih =>
      refine .cons ?_ ih
      unfold putAt
      dsimp only
      by_cases e : p.1 = k
      · rw [if_pos e, if_pos (by rw [h.1, e])]
        exact ⟨h.1, h.2.1, ry⟩
      · rw [if_neg e, if_neg (fun z => e (nk_inj (h.1.symm.trans z)))]
        exact h
theorem storedH_len (xs : List (NestedKey × Addr × Value)) (k : NestedKey) (b : Addr) (u : Value) : (storedH xs k b u).length ≤ xs.length + 1 := by
  unfold storedH
  split
  · rw [List.length_map]
    omega
  · rw [List.length_append]
    exact Nat.le_refl _

section
variable {X : Cx} {pins : List (Addr × Obj)} {σ : L2.St} {H : Hp} {s : Shared}
theorem tup2 {P : Program} {w : World} {h : Heap} (ok : HOk P w H h) {b : Addr} {x y : V} (e : H b = some (.tup [x, y])) : ∃ o n u v, h.get? b = some o ∧ o.cls = .type "tuple" ∧ o.data = .seq #[u, v] n ∧ RelV x u ∧ RelV y v := by
  obtain ⟨_, its, r, o, h1, h2, n, h3⟩ := (show ObjOk P w H h b (.tup [x, y]) from ok b _ e)
  obtain ⟨u, v, rfl, ru, rv⟩ := vals2 r
  exact ⟨o, n, u, v, h1, h2, h3, ru, rv⟩
theorem key_is {P : Program} {w : World} {h : Heap} (ok : HOk P w H h) {b : Addr} {k : CK} (e : KeyAt H b k) : (nestedKind P w).is h (nk k) b := by
  obtain ⟨n, hb, hn⟩ := e
  obtain ⟨o, m, u, v, h1, h2, h3, ru, t, rfl⟩ := tup2 ok hb
  obtain rfl : u = .ref n := ru
  obtain ⟨o2, m2, u2, v2, g1, g2, g3, ⟨t1, rfl⟩, ⟨t2, rfl⟩⟩ := tup2 ok hn
  refine ⟨?_, nk_depth k⟩
  exact .tup h1 h2 h3 (.cons (.tup g1 g2 g3 (.cons (.int _ _) (.cons (.int _ _) .nil))) (.cons (.text _ _) .nil))
theorem Cs.is {P : Program} {w : World} {h : Heap} (ok : HOk P w H h) {kvs : List (CK × V)} {xs : List (NestedKey × Addr × Value)} (r : Cs H kvs xs) : ∀ x ∈ xs, (nestedKind P w).is h x.1 x.2.1 := by
  induction r with
  | nil =>
    intro x hx
    cases hx
  | @cons p q ps qs hq t ih =>
    intro x hx
    rcases List.mem_cons.mp hx with e | hx
    · rw [e, hq.1]
      exact key_is ok hq.2.1
    · exact ih x hx
/-- the raw dict -/
theorem CelAt.raw {d : Addr} {kvs : List (CK × V)} (I : Inv X pins σ H s) (c : CelAt X.prog X.w H d kvs) :
    ∃ xs o es ep, Cs H kvs xs ∧ (d == sysModules) = false ∧ xs.length ≤ sizeLine ∧ s.heap.get? d = some o ∧ o.ExactDict ∧ o.data = .dict es ep ∧ es.toList = xs.map (entryOfKey (nestedKind X.prog X.w)) ∧ (xs.map (·.1)).Nodup := by
  obtain ⟨xs, r, e | ⟨rfl, e⟩⟩ := c
  · obtain ⟨⟨hd, z, o, es, ep, h1, h2, h3, h4, h5⟩, _⟩ := I.hok d _ e
    exact ⟨xs, o, es, ep, r, hd, z, h1, h2, h3, h4, h5⟩
  · obtain ⟨z, hd, xs, q, o, es, ep, h1, h2, h3, h4, h5⟩ := (show ObjOk X.prog X.w H s.heap d (.dT []) from I.hok d _ e)
    cases q
    exact ⟨[], o, es, ep, r, hd, Nat.zero_le _, h1, h2, h3, h4, List.nodup_nil⟩
theorem CelAt.of {d : Addr} {kvs : List (CK × V)} (I : Inv X pins σ H s) (c : CelAt X.prog X.w H d kvs) :
    ∃ xs, Cs H kvs xs ∧ (d == sysModules) = false ∧ xs.length ≤ sizeLine ∧ s.heap.DictOfH (nestedKind X.prog X.w) d xs := by
  obtain ⟨xs, o, es, ep, r, hd, z, h1, h2, h3, h4, h5⟩ := c.raw I
  exact ⟨xs, r, hd, z, o, es, ep, h1, h2, h3, h4, r.is I.hok, h5⟩
theorem CelAt.typ {d : Addr} {kvs : List (CK × V)} (I : Inv X pins σ H s) (c : CelAt X.prog X.w H d kvs) : s.TypeIs (.ref d) "dict" ∧ (∀ b, Value.ref d = .ref b → ∃ ob, s.heap.get? b = some ob ∧ ob.dict = none) := by
  obtain ⟨xs, o, es, ep, r, hd, z, h1, h2, h3, h4, h5⟩ := c.raw I
  refine ⟨⟨o, h1, h2.1⟩, ?_⟩
  rintro b ⟨⟩
  exact ⟨o, h1, h2.2.1⟩
/-- the store -/
theorem CelAt.store {d : Addr} {kvs : List (CK × V)} {A : Around} {E : Value → Shared → Prop} {b : Addr} {k : CK} {y : V} {r : Value} {Q : Unit → Shared → Prop} (hu : A.units + 9 < cLine) (I : Inv X pins σ H s) (c : CelAt X.prog X.w H d kvs) (hb : KeyAt H b k) (rv : RelV y r)
    (hl : kvs.length ≤ 1000) (h : ∀ s' o, CelAt X.prog X.w (upd H d o) d (putK kvs k y) → (∀ xs, o ≠ .tup xs) → Inv X pins σ (upd H d o) s' → Q () s') : wpAny (model X.prog X.w) A (setItem (.ref d) (.ref b) r) Q E s := by
  have there := c.there
  have mu : Mut (H d) := by
    obtain ⟨_, _, e | ⟨_, e⟩⟩ := c
    · rw [e]; exact trivial
    · rw [e]; exact trivial
  obtain ⟨xs, rel, hd, z, dd⟩ := c.of I
  have hx : xs.length ≤ 1000 := by rw [← Paired.length rel]; exact hl
  refine wpAny_setItem_heap (hsz := z) (show A.in1.units + 8 < cLine by show A.units + 1 + 8 < cLine; omega) (key_is I.hok hb) dd ?_
  intro h' dd' hs
  obtain ⟨q, es, ep, g1, g2, g3, g4, _, g5⟩ := dd'
  have ts : Tups H (upd H d (CelO X.prog X.w d (storedH xs (nk k) b r))) := by
    intro a ys e
    obtain ⟨o, e2, nt⟩ := there
    rw [upd_ne (ne_of e e2 fun z => nt ys z.symm)]
    exact e
  refine h _ (CelO X.prog X.w d (storedH xs (nk k) b r)) ⟨_, (rel.put k hb rv).mono ts, .inl upd_same⟩ (fun ys z => by unfold CelO at z; cases z) ?_
  have shape : ∀ h2 : Heap, h2.get? d = h'.get? d → (d == sysModules) = false ∧ (storedH xs (nk k) b r).length ≤ sizeLine ∧
      ∃ o es ep, h2.get? d = some o ∧ o.ExactDict ∧ o.data = .dict es ep ∧ es.toList = (storedH xs (nk k) b r).map (entryOfKey (nestedKind X.prog X.w)) ∧ ((storedH xs (nk k) b r).map (·.1)).Nodup := by
    intro h2 e2
    refine ⟨hd, ?_, q, es, ep, e2.trans g1, g2, g3, g4, g5⟩
    have := storedH_len xs (nk k) b r
    rw [sizeLine_eq]
    omega
  refine d_write I mu hs ⟨q, g1⟩ (show ObjOk X.prog X.w _ h' d (CelO X.prog X.w d (storedH xs (nk k) b r)) from ⟨shape h' rfl, ⟨q, g1⟩, ?_⟩)
  rintro h1 h2 ⟨p1, p2, o, es', ep', f1, f⟩ k2
  exact ⟨p1, p2, o, es', ep', k2 o f1, f⟩
end

/-! ### readings and rules -/
def tCGet (P : Program) (w : World) (td ty : TE) : TE := fun σ H Q => td σ H fun x H1 => ty σ H1 fun y H2 => ∃ a b kvs k v, x = .ref a ∧ y = .ref b ∧ CelAt P w H2 a kvs ∧ KeyAt H2 b k ∧ valV kvs k = some v ∧ Q v H2
def tCGet1 (P : Program) (w : World) (td ty : TE) : TE := fun σ H Q => td σ H fun x H1 => ∃ a kvs, x = .ref a ∧ CelAt P w H1 a kvs ∧ ty σ H1 fun y H2 => ∃ b k, y = .ref b ∧ CelAt P w H2 a kvs ∧ KeyAt H2 b k ∧ Q ((valV kvs k).getD .non) H2
def tCNotIn (P : Program) (w : World) (ty td : TE) : TE := fun σ H Q => ty σ H fun y H1 => td σ H1 fun x H2 => ∃ a b kvs k, x = .ref a ∧ y = .ref b ∧ CelAt P w H2 a kvs ∧ KeyAt H2 b k ∧ Q (.bl (!(valV kvs k).isSome)) H2
def sCPut (P : Program) (w : World) (td ty tv : TE) : TS := fun D σ H => tv σ H fun v H1 => td σ H1 fun x H2 => ty σ H2 fun y H3 => ∃ a b kvs k, x = .ref a ∧ y = .ref b ∧ CelAt P w H3 a kvs ∧ KeyAt H3 b k ∧ kvs.length ≤ 1000 ∧
  ∀ o, CelAt P w (upd H3 a o) a (putK kvs k v) → (∀ xs, o ≠ .tup xs) → D.nx σ (upd H3 a o)
section
variable {X : Cx} {o i e value : Expr} {pos pos' apos cpos : Pos} {td ty tv : TE}
theorem pe_cget (hu : X.A.units + 9 < cLine) (ho : PE X o td) (hi : PE X i ty) (hs : NoSl i) : PE X (.Subscript o i pos) (tCGet X.prog X.w td ty) := by
  constructor
  intro pins s σ H Q I h
  refine subD_of PySem.F.slot_dict_getitem.lookup hs (thn (ho.run pins s σ H _ I h) ?_)
  rintro u s1 ⟨x, H1, I1, rx, q1⟩
  refine thn (hi.run pins s1 σ H1 _ I1 q1) ?_
  rintro iv s2 ⟨y, H2, I2, ry, a, b, kvs, k, v, rfl, rfl, c, hb, hv, q2⟩
  cases rx
  cases ry
  refine ⟨(c.typ I2).1, ?_⟩
  obtain ⟨xs, rel, hd, z, dd⟩ := c.of I2
  obtain ⟨w', hw, rw'⟩ := RelO.some_of (v := v) (o := (atKey xs (nk k)).map (·.2)) (by rw [← hv]; exact rel.val k)
  obtain ⟨p, hp, rfl⟩ := Option.map_eq_some_iff.mp hw
  exact wpAny_getItem_heap (show X.A.in1.units + 8 < cLine by show X.A.units + 1 + 8 < cLine; omega) (key_is I2.hok hb) dd hp ⟨v, H2, I2.tok _, rw', q2⟩
theorem pc_cnotin (hu : X.A.units + 9 < cLine) (hi : PE X i ty) (ho : PE X o td) : PC X .NotIn i o (tCNotIn X.prog X.w ty td) := by
  constructor
  intro pins s σ H Q I h
  refine thn (hi.run pins s σ H _ I h) ?_
  rintro iv s1 ⟨y, H1, I1, ry, q1⟩
  refine thn (ho.run pins s1 σ H1 _ I1 q1) ?_
  rintro u s2 ⟨x, H2, I2, rx, a, b, kvs, k, rfl, rfl, c, hb, q2⟩
  cases rx
  cases ry
  obtain ⟨xs, rel, hd, z, dd⟩ := c.of I2
  refine wpAny_notIn_heap (show X.A.in1.units + 8 < cLine by show X.A.units + 1 + 8 < cLine; omega) (key_is I2.hok hb) hd dd ?_
  have e := (rel.val k).isSome_eq
  rw [Option.isSome_map] at e
  rw [← e]
  exact ⟨.bl _, H2, I2.tok _, rfl, q2⟩
theorem pe_cget1 (hu : X.A.units + 9 < cLine) (ho : PE X o td) (he : PE X e ty) (m : M1 X o "get" apos e cpos) : PE X (.Call (.Attribute o "get" apos) [e] [] cpos) (tCGet1 X.prog X.w td ty) := by
  constructor
  intro pins s σ H Q I h
  refine wpAny_Call_method m.base m.few m.line PySem.F.plainAttrs_dict PySem.F.slot_dict_get PySem.F.type_dict_get (thn (ho.run pins s σ H _ I h) ?_)
  rintro u s1 ⟨x, H1, I1, rx, a, kvs, rfl, c, q1⟩
  cases rx
  obtain ⟨t1, t2⟩ := c.typ I1
  refine ⟨t1, t2, ?_⟩
  rw [m.trees]
  refine Calls.callWith_builtin rfl (Calls.evalArgs_plain (Calls.spliced_cons (thn (he.run pins s1 σ H1 _ I1 q1) ?_)))
  rintro iv s2 ⟨y, H2, I2, ry, b, k, rfl, c2, hb, q2⟩
  cases ry
  refine Calls.spliced_nil ?_
  obtain ⟨xs, rel, hd, z, dd⟩ := c2.of I2
  exact call_meetsIn PySem.F.slot_dict_get dd.typeIs PySem.F.entry_dict_get (PySem.F.args_dict_get_2 _ _) (meetsH_dict_get (nestedKind X.prog X.w) a b hd)
    ⟨show X.A.in1.units + 8 < cLine by show X.A.units + 1 + 8 < cLine; omega, nk k, xs, key_is I2.hok hb, dd, ⟨_, H2, I2.tok _, (rel.val k).getD (d := V.non) (d' := Value.none) rfl, q2⟩⟩
theorem ps_cput (hu : X.A.units + 9 < cLine) (ho : PE X o td) (hi : PE X i ty) (hv : PE X value tv) (hs : swapsWith value (some (.Subscript o i pos')) pos.line X.env = pure false) : PS X (.Assign [.Subscript o i pos'] value pos) (sCPut X.prog X.w td ty tv) := by
  constructor
  intro pins s σ H D I h
  refine wpAny_Assign_Subscript (thn (hv.run pins s σ H _ I h) ?_) hs
  rintro r s1 ⟨v, H1, I1, rv, q1⟩
  refine thn (ho.run pins s1 σ H1 _ I1 q1) ?_
  rintro u s2 ⟨x, H2, I2, rx, q2⟩
  refine thn (hi.run pins s2 σ H2 _ I2 q2) ?_
  rintro iv s3 ⟨y, H3, I3, ry, a, b, kvs, k, rfl, rfl, c, hb, hl, q3⟩
  cases rx
  cases ry
  exact c.store hu I3 hb rv hl fun s4 o c4 nt I4 => ⟨σ, upd H3 a o, I4, q3 o c4 nt⟩
end

/-! ### == of two such dicts with the same keys in the same order, the values data -/
theorem wpAny_rangeAll {M : Model} {A : Around} {E : Value → Shared → Prop} {n : Nat} {β : Type} {f : Nat → β → Sem (ForInStep β)} {b : β} {Q : β → Shared → Prop} {s : Shared}
    (turn : ∀ i, i < n → wpAny M A (f i b) (fun r s' => r = .yield b ∧ s' = s) E s) (h : Q b s) : wpAny M A (forIn [0:n] b f) Q E s := by
  rw [Std.Legacy.Range.forIn_eq_forIn_range']
  simp only [Std.Legacy.Range.size, Nat.sub_zero, Nat.add_sub_cancel, Nat.div_one]
  refine wpAny_forIn_list _ (fun l q s' => s' = s ∧ q = b ∧ ∃ i, l = List.range' i (n - i)) _ ?_ ?_ _ _ ⟨rfl, rfl, 0, by simp⟩
  · rintro x l q s' ⟨rfl, rfl, i, hl⟩
    have hi : i < n := by
      refine Nat.lt_of_not_le fun z => ?_
      rw [Nat.sub_eq_zero_of_le z] at hl
      cases hl
    rw [show n - i = (n - (i + 1)) + 1 by omega, List.range'_succ] at hl
    injection hl with h1 h2
    subst h1
    refine wpAny_mono (turn x hi) ?_ fun _ _ z => z
    rintro r s2 ⟨rfl, rfl⟩
    exact ⟨rfl, rfl, x + 1, h2⟩
  · rintro q s' ⟨rfl, rfl, _⟩
    exact h
section
variable {prog : Program} {w : World} {A : Around} {E : Value → Shared → Prop} {s : Shared} {K : Type} [DecidableEq K] {knd : HeapKind prog w K}
theorem same_dicts {nm : String} {a b : Addr} {oa ob : Obj} {es es' : Array DictEntry} {ep ep' : Nat} {xs ys : List (K × Addr × Value)} {Q : Bool → Shared → Prop} (ha : (a == sysModules) = false) (hb : (b == sysModules) = false) (hu : knd.room A)
    (oA : s.heap.get? a = some oa) (dA : oa.data = .dict es ep) (eA : es.toList = xs.map (entryOfKey knd)) (iA : ∀ x ∈ xs, knd.is s.heap x.1 x.2.1)
    (oB : s.heap.get? b = some ob) (dB : ob.data = .dict es' ep') (eB : es'.toList = ys.map (entryOfKey knd)) (iB : ∀ x ∈ ys, knd.is s.heap x.1 x.2.1) (nB : (ys.map (·.1)).Nodup)
    (hk : xs.map (·.1) = ys.map (·.1)) (hv : ∀ (i : Nat) (x y : K × Addr × Value), xs[i]? = some x → ys[i]? = some y → SeqAt.EqAt A s x.2.2 y.2.2 true) (h : Q true s) :
    wpAny (model prog w) A (Builtin.Dict.samePairs nm a b) Q E s := by
  have hl : xs.length = ys.length := by
    have e := congrArg List.length hk
    rw [List.length_map, List.length_map] at e
    exact e
  have z1 : es.size = xs.length := size_of_entries eA
  have z2 : es'.size = ys.length := size_of_entries eB
  unfold Builtin.Dict.samePairs Builtin.Dict.showsAll
  rw [if_neg (by rw [ha]; exact Bool.false_ne_true), if_neg (by rw [hb]; exact Bool.false_ne_true)]
  refine wpAny_bind (wpAny_pure (wpAny_bind (wpAny_pure ?_)))
  refine wpAny_bind (wpAny_dictEntries oA dA ?_)
  dsimp only
  refine wpAny_bind (wpAny_dictEntries oB dB ?_)
  rw [if_neg (show ¬ (es.size != es'.size) = true by rw [z1, z2, hl]; simp)]
  refine wpAny_bind (wpAny_dictEpoch oA dA ?_)
  refine wpAny_bind (wpAny_rangeAll ?_ (wpAny_pure h))
  intro i hi
  rw [z1] at hi
  obtain ⟨x, hx⟩ : ∃ x, xs[i]? = some x := ⟨_, List.getElem?_eq_getElem hi⟩
  obtain ⟨y, hy⟩ : ∃ y, ys[i]? = some y := ⟨_, List.getElem?_eq_getElem (by omega)⟩
  have exy : x.1 = y.1 := by
    have e := congrArg (fun l : List K => l[i]?) hk
    simp only [List.getElem?_map, hx, hy, Option.map_some, Option.some.injEq] at e
    exact e
  have fx : es[i]? = some (entryOfKey knd x) := by rw [entry_at eA, hx]; rfl
  have fy : es'[i]? = some (entryOfKey knd y) := by rw [entry_at eB, hy]; rfl
  refine wpAny_bind (wpAny_dictEntries oA dA ?_)
  rw [fx]
  show wpAny _ _ (holding [(entryOfKey knd x).key, (entryOfKey knd x).val] _ >>= _) _ _ _
  have kx : knd.is s.heap x.1 x.2.1 := iA x (List.mem_of_getElem? hx)
  have hyx : ys[i]? = some (x.1, y.2) := by rw [hy, exy]
  refine wpAny_bind (wpAny_holding (wpAny_bind (wpAny_dictFind_heap hu kx oB dB eB iB nB (fun q => absurd hyx (q i _)) ?_)))
  intro j p hj
  have eij : i = j := idxH_unique nB hyx hj
  subst eij
  refine wpAny_bind (wpAny_dictEntries oB dB ?_)
  rw [fy]
  refine wpAny_holding ((hv i x y hx hy) prog w _ _ ?_)
  show wpAny _ _ (if (!true) = true then _ else _) _ _ _
  rw [if_neg (by decide)]
  refine wpAny_bind (wpAny_dictEpoch oA dA ?_)
  rw [if_neg (by simp)]
  exact wpAny_pure ⟨rfl, rfl⟩
end

theorem dpAll_at {K : PySem.W.Frag} {H : Hp} : ∀ {vs : List V} {ds : List PyData}, DpAll K H vs ds → ∀ (i : Nat) (v : V), vs[i]? = some v → ∃ d, ds[i]? = some d ∧ Dp K H v d
  | _, _, .nil, i, v, h => by simp at h
  | _, _, .cons a b, 0, v, h => by
    simp at h
    subst h
    exact ⟨_, rfl, a⟩
  | _, _, .cons a b, i + 1, v, h => by
    obtain ⟨d, h1, h2⟩ := dpAll_at b i v (by simpa using h)
    exact ⟨d, by simpa using h1, h2⟩
theorem cs_at {H : Hp} : ∀ {kvs : List (CK × V)} {xs : List (NestedKey × Addr × Value)}, Cs H kvs xs → ∀ (i : Nat) (x : NestedKey × Addr × Value), xs[i]? = some x → ∃ p, kvs[i]? = some p ∧ x.1 = nk p.1 ∧ RelV p.2 x.2.2
  | _, _, .nil, i, x, h => by simp at h
  | _, _, .cons a b, 0, x, h => by
    simp at h
    subst h
    exact ⟨_, rfl, a.1, a.2.2⟩
  | _, _, .cons a b, i + 1, x, h => by
    obtain ⟨p, h1, h2⟩ := cs_at b i x (by simpa using h)
    exact ⟨p, by simpa using h1, h2⟩
theorem cs_keys {H : Hp} : ∀ {kvs : List (CK × V)} {xs : List (NestedKey × Addr × Value)}, Cs H kvs xs → xs.map (·.1) = (kvs.map (·.1)).map nk
  | _, _, .nil => rfl
  | _, _, .cons a b => by rw [List.map_cons, List.map_cons, List.map_cons, cs_keys b, a.1]

/-- two dicts of cells, the same keys in the same order, the values the same data -/
def rEqC (K : PySem.W.Frag) (P : Program) (w : World) : R2 := fun x y H Q => ∃ a b kvs kvs' ds, x = .ref a ∧ y = .ref b ∧ CelAt P w H a kvs ∧ CelAt P w H b kvs' ∧ kvs.map (·.1) = kvs'.map (·.1) ∧
  DpAll K H (kvs.map (·.2)) ds ∧ DpAll K H (kvs'.map (·.2)) ds ∧ (∀ d ∈ ds, SeqAt.shaped d = true) ∧ Q (.bl true) H
theorem op_eqC {X : Cx} (hu : X.A.units + 80 < cLine) : OpR X (compareOp .Eq) (rEqC X.K X.prog X.w) := by
  intro pins s σ H x y v u Q I rx ry h
  obtain ⟨a, b, kvs, kvs', ds, rfl, rfl, ca, cb, hk, d1, d2, sh, q⟩ := h
  cases rx
  cases ry
  obtain ⟨xs, oa, es, ep, r1, hda, _, oA, tA, dA, eA, nA⟩ := ca.raw I
  obtain ⟨ys, ob, es', ep', r2, hdb, _, oB, tB, dB, eB, nB⟩ := cb.raw I
  have tyA : s.TypeIs (.ref a) "dict" := ⟨oa, oA, tA.1⟩
  have tyB : s.TypeIs (.ref b) "dict" := ⟨ob, oB, tB.1⟩
  refine wpAny_richCompare_same_room (op := .Eq) tyA tyB PySem.F.slot_dict_eq (wpAny_call_entry PySem.F.slot_dict_eq tyA PySem.F.entry_dict_eq ?_ (PySem.F.args_dict_eq_2 _ _)) (by omega)
  show wpAny _ _ (Builtin.Dict.dictSlotArgs "__eq__" ⟨[.ref a, .ref b], []⟩ >>= _) _ _ s
  refine wpAny_bind ?_
  unfold Builtin.Dict.dictSlotArgs
  refine wpAny_bind (wpAny_notOrdered_dict tyA ?_)
  show wpAny _ _ (pure (Value.ref a, Value.ref b)) _ _ s
  refine wpAny_pure ?_
  refine wpAny_bind (wpAny_isInstance (T := "dict") tyB PySem.F.sub_dict_dict ?_)
  simp only [Bool.not_true, Bool.false_eq_true, if_false]
  refine wpAny_bind (wpAny_pure (wpAny_bind (wpAny_pure ?_)))
  refine wpAny_bind (same_dicts (knd := nestedKind X.prog X.w) hda hdb (show X.A.in1.units + 8 < cLine by show X.A.units + 1 + 8 < cLine; omega) oA dA eA (r1.is I.hok) oB dB eB (r2.is I.hok) nB (by rw [cs_keys r1, cs_keys r2, hk]) ?_ ?_)
  · intro i x y hx hy
    obtain ⟨p1, e1, _, v1⟩ := cs_at r1 i x hx
    obtain ⟨p2, e2, _, v2⟩ := cs_at r2 i y hy
    obtain ⟨d, hd, D1⟩ := dpAll_at d1 i p1.2 (by rw [List.getElem?_map, e1]; rfl)
    obtain ⟨d', hd', D2⟩ := dpAll_at d2 i p2.2 (by rw [List.getElem?_map, e2]; rfl)
    rw [hd] at hd'
    cases hd'
    obtain ⟨as, g1⟩ := Dp.reads I d _ _ D1 v1
    obtain ⟨bs, g2⟩ := Dp.reads I d _ _ D2 v2
    have s1 := sh d (List.mem_of_getElem? hd)
    have cl := SeqAt.canLay_of_shaped s1
    have z := SeqAt.eqAt_reads d d X.A.in1 s _ _ as bs g1 g2 cl cl (SeqAt.room_of_shaped s1 (show X.A.units + 1 + 64 < cLine by omega))
    rw [SeqAt.eqv_refl d cl] at z
    exact z
  · refine wpAny_pure ⟨_, rfl, ?_, ?_⟩
    · exact fun x => nomatch x
    · exact ⟨.bl true, H, I, rfl, q⟩
end Gt
set_option Elab.async false
set_option linter.all false
set_option maxRecDepth 100000
set_option maxHeartbeats 4000000
/-! Part C: set(list of ints), sorted(dict of pairs), text times number, pairs by >. -/
namespace Gt
open PySem PySem.Spec PyProof.Rows L2

/-! ### set(xs), xs a list of ints -/
/-- a set as it is made -/
def set0 (w : World) : Obj := { cls := .type "set", dict := none, data := .set #[] 0 (.fresh 0 0 (!w.params.followText "set-order")) }
section
variable {P : Program} {w : World} {A : Around} {E : Value → Shared → Prop} {s : Shared}
theorem set_of_list {l : Addr} {items : Array Value} (ns : List Int) {Q : Value → Shared → Prop} (hh : A.handled = none) (hl : s.heap.IsList l items) (hit : IntsAre items.toList ns) (hb : ns.length + 1 < scanBound)
    (h : ∀ (h' : Heap) (tk c : Nat), SetR w h' s.heap.objs.size (fun j => decide (j ∈ ns)) c → c ≤ ns.length → (∀ b o, s.heap.get? b = some o → h'.get? b = some o) → Q (.ref s.heap.objs.size) { s with heap := h', toks := tk }) :
    wpAny (model P w) A (call (.type "set") [.ref l]) Q E s := by
  have hisz : items.size = ns.length := by
    rw [← Array.length_toList]
    exact IntsAre.length hit
  obtain ⟨c, tl, hmro⟩ := F.called_set.mro
  have hmade := F.called_set.made
  have hsub := F.called_set.sub
  refine wpAny_call (codeAny_of_tree ?_)
  show wpAny _ _ (callAny (.type "set") _) _ _ _
  refine wpAny_pure ⟨Code.quiet_builtin _ (by decide +kernel), codeAny_builtin F.entry_type_call ?_⟩
  rw [Around.under_plain (weight_type_call_type "set" [.ref l] []) rfl]
  have h1 := F.called_set.notType
  have h2 := F.called_set.canCreate
  have hct := F.typeCall_set_1 (.ref l)
  repeat (any_goals (first | assumption | wp_step))
  refine codeAny_mono (code_set_led1 (.ref l) (E := E) (Q₁ := fun obj s1 => obj = .ref s.heap.objs.size ∧ s1 = { s with heap := s.heap.push (set0 w) }) ⟨rfl, rfl⟩) fun r s1 hr => ?_
  cases r with
  | error e => exact hr
  | ok fl =>
    cases fl with
    | ret obj =>
      obtain ⟨rfl, rfl⟩ := hr
      have hS : (s.heap.push (set0 w)).get? s.heap.objs.size = some (set0 w) := Heap.get?_push_size _ rfl
      have hT : Shared.TypeIs { s with heap := s.heap.push (set0 w) } (.ref s.heap.objs.size) "set" := ⟨_, hS, rfl⟩
      have hli := F.called_set.init.lookup
      have hbi := F.called_set.init.bind (.ref s.heap.objs.size)
      repeat (any_goals (first | assumption | wp_step))
      refine codeAny_mono (codeAny_call_builtin (R := wants (fun r s2 => r = .none ∧ ∃ h' tk c, s2 = { s with heap := h', toks := tk } ∧ SetR w h' s.heap.objs.size (fun j => decide (j ∈ ns)) c ∧ c ≤ ns.length ∧
          (∀ b o, s.heap.get? b = some o → h'.get? b = some o)) E) F.called_set.init.plain F.entry_set_init (check_set_init_1 hT ?_)) fun r2 s2 hr2 => ?_
      · obtain ⟨⟨ocls, odict, odata, oslots⟩, hol, hcl, nl, hdl⟩ := hl
        simp only at hcl hdl
        subst hcl hdl
        have hol1 : (s.heap.push (set0 w)).get? l = some { cls := .type "list", dict := odict, data := .seq items nl, slots := oslots } := Heap.get?_push_of_some _ hol
        have hsls := F.sub_list_set
        have hslf := F.sub_list_frozenset
        have hne : (Value.type "list" == Value.type "dict") = false := by decide
        have hl1 : (s.heap.push (set0 w)).IsList l items := ⟨_, hol1, rfl, nl, rfl⟩
        unfold Builtin.«set.__init__» noKeywords Builtin.Frozenset.updateFrom
        generalize hPI : pyIter = PI
        wp_walk
        subst hPI
        refine wpAny_pyIter_list hl1 ?_
        refine wpAny_bind (wpAny_runValue ?_)
        have hlS : l < s.heap.objs.size := Heap.lt_size hol
        have hh3 : A.in1.in1.in1.handled = none := by simp [hh]
        have z1 : (s.heap.push (set0 w)).objs.size = s.heap.objs.size + 1 := Heap.size_push ..
        have hneI : l ≠ (s.heap.push (set0 w)).objs.size := by
          rw [z1]
          exact Nat.ne_of_lt (Nat.lt_succ_of_lt hlS)
        have hSf : s.heap.objs.size ∉ [(s.heap.push (set0 w)).objs.size, l] := by
          rw [z1]
          intro q
          rcases List.mem_cons.mp q with e | q
          · exact absurd e (Nat.ne_of_lt (Nat.lt_succ_self _))
          · exact absurd (List.mem_singleton.mp q) (Nat.ne_of_gt hlS)
        have hval : ∀ (i : Nat) (v : Value), items[i]? = some v → ∃ k t, ns[i]? = some k ∧ v = .int k t := by
          intro i v hv
          have hi : i < ns.length := by
            rw [← hisz]
            exact (Array.getElem?_eq_some_iff.mp hv).1
          obtain ⟨t, e⟩ := PyProof.Rows.IntsAre.int_at hit i v (by rw [Array.getElem?_toList]; exact hv)
          refine ⟨ns[i], t, List.getElem?_eq_getElem hi, ?_⟩
          rw [e, List.getD_eq_getElem?_getD, List.getElem?_eq_getElem hi] <;> rfl
        refine set_update_ints ((Walks.list hh3 _ l hneI items).toS) s.heap.objs.size hSf ns hisz hb hval (items.size - 0) 0 _ (by omega) (Nat.zero_le _)
          ⟨⟨_, Heap.get?_push_size _ rfl, rfl, rfl⟩, (hl1.push _)⟩ ⟨0, Nat.le_refl 0, setR_new_at (Heap.get?_push_of_some _ hS)⟩ ?_
        intro s' c' hm hc' hS'
        obtain ⟨h', g2, d', tk', os'⟩ := s'
        have eg : g2 = s.gens := hm.gens
        have ed : d' = s.drawn := hm.drawn
        have eo : os' = s.os := hm.os
        subst eg ed eo
        show wpAny _ _ _ _ _ _
        refine wpAny_pure ?_
        show wpAny _ _ (ret Value.none) _ _ _
        rw [hisz] at hc'
        refine wpAny_pure ⟨rfl, h', tk', c', rfl, hS', hc', ?_⟩
        intro b o e
        have hb0 : b < s.heap.objs.size := Heap.lt_size e
        refine hm.heap b o ?_ (Heap.get?_push_of_some _ (Heap.get?_push_of_some _ e))
        intro q
        rcases List.mem_cons.mp q with z | q
        · exact absurd z (Nat.ne_of_lt hb0)
        · rw [List.mem_singleton.mp q, z1] at hb0
          exact absurd hb0 (Nat.not_lt.mpr (Nat.le_succ _))
      · cases r2 with
        | error e => exact hr2
        | ok fl2 =>
          cases fl2 with
          | ret r =>
            obtain ⟨rfl, h', tk, c', rfl, hS', hc', hk'⟩ := hr2
            repeat (any_goals (first | assumption | wp_step))
            exact h _ _ _ hS' hc' hk'
          | _ => exact hr2.elim
    | _ => exact hr.elim
end
/-- set(xs) -/
def rSetI (K : PySem.W.Frag) (w : World) : List V → Hp → VK → Prop := fun xs H Q => ∃ (l : Addr) (ns : List Int), xs = [.ref l] ∧ SqL K H l (ns.map V.int) ∧ ns.length ≤ 1000 ∧
  ∀ p c, H p = none → c ≤ ns.length → Q (.ref p) (upd H p (SetO w p (fun j => decide (j ∈ ns)) c))
theorem cr_setI {X : Cx} (hc : X.calm = true) : CallR X (.type "set") (rSetI X.K X.w) := by
  intro pins s σ H xs us Q I r h
  obtain ⟨l, ns, rfl, hl, hz, q⟩ := h
  obtain ⟨u, rfl, ru⟩ := vals1 r
  cases ru
  obtain ⟨its, rv, pl, _⟩ := I.list hl
  have hn : H s.heap.objs.size = none := I.hok.fresh (Nat.le_refl _)
  refine set_of_list ns (I.ok.hd hc) pl.isList (by simpa using intsAre_of rv) (by unfold scanBound; omega) ?_
  intro h' tk c R hcn k
  exact ⟨.ref s.heap.objs.size, upd H s.heap.objs.size (SetO X.w s.heap.objs.size (fun j => decide (j ∈ ns)) c), I.laid (t' := tk) k (Nat.le_refl _) (setO_new R), rfl, q _ c hn hcn⟩
end Gt
set_option Elab.async false
set_option linter.all false
set_option maxRecDepth 100000
set_option maxHeartbeats 4000000
namespace Gt
open PySem PySem.Spec PyProof.Rows L2
/-! ### sorted(d), d a dict whose keys are pairs of small ints -/
/-- the pairs' tuples stand at these addresses -/
abbrev PairsAt (H : Hp) (bs : List Addr) (ks : List (Int × Int)) : Prop := Paired (fun b (k : Int × Int) => H b = some (.tup [.int k.1, .int k.2])) bs ks
theorem PairsAt.mono {H H' : Hp} {bs : List Addr} {ks : List (Int × Int)} (t : Tups H H') (h : PairsAt H bs ks) : PairsAt H' bs ks := Paired.mapP h fun _ _ e => t _ _ e
def rSortedDP : List V → Hp → VK → Prop := fun xs H Q => ∃ (d : Addr) (kvs : List (List Key × V)) (ks : List (Int × Int)), xs = [.ref d] ∧ Rd H d (.dT kvs) ∧ kvs.map (·.1) = ks.map (fun k => [Sum.inl k.1, Sum.inl k.2]) ∧ ks.length < 64 ∧
  (∀ k ∈ ks, (0 ≤ k.1 ∧ k.1 < 64) ∧ 0 ≤ k.2 ∧ k.2 < 64) ∧
  ∀ (bs : List Addr) (js : List (Int × Int)) (p : Addr), PairsAt H bs js → js.Perm ks → js.Pairwise (fun a b => a.1 * 64 + a.2 ≤ b.1 * 64 + b.2) → H p = none → Q (.ref p) (upd H p (.lst (bs.map V.ref)))
theorem perm_map_of {α β : Type} {f : α → β} {l : List α} {m : List β} {l2 : List α} (p : l2.Perm l) (e : l.map f = m) : (l2.map f).Perm m := by
  rw [← e]
  exact p.map f
section
variable {X : Cx}
theorem cr_sortedDP (hc : X.calm = true) : CallR X (.builtin "sorted") rSortedDP := by
  intro pins s σ H xs us Q I r h
  obtain ⟨d, kvs, ks, rfl, hd, hk, h64, hB, q⟩ := h
  obtain ⟨u, rfl, ru⟩ := vals1 r
  cases ru
  obtain ⟨z, hs, ents, pr, o, es, ep, ho, hx, hdt, he, hn⟩ := (show ObjOk X.prog X.w H s.heap d (.dT kvs) from hd.ok I.hok)
  have l1 : es.size = ents.length := size_of_entries he
  have l2 : kvs.length = ents.length := Paired.length pr
  have l3 : kvs.length = ks.length := by
    have e := congrArg List.length hk
    rw [List.length_map, List.length_map] at e
    exact e
  refine Calls.call_function_entry PyProof.Rows.kind_sorted PyProof.Rows.plain_sorted PyProof.Rows.entry_sorted (PyProof.Rows.args_sorted1 _) ?_
  unfold Builtin.«sorted»
  refine wpAny_bind (m := checkCount "sorted" 1 1 _) (wpAny_pure ?_)
  refine wpAny_bind (PySem.W.kdu_collect (A := X.A.in1) (kdl_raw hs hx hdt) (I.ok.hd hc) ho (by omega) ?_)
  intro h1 tk acc kp it
  -- what was collected: the keys' addresses, in the dict's order
  have at_ : ∀ (j : Nat) (v : Value), acc.toList[j]? = some v → ∃ b k, v = .ref b ∧ ks[j]? = some k ∧ H b = some (.tup [.int k.1, .int k.2]) := by
    intro j v hj
    obtain ⟨en, hen, rfl⟩ := it.2 j v (by rw [← Array.getElem?_toList]; exact hj)
    have qe := entry_at he j
    rw [hen] at qe
    cases hb : ents[j]? with
    | none =>
      rw [hb] at qe
      cases qe
    | some x =>
      rw [hb] at qe
      obtain rfl : en = entryOfKey _ x := Option.some.inj qe
      have hj2 : j < kvs.length := by
        rw [l2]
        exact (List.getElem?_eq_some_iff.mp hb).1
      have hp : ∃ p, kvs[j]? = some p := ⟨_, List.getElem?_eq_getElem hj2⟩
      obtain ⟨p, hp⟩ := hp
      have two : p.1 = x.1 ∧ H x.2.1 = some (.tup (p.1.map kV)) ∧ RelV p.2 x.2.2 := by
        have gen : ∀ {l : List (List Key × V)} {m : List (List Key × Addr × Value)}, Paired (fun (p : List Key × V) (q : List Key × Addr × Value) => p.1 = q.1 ∧ H q.2.1 = some (.tup (p.1.map kV)) ∧ RelV p.2 q.2.2) l m →
            ∀ (j : Nat) p x, l[j]? = some p → m[j]? = some x → p.1 = x.1 ∧ H x.2.1 = some (.tup (p.1.map kV)) ∧ RelV p.2 x.2.2 := by
          intro l m g
          induction g with
          | nil => intro j p x e; simp at e
          | cons a t ih =>
            intro j p x e1 e2
            cases j with
            | zero =>
              simp at e1 e2
              rw [← e1, ← e2]
              exact a
            | succ j => exact ih j p x (by simpa using e1) (by simpa using e2)
        exact gen pr j p x hp hb
      have e3 : (kvs.map (·.1))[j]? = some p.1 := by rw [List.getElem?_map, hp]; rfl
      rw [hk, List.getElem?_map] at e3
      cases hq : ks[j]? with
      | none =>
        rw [hq] at e3
        cases e3
      | some k =>
        rw [hq] at e3
        have e4 : p.1 = [Sum.inl k.1, Sum.inl k.2] := (Option.some.inj e3).symm
        refine ⟨x.2.1, k, rfl, rfl, ?_⟩
        have e5 := two.2.1
        rw [e4] at e5
        exact e5
  have al : acc.toList.length = ks.length := by rw [Array.length_toList, it.1, l1, ← l2, l3]
  have I1 : Inv X pins σ H { s with heap := h1, toks := tk } := I.kept kp
  refine wpAny_bind (wpAny_newList ?_ (by rw [al, sizeLine_eq]; omega))
  have hoL : (h1.push (seqObj "list" acc.toList.toArray 0)).get? h1.objs.size = some (seqObj "list" acc.toList.toArray 0) := Heap.get?_push_size _ rfl
  show wpAny _ _ _ _ _ { s with heap := h1.push (seqObj "list" acc.toList.toArray 0), toks := tk }
  have I2 : Inv X pins σ H { s with heap := h1.push (seqObj "list" acc.toList.toArray 0), toks := tk } := I1.kept fun b u e => Heap.get?_push_of_some _ e
  have tints : ∀ (b : Addr) (k : Int × Int), H b = some (.tup [.int k.1, .int k.2]) → TS.TupInts (h1.push (seqObj "list" acc.toList.toArray 0)) (.ref b) [k.1, k.2] := by
    intro b k e
    obtain ⟨o2, n2, u1, u2, g1, g2, g3, ⟨t1, rfl⟩, ⟨t2, rfl⟩⟩ := tup2 I2.hok e
    exact ⟨b, _, rfl, ⟨o2, g1, g2, n2, g3⟩, .cons _ _ (.cons _ _ .nil)⟩
  have ok : TS.TupsOk (h1.push (seqObj "list" acc.toList.toArray 0)) 2 64 acc.toList := by
    intro v hv
    obtain ⟨j, hj⟩ := List.mem_iff_getElem?.mp hv
    obtain ⟨b, k, rfl, hkj, e⟩ := at_ j v hj
    refine ⟨[k.1, k.2], tints b k e, rfl, ?_⟩
    intro x hx
    have hb := hB k (List.mem_of_getElem? hkj)
    rcases List.mem_cons.mp hx with z | hx
    · rw [z]
      exact hb.1
    · rw [List.mem_singleton.mp hx]
      exact hb.2
  refine wpAny_bind (wpAny_holding (TS.call_sort_tups (s := { s with heap := h1.push (seqObj "list" acc.toList.toArray 0), toks := tk }) hoL (by rw [al]; exact h64) (by decide) ok ?_))
  intro out a1 a2
  obtain ⟨e', he'⟩ := PyProof.Rows.sortedHeap_at (vs := acc.toList) (out := out) hoL
  let f : Value → Int × Int := fun v => ((TS.intsOf (h1.push (seqObj "list" acc.toList.toArray 0)) v).getD 0 0, (TS.intsOf (h1.push (seqObj "list" acc.toList.toArray 0)) v).getD 1 0)
  let g : Value → Addr := fun v => match v with
    | .ref b => b
    | _ => 0
  have one : ∀ v ∈ acc.toList, ∃ b k, v = .ref b ∧ f v = k ∧ TS.intsOf (h1.push (seqObj "list" acc.toList.toArray 0)) v = [k.1, k.2] ∧ H b = some (.tup [.int k.1, .int k.2]) := by
    intro v hv
    obtain ⟨j, hj⟩ := List.mem_iff_getElem?.mp hv
    obtain ⟨b, k, rfl, _, e⟩ := at_ j v hj
    have ei := (tints b k e).ints
    refine ⟨b, k, rfl, ?_, ei, e⟩
    show (_, _) = k
    rw [ei]
    rfl
  have fk : acc.toList.map f = ks := by
    refine List.ext_getElem? fun j => ?_
    rw [List.getElem?_map]
    cases hj : acc.toList[j]? with
    | none =>
      have := List.getElem?_eq_none_iff.mp hj
      rw [List.getElem?_eq_none (by omega)]
      rfl
    | some v =>
      obtain ⟨b, k, rfl, hkj, e⟩ := at_ j v hj
      rw [hkj]
      have ei := (tints b k e).ints
      show some (_, _) = some k
      rw [ei]
      rfl
  have inA : ∀ v ∈ out.toList, v ∈ acc.toList := fun v hv => a1.mem_iff.mp hv
  have hpairs : ∀ l : List Value, (∀ v ∈ l, v ∈ acc.toList) → PairsAt H (l.map g) (l.map f) ∧ Vals ((l.map g).map V.ref) l := by
    intro l
    induction l with
    | nil => intro _; exact ⟨.nil, .nil⟩
    | cons v l ih =>
      intro hl
      obtain ⟨p1, p2⟩ := ih fun u hu => hl u (List.mem_cons_of_mem _ hu)
      obtain ⟨b, k, rfl, ek, _, e⟩ := one v (hl v List.mem_cons_self)
      refine ⟨.cons ?_ p1, .cons rfl p2⟩
      rw [ek]
      exact e
  obtain ⟨hp, hv⟩ := hpairs out.toList inA
  have sorted : (out.toList.map f).Pairwise (fun a b => a.1 * 64 + a.2 ≤ b.1 * 64 + b.2) := by
    rw [List.pairwise_map]
    refine List.Pairwise.imp_of_mem (fun {u v} hu hv hle => ?_) a2
    obtain ⟨b, k, rfl, ek, ei, _⟩ := one u (inA u hu)
    obtain ⟨b2, k2, rfl, ek2, ei2, _⟩ := one v (inA v hv)
    rw [ek, ek2]
    have hle2 : TS.code 64 (TS.intsOf (h1.push (seqObj "list" acc.toList.toArray 0)) (.ref b)) ≤ TS.code 64 (TS.intsOf (h1.push (seqObj "list" acc.toList.toArray 0)) (.ref b2)) := hle
    rw [ei, ei2, code_pair, code_pair] at hle2
    exact hle2
  have hlen : ((out.toList.map g).map V.ref).length ≤ sizeLine := by
    rw [List.length_map, List.length_map, a1.length_eq, al, sizeLine_eq]
    omega
  refine wpAny_pure ⟨_, rfl, .ref h1.objs.size, upd H h1.objs.size (.lst ((out.toList.map g).map V.ref)), I1.laid (t' := tk) (fun b u e => ?_) (Nat.le_refl _)
    (show ObjOk X.prog X.w _ _ _ (.lst ((out.toList.map g).map V.ref)) from ⟨hlen, out.toList, e', hv, by rw [Array.toArray_toList]; exact he'⟩), rfl, q _ _ _ hp (perm_map_of a1 fk) sorted (I1.hok.fresh (Nat.le_refl _))⟩
  have hb : b < h1.objs.size := Heap.lt_size e
  rw [PyProof.Rows.sortedHeap_old (Nat.ne_of_lt hb) (by rw [size_push']; exact Nat.lt_succ_of_lt hb)]
  exact Heap.get?_push_of_some _ e
end

/-! ### a text times a number, a pair above a pair -/
theorem fold_size (a : Array Nat) : ∀ (n : Nat) (acc : Array Nat), ((List.replicate n a).foldl (· ++ ·) acc).size = acc.size + n * a.size
  | 0, acc => by simp
  | n + 1, acc => by
    rw [List.replicate_succ, List.foldl_cons, fold_size a n, Array.size_append, Nat.succ_mul]
    omega
theorem mul_len (z : Str) (n : Int) (h : z.length = 1) : (Txt.mul z n).length ≤ n.toNat := by
  unfold Txt.mul
  by_cases h1 : n < 1
  · rw [if_pos h1]
    exact Nat.zero_le _
  · rw [if_neg h1]
    by_cases h2 : (n == 1 || z.length == 0) = true
    · rw [if_pos h2]
      omega
    · rw [if_neg h2]
      show ((List.replicate n.toNat z.cps).foldl (· ++ ·) #[]).size ≤ _
      have hz : z.cps.size = 1 := h
      rw [fold_size, hz]
      simp
def rMulS : R2 := fun x y H Q => ∃ (z : Str) (n : Int), x = .str z ∧ y = .int n ∧ n ≤ 20 ∧ -20 ≤ n ∧ z.length = 1 ∧ ∀ t : Str, t.length ≤ 20 → Q (.str t) H
theorem op_mulS {X : Cx} : OpR X (binaryOp .Mult) rMulS := by
  intro pins s σ H x y v u Q I rx ry h
  obtain ⟨z, n, rfl, rfl, h1, h2, hz, q⟩ := h
  obtain ⟨t, rfl⟩ := rx
  obtain ⟨t', rfl⟩ := ry
  refine SB.mul ⟨?_, ?_, ?_⟩ fun t2 k => ⟨.str (Txt.mul z n), H, I.tok _, ⟨_, rfl⟩, q _ (Nat.le_trans (mul_len z n hz) (by omega))⟩
  · rw [Bool.or_eq_false_iff]
    exact ⟨decide_eq_false (by omega), decide_eq_false (by omega)⟩
  · intro h3 _
    rw [hz]
    have : (1 : Int) ≤ (2 ^ 63 - 1) / n := by
      rw [Int.le_ediv_iff_mul_le (by omega)]
      omega
    omega
  · intro _ _
    rw [hz]
    refine decide_eq_false ?_
    rw [sizeLine_eq]
    omega
/-- stamps: (a, b) > (c, d) -/
def gtP (a b c d : Int) : Bool := if a = c then decide (d < b) else decide (c < a)
def rGtP (K : PySem.W.Frag) : R2 := fun x y H Q => ∃ p q a b c d, x = .ref p ∧ y = .ref q ∧ SqT K H p [.int a, .int b] ∧ SqT K H q [.int c, .int d] ∧ Q (.bl (gtP a b c d)) H
theorem op_gtP {X : Cx} (hu : X.A.units < cLine) : OpR X (compareOp .Gt) (rGtP X.K) := by
  intro pins s σ H x y v u Q I rx ry h
  obtain ⟨p, q', a, b, c, d, rfl, rfl, hp, hq, q⟩ := h
  cases rx
  cases ry
  obtain ⟨its, r1, p1, _⟩ := I.tuple hp
  obtain ⟨its2, r2, p2, _⟩ := I.tuple hq
  obtain ⟨u1, u2, rfl, ⟨t1, rfl⟩, ⟨t2, rfl⟩⟩ := vals2 r1
  obtain ⟨w1, w2, rfl, ⟨t3, rfl⟩, ⟨t4, rfl⟩⟩ := vals2 r2
  have R := Ob.RcOp.tuples_gt (A := X.A) (s := s) (e := fun j => if j = 0 then decide (a = c) else decide (b = d)) (r := fun j => if j = 0 then decide (c < a) else decide (d < b)) p1 p2 hu ?_ ?_
  · have e : Ob.lexAt (fun j => if j = 0 then decide (a = c) else decide (b = d)) (fun j => if j = 0 then decide (c < a) else decide (d < b)) (decide ((2 : Nat) > 2)) 0 2 = gtP a b c d := by
      unfold gtP
      rw [Ob.lexAt_succ, Ob.lexAt_succ, Ob.lexAt_zero]
      by_cases h1 : a = c
      · by_cases h2 : b = d
        · simp [h1, h2]
        · simp [h1, h2]
      · simp [h1]
    refine R X.prog X.w X.xe (EP X pins σ Q) ⟨.bl _, H, I, rfl, ?_⟩
    show Q (.bl (Ob.lexAt _ _ (decide ((2 : Nat) > 2)) 0 2)) H
    rw [e]
    exact q
  · intro j h1 h2
    match j, h1, h2 with
    | 0, _, _ => exact (SeqAt.EqAt.int_int a t1 c t3).cast (by simp [Bool.beq_eq_decide_eq])
    | 1, _, _ => exact (SeqAt.EqAt.int_int b t2 d t4).cast (by simp [Bool.beq_eq_decide_eq])
    | j + 2, h1, _ => exact absurd h1 (by simp)
  · intro j h1 h2 _
    match j, h1, h2 with
    | 0, _, _ => exact Ob.RcOp.gt_int a c t1 t3
    | 1, _, _ => exact Ob.RcOp.gt_int b d t2 t4
    | j + 2, h1, _ => exact absurd h1 (by simp)
end Gt
set_option Elab.async false
set_option linter.all false
set_option maxRecDepth 100000
set_option maxHeartbeats 4000000
/-! Part K: contracts of defs, methods, classes; heaps. -/
namespace Gt
open PySem PySem.Spec PyProof.Rows L2
section
variable {P : Program} {w : World} {K : PySem.W.Frag} {mg : Str → Option Value} {base : Heap}
theorem calOf {x : Str} {st : Stmt} {f : Addr} {N ps : List Str} {k : Nat} {sp : Sp} (d : ∃ fd, L2.Fun K x x st f fd) (g : mg x = some (.ref f)) (S : FnScope N ps (defScope st)) (bind : ∀ fd, L2.Fun K x x st f fd → L2.Binds K fd ps [])
    (len : ∀ vs H Q E, sp vs H Q E → vs.length = ps.length)
    (hb : ∀ (cdv : Value) (A : Around) (outer : List Env) (s : Shared) (H : Hp) (vs : List V) (Q : VK) (E : XK), Room k (A.deeper (envOfC x (defScope st) s.heap.objs.size f cdv)) → sp vs H Q E →
      ∃ t, PSs (cxOf CX0 P w K mg base N x (defScope st) f cdv A outer s H E).nox (defBody st) t ∧ t { nx := fun _ H' => Q .non H', rt := Q } (start N vs) H) : C8.Cal P w K mg base (k + 1) x sp [] := by
  obtain ⟨fd, F⟩ := d
  exact ⟨f, fd, ps, [], F.ok S len hb, g, F.kp, bind fd F, .nil⟩
theorem metOf {C : Addr} {m qual : Str} {st : Stmt} {f : Addr} {N ps : List Str} {k : Nat} {sp : Sp} (hc : Cls K C) (me : Meth K C m f) (d : ∃ fd, L2.Fun K m qual st f fd) (S : FnScope N ps (defScope st)) (bind : ∀ fd, L2.Fun K m qual st f fd → L2.Binds K fd ps [])
    (len : ∀ vs H Q E, sp vs H Q E → vs.length = ps.length)
    (hb : ∀ (cdv : Value) (A : Around) (outer : List Env) (s : Shared) (H : Hp) (vs : List V) (Q : VK) (E : XK), Room k (A.deeper (envOfC qual (defScope st) s.heap.objs.size f cdv)) → sp vs H Q E →
      ∃ t, PSs (cxOf CX0 P w K mg base N qual (defScope st) f cdv A outer s H E).nox (defBody st) t ∧ t { nx := fun _ H' => Q .non H', rt := Q } (start N vs) H) : C8.Met P w K mg base (k + 1) C m sp [] := by
  obtain ⟨fd, F⟩ := d
  exact ⟨f, fd, ps, [], hc, me, F.ok S len hb, bind fd F, .nil⟩
theorem makOf {C : Addr} {x qual : Str} {st : Stmt} {f : Addr} {N ps : List Str} {k : Nat} {sp : Sp} (M : Mk K C f) (g : mg x = some (.ref C)) (d : ∃ fd, L2.Fun K "__init__" qual st f fd) (S : FnScope N ps (defScope st)) (bind : ∀ fd, L2.Fun K "__init__" qual st f fd → L2.Binds K fd ps [])
    (len : ∀ vs H Q E, sp vs H Q E → vs.length = ps.length)
    (hb : ∀ (cdv : Value) (A : Around) (outer : List Env) (s : Shared) (H : Hp) (vs : List V) (Q : VK) (E : XK), Room k (A.deeper (envOfC qual (defScope st) s.heap.objs.size f cdv)) → sp vs H Q E →
      ∃ t, PSs (cxOf CX0 P w K mg base N qual (defScope st) f cdv A outer s H E).nox (defBody st) t ∧ t { nx := fun _ H' => Q .non H', rt := Q } (start N vs) H) : C8.Mak P w K mg base (k + 1) x C sp [] := by
  obtain ⟨fd, F⟩ := d
  exact ⟨f, fd, ps, [], M, F.ok S len hb, g, bind fd F, .nil⟩
/-- a def that may be called by its name where no repr is under way -/
structure CalG (P : Program) (w : World) (K : PySem.W.Frag) (mg : Str → Option Value) (base : Heap) (k : Nat) (x : Str) (sp : Sp) : Prop where
  ex : ∃ (f : Addr) (fd : FuncData) (ps : List Str), FnG P w K mg base k f fd ps sp ∧ mg x = some (.ref f) ∧ PySem.W.keepIn K (.ref f) = true ∧ L2.Binds K fd ps []
theorem calG {x : Str} {st : Stmt} {f : Addr} {N ps : List Str} {k : Nat} {sp : Sp} (d : ∃ fd, L2.Fun K x x st f fd) (g : mg x = some (.ref f)) (S : FnScope N ps (defScope st)) (bind : ∀ fd, L2.Fun K x x st f fd → L2.Binds K fd ps [])
    (len : ∀ vs H Q E, sp vs H Q E → vs.length = ps.length)
    (hb : ∀ (cdv : Value) (A : Around) (outer : List Env) (s : Shared) (H : Hp) (vs : List V) (Q : VK) (E : XK), (A.deeper (envOfC x (defScope st) s.heap.objs.size f cdv)).guards = some [] →
      Room k (A.deeper (envOfC x (defScope st) s.heap.objs.size f cdv)) → sp vs H Q E →
      ∃ t, PSs (cxOf CX0 P w K mg base N x (defScope st) f cdv A outer s H E).nox (defBody st) t ∧ t { nx := fun _ H' => Q .non H', rt := Q } (start N vs) H) : CalG P w K mg base (k + 1) x sp := by
  obtain ⟨fd, F⟩ := d
  exact ⟨f, fd, ps, bodyG F S len hb, g, F.kp, bind fd F⟩
theorem FnG.mono {j k : Nat} {f : Addr} {fd : FuncData} {ps : List Str} {sp : Sp} (F : FnG P w K mg base j f fd ps sp) (h : j ≤ k) : FnG P w K mg base k f fd ps sp :=
  ⟨F.size, fun A outer s H args us vs Q E hq hr => F.goes A outer s H args us vs Q E hq (hr.mono h)⟩
end
section
variable {X : Cx} {k j : Nat} {C : Addr} {x m : Str} {sp : Sp} {p pos apos : Pos} {e o : Expr} {es : List Expr} {ta : TE} {t : TA}
theorem pe_gc (c : CalG X.prog X.w X.K X.mg X.base k x sp) (hq : X.A.guards = some []) (hr : Room j X.A) (hk : k ≤ j) (hg : Gl X x) (ha : PA X (e :: es) t)
    (hdb : (x == ("__debug__" : Str)) = false := by decide) (he : starEach (e :: es) X.env = (false, eval e X.env) :: starEach es X.env := by rfl) (hpl : (backTo pos (starEach es X.env)).any (·.1) = false := by rfl) :
    PE X (.Call (.Name x p) (e :: es) [] pos) (tCall sp [] E0 t) := by
  obtain ⟨f, fd, ps, F, hm, kp, b⟩ := c.ex
  exact pe_g F hq (hr.mono hk) hg hm kp b ha hdb he hpl
theorem pe_mk0 (c : C8.Mak X.prog X.w X.K X.mg X.base k x C sp []) (hr : Room j X.A) (hk : k + 1 ≤ j) (hg : Gl X x) (hdb : (x == ("__debug__" : Str)) = false := by decide) : PE X (.Call (.Name x p) [] [] pos) (tMake C sp [] E0 tNil) := by
  obtain ⟨f, fd, ps, ds, M, F, hm, b, d⟩ := c.ex
  exact pe_make0 M F (hr.mono hk) hg hm b d pass0 hdb
end
theorem hu9_of {A : Around} {k : Nat} (hr : Room k A) : A.units + 9 < cLine := by have := hr.un; omega
theorem hu64_of {A : Around} {k : Nat} (hr : Room k A) : A.units + 64 < cLine := by have := hr.un; omega
theorem hu65_of {A : Around} {k : Nat} (hr : Room k A) : A.units + 65 < cLine := by have := hr.un; omega
theorem hu80_of {A : Around} {k : Nat} (hr : Room k A) : A.units + 80 < cLine := by have := hr.un; omega
theorem hu0_of {A : Around} {k : Nat} (hr : Room k A) : A.units < cLine := by have := hr.un; omega

/-! ### heaps: all is kept but what S holds -/
def Kp (S : List Addr) (H H' : Hp) : Prop := ∀ b o, H b = some o → b ∉ S → H' b = some o
theorem Kp.refl (S : List Addr) (H : Hp) : Kp S H H := fun _ _ e _ => e
theorem Kp.trans {S : List Addr} {H H1 H2 : Hp} (a : Kp S H H1) (b : Kp S H1 H2) : Kp S H H2 := fun c o e n => b c o (a c o e n) n
theorem Kp.mono {S T : List Addr} {H H' : Hp} (a : Kp S H H') (h : ∀ b ∈ S, b ∈ T) : Kp T H H' := fun c o e n => a c o e fun z => n (h c z)
theorem Kp.of {S : List Addr} {H H' : Hp} (a : Same H H') : Kp S H H' := fun c o e _ => a c o e
theorem Kp.same {H H' : Hp} (a : Kp [] H H') : Same H H' := fun c o e => a c o e (fun z => nomatch z)
theorem Kp.new {S : List Addr} {H : Hp} {p : Addr} {o : HO} (n : H p = none) : Kp S H (upd H p o) := fun b u e _ => by
  rw [upd_ne (ne_of_none e n)]
  exact e
theorem Kp.put {S : List Addr} {H : Hp} {p : Addr} {o : HO} (n : p ∈ S) : Kp S H (upd H p o) := fun b u e h => by
  rw [upd_ne fun z => h (by rw [z]; exact n)]
  exact e
theorem Same.new {H : Hp} {p : Addr} {o : HO} (n : H p = none) : Same H (upd H p o) := fun b u e => by
  rw [upd_ne (ne_of_none e n)]
  exact e
/-- what is no tuple -/
def isTup : HO → Bool
  | .tup _ => true
  | _ => false
theorem Kp.tups {S : List Addr} {H H' : Hp} (a : Kp S H H') (h : ∀ b ∈ S, ∀ o, H b = some o → isTup o = false) : Tups H H' := by
  intro b xs e
  refine a b _ e fun z => ?_
  have := h b z _ e
  cases this
theorem Same.tups {H H' : Hp} (a : Same H H') : Tups H H' := fun b xs e => a b _ e
theorem Kp.free {S : List Addr} {H H' : Hp} (a : Kp S H H') {b : Addr} (h : H' b = none) (n : b ∉ S) : H b = none := by
  cases q : H b with
  | none => rfl
  | some o =>
    rw [a b o q n] at h
    cases h
theorem paired_get {α β : Type} {R : α → β → Prop} : ∀ {l : List α} {m : List β}, Paired R l m → ∀ (i : Nat) (b : β), m[i]? = some b → ∃ a, l[i]? = some a ∧ R a b
  | _, _, .nil, i, b, h => by simp at h
  | _, _, .cons r t, 0, b, h => by
    simp at h
    subst h
    exact ⟨_, rfl, r⟩
  | _, _, .cons r t, i + 1, b, h => by
    obtain ⟨a, h1, h2⟩ := paired_get t i b (by simpa using h)
    exact ⟨a, by simpa using h1, h2⟩
theorem paired_get' {α β : Type} {R : α → β → Prop} : ∀ {l : List α} {m : List β}, Paired R l m → ∀ (i : Nat) (a : α), l[i]? = some a → ∃ b, m[i]? = some b ∧ R a b
  | _, _, .nil, i, b, h => by simp at h
  | _, _, .cons r t, 0, b, h => by
    simp at h
    subst h
    exact ⟨_, rfl, r⟩
  | _, _, .cons r t, i + 1, b, h => by
    obtain ⟨a, h1, h2⟩ := paired_get' t i b (by simpa using h)
    exact ⟨a, by simpa using h1, h2⟩
theorem paired_snoc {α β : Type} {R : α → β → Prop} {l : List α} {m : List β} {a : α} {b : β} (p : Paired R l m) (r : R a b) : Paired R (l ++ [a]) (m ++ [b]) := Paired.snoc p r
end Gt
set_option Elab.async false
set_option linter.all false
set_option maxRecDepth 100000
set_option maxHeartbeats 4000000
/-! Math 1: changes, their data, the octets of messages. -/
namespace Gt
open PySem PySem.Spec PyProof.Rows L2
/-- a value that a change sets -/
inductive Wo where
  | non | txt (l : List Nat) | num (i : Int) | rf (p c : Int)
/-- a change: its stamp, its object, its field, its value -/
structure Ch where
  ck : Int
  pr : Int
  np : Int
  nc : Int
  fd : List Nat
  wo : Wo
/-! ### what they are as data -/
def woD : Wo → PyData
  | .non => .none
  | .txt l => .str (SX.S l)
  | .num i => .int i
  | .rf p c => .tuple [.str "ref", .tuple [.int p, .int c]]
def chD (c : Ch) : PyData := .tuple [.tuple [.int c.ck, .int c.pr], .tuple [.int c.np, .int c.nc], .str (SX.S c.fd), woD c.wo]
/-! ### what is small enough -/
def okL (l : List Nat) : Prop := ∀ c ∈ l, 97 ≤ c ∧ c ≤ 122
def okW : Wo → Prop
  | .non => True
  | .txt l => okL l ∧ l.length ≤ 20
  | .num i => -1000000 ≤ i ∧ i ≤ 1000000
  | .rf p c => (0 ≤ p ∧ p < 8) ∧ 0 ≤ c ∧ c ≤ 4294967295
structure okC (c : Ch) : Prop where
  ck : 1 ≤ c.ck ∧ c.ck ≤ 4294967295
  pr : 0 ≤ c.pr ∧ c.pr < 8
  np : 0 ≤ c.np ∧ c.np < 8
  nc : 0 ≤ c.nc ∧ c.nc ≤ 4294967295
  fd : okL c.fd
  fl : 1 ≤ c.fd.length ∧ c.fd.length ≤ 8
  wo : okW c.wo
/-! ### octets -/
def numO : Nat → Int → List Int
  | 0, _ => []
  | k + 1, n => (n / 256 ^ k % 256) :: numO k n
def wordO (l : List Nat) : List Int := (l.length : Int) :: l.map fun c : Nat => (c : Int)
def nmO (p c : Int) : List Int := p :: numO 4 c
def woO : Wo → List Int
  | .non => [0]
  | .txt l => 2 :: wordO l
  | .num i => 1 :: numO 3 (i + 1000000)
  | .rf p c => 3 :: nmO p c
def chO (c : Ch) : List Int := numO 4 c.ck ++ [c.pr] ++ nmO c.np c.nc ++ wordO c.fd ++ woO c.wo
def ckS (st : Int × Int) (o : Int) : Int × Int := ((st.1 + o) % 256, (st.2 + (st.1 + o) % 256) % 256)
def ckO (l : List Int) : List Int := [(l.foldl ckS (0, 0)).2, (l.foldl ckS (0, 0)).1]
def msgB (s n : Int) (cs : List Ch) : List Int := cs.foldl (fun o c => o ++ chO c) ([s] ++ numO 4 n ++ numO 2 (cs.length : Int))
def msgO (s n : Int) (cs : List Ch) : List Int := msgB s n cs ++ ckO (msgB s n cs)
theorem numO_len : ∀ (k : Nat) (n : Int), (numO k n).length = k
  | 0, _ => rfl
  | k + 1, n => by rw [numO, List.length_cons, numO_len k n]
theorem div_step (n : Int) (i : Nat) : n / 256 ^ i / 256 = n / 256 ^ (i + 1) := by
  rw [Int.pow_succ, Int.ediv_ediv_of_nonneg (Int.pow_nonneg (by decide))]
theorem woO_len (v : Wo) (h : okW v) : (woO v).length ≤ 22 := by
  cases v with
  | non => decide
  | txt l =>
    have := h.2
    simp only [woO, wordO, List.length_cons, List.length_map]
    omega
  | num i => simp [woO, numO_len]
  | rf p c => simp [woO, nmO, numO_len]
theorem chO_len (c : Ch) (h : okC c) : (chO c).length ≤ 41 := by
  have h1 := woO_len c.wo h.wo
  have h2 := h.fl
  simp only [chO, nmO, wordO, List.length_append, numO_len, List.length_cons, List.length_map, List.length_nil]
  omega
theorem foldl_app (cs : List Ch) : ∀ o : List Int, cs.foldl (fun o c => o ++ chO c) o = o ++ cs.flatMap chO := by
  induction cs with
  | nil => intro o; simp
  | cons c cs ih =>
    intro o
    rw [List.foldl_cons, ih, List.flatMap_cons, List.append_assoc]
theorem msgB_eq (s n : Int) (cs : List Ch) : msgB s n cs = [s] ++ numO 4 n ++ numO 2 (cs.length : Int) ++ cs.flatMap chO := by
  unfold msgB
  rw [foldl_app]
/-! ### in the heap -/
def NmAt (H : Hp) (a : Addr) (p c : Int) : Prop := H a = some (.tup [.int p, .int c])
def WoAt (H : Hp) (v : V) : Wo → Prop
  | .non => v = .non
  | .txt l => v = .str (SX.S l)
  | .num i => v = .int i
  | .rf p c => ∃ a b, v = .ref a ∧ H a = some (.tup [.str "ref", .ref b]) ∧ NmAt H b p c
def ChAt (H : Hp) (a : Addr) (c : Ch) : Prop := ∃ s n v, H a = some (.tup [.ref s, .ref n, .str (SX.S c.fd), v]) ∧ NmAt H s c.ck c.pr ∧ NmAt H n c.np c.nc ∧ WoAt H v c.wo
theorem NmAt.mono {H H' : Hp} {a : Addr} {p c : Int} (t : Tups H H') (h : NmAt H a p c) : NmAt H' a p c := t _ _ h
theorem WoAt.mono {H H' : Hp} {v : V} {x : Wo} (t : Tups H H') (h : WoAt H v x) : WoAt H' v x := by
  cases x with
  | rf p c =>
    obtain ⟨a, b, e, h1, h2⟩ := h
    exact ⟨a, b, e, t _ _ h1, t _ _ h2⟩
  | _ => exact h
theorem ChAt.mono {H H' : Hp} {a : Addr} {c : Ch} (t : Tups H H') (h : ChAt H a c) : ChAt H' a c := by
  obtain ⟨s, n, v, h1, h2, h3, h4⟩ := h
  exact ⟨s, n, v, t _ _ h1, h2.mono t, h3.mono t, h4.mono t⟩
/-- a list of changes -/
abbrev ChsAt (H : Hp) (as : List Addr) (cs : List Ch) : Prop := Paired (ChAt H) as cs
theorem ChsAt.mono {H H' : Hp} {as : List Addr} {cs : List Ch} (t : Tups H H') (h : ChsAt H as cs) : ChsAt H' as cs := Paired.mapP h fun _ _ z => z.mono t
/-! ### as data of the layer -/
section
variable {K : PySem.W.Frag} {H : Hp}
theorem sqT_of {a : Addr} {xs : List V} (h : H a = some (.tup xs)) : SqT K H a xs := .inl (.inl h)
theorem nm_dp {a : Addr} {p c : Int} (h : NmAt H a p c) : Dp K H (.ref a) (.tuple [.int p, .int c]) := .tup (sqT_of h) (.cons (.int _) (.cons (.int _) .nil))
theorem wo_dp {v : V} {x : Wo} (h : WoAt H v x) : Dp K H v (woD x) := by
  cases x with
  | non => rw [show v = .non from h]; exact .non
  | txt l => rw [show v = .str (SX.S l) from h]; exact .str _
  | num i => rw [show v = .int i from h]; exact .int _
  | rf p c =>
    obtain ⟨a, b, rfl, h1, h2⟩ := h
    exact .tup (sqT_of h1) (.cons (.str _) (.cons (nm_dp h2) .nil))
theorem ch_dp {a : Addr} {c : Ch} (h : ChAt H a c) : Dp K H (.ref a) (chD c) := by
  obtain ⟨s, n, v, h1, h2, h3, h4⟩ := h
  exact .tup (sqT_of h1) (.cons (nm_dp h2) (.cons (nm_dp h3) (.cons (.str _) (.cons (wo_dp h4) .nil))))
theorem chs_dp {as : List Addr} {cs : List Ch} (h : ChsAt H as cs) : DpAll K H (as.map V.ref) (cs.map chD) := by
  induction h with
  | nil => exact .nil
  | cons a t ih => exact .cons (ch_dp a) ih
end
end Gt
set_option Elab.async false
set_option linter.all false
set_option maxRecDepth 100000
set_option maxHeartbeats 4000000
/-! Defs 1: writing octets. -/
namespace Gt
open PySem PySem.Spec PyProof.Rows L2
/-- a new list of xs, all else kept -/
def rNewL (H : Hp) (Q : VK) (xs : List V) : Prop := ∀ p H', H p = none → Same H H' → H' p = some (.lst xs) → Q (.ref p) H'
theorem Same.upd {H H1 : Hp} {p : Addr} {o : HO} (a : Same H H1) (n : H p = none) : Same H (upd H1 p o) := fun b u e => by
  rw [upd_ne (ne_of_none e n)]
  exact a b u e
def spNumO : Sp := fun vs H Q _ => ∃ (n : Int) (k : Nat), vs = [.int n, .int (k : Int)] ∧ k ≤ 8 ∧ rNewL H Q ((numO k n).map V.int)
def spCk : Sp := fun vs H Q _ => ∃ (a : Addr) (o : List Int), vs = [.ref a] ∧ H a = some (.lst (o.map V.int)) ∧ rNewL H Q ((ckO o).map V.int)
section
variable {P : Program} {w : World} {K : PySem.W.Frag} {mg : Str → Option Value} {base : Heap}
theorem scNumberOctets : FnScope ["number", "many", "found", "rest", "place"] ["number", "many"] (defScope sNumberOctets) := ⟨rfl, rfl, rfl, by decide +kernel, rfl, by decide +kernel, by decide +kernel⟩
theorem k_number_octets (T : Tx K mg) : C8.Cal P w K mg base 1 "number_octets" spNumO [] := by
  refine calOf T.d_number_octets T.g_number_octets scNumberOctets (fun _ F => F.binds fun _ _ _ _ _ _ us hl => match us, hl with | [_, _], _ => rfl) (fun vs H Q E h => ?_) (fun cdv A outer s H vs Q E hr h => ?_)
  · obtain ⟨n, k, rfl, _⟩ := h
    rfl
  · obtain ⟨n, k, rfl, hk, q⟩ := h
    refine ⟨_, (pss_cons (ps_set (i := 2) scNumberOctets.nd rfl (Or.inl rfl) (pe_lst pa_nil))
      (pss_cons (ps_set (i := 3) scNumberOctets.nd rfl (Or.inl rfl) (pv 0))
      (pss_cons (ps_for PassesOwn.never rfl (pi_range1 (by rfl) T.n_range (pa_cons (pv 1) pa_nil)) (pg_name (i := 4) scNumberOctets.nd rfl (Or.inl rfl))
      (pss_cons (ps_expr (pe_bm PySem.F.plainAttrs_list PySem.F.slot_list_insert PySem.F.type_list_insert mt_insert (pv 2) (pa_cons pe_int (pa_cons (pe_op op_mod (pv 3) pe_int) pa_nil))))
      (pss_one (ps_set (i := 3) scNumberOctets.nd rfl (Or.inl rfl) (pe_op op_fdiv (pv 3) pe_int)))))
      (pss_one (ps_ret (pv 2)))))), ?_⟩
    refine ⟨Nat.zero_le _, fun p hp => ?_⟩
    refine ⟨_, rfl, _, rfl, k, rfl, by omega, by omega, for_range (lo := 0) (n := ((k : Int)).toNat) (fun i σ H1 => ∃ v, σ = [some (.int n), some (.int (k : Int)), some (.ref p), some (.int (n / 256 ^ i)), v] ∧ H1 = upd H p (.lst ((numO i n).map V.int)))
      ⟨none, by simp [L2.start], rfl⟩ ?_ ?_⟩
    · rintro i σ H1 hi ⟨v, rfl, rfl⟩
      refine ⟨_, rfl, .inl ⟨rfl, _, SqL.of upd_same⟩, _, rfl, _, _, rfl, rfl, (show (0 : Int) < 256 by decide), p, _, _, _, rfl, rfl, upd_same, ?_, by decide, by decide, ?_⟩
      · rw [List.length_map, numO_len, sizeLine_eq]
        omega
      · refine ⟨_, rfl, _, _, rfl, rfl, ⟨by decide, by decide⟩, ?_⟩
        refine ⟨some (.int (0 + (i : Int))), ?_, ?_⟩
        · rw [← div_step]
          rfl
        · rw [upd_upd]
          rfl
    · rintro σ H1 ⟨v, rfl, rfl⟩
      refine ⟨_, rfl, ?_⟩
      rw [Int.toNat_natCast]
      exact q p _ hp (Same.new hp) upd_same
theorem scCheckOf : FnScope ["octets", "low", "high", "octet"] ["octets"] (defScope sCheckOf) := ⟨rfl, rfl, rfl, by decide +kernel, rfl, by decide +kernel, by decide +kernel⟩
theorem k_check_of (T : Tx K mg) : C8.Cal P w K mg base 1 "check_of" spCk [] := by
  refine calOf T.d_check_of T.g_check_of scCheckOf (fun _ F => F.binds fun _ _ _ _ _ _ us hl => match us, hl with | [_], _ => rfl) (fun vs H Q E h => ?_) (fun cdv A outer s H vs Q E hr h => ?_)
  · obtain ⟨a, o, rfl, _⟩ := h
    rfl
  · obtain ⟨a, o, rfl, ha, q⟩ := h
    refine ⟨_, (pss_cons (ps_set (i := 1) scCheckOf.nd rfl (Or.inl rfl) pe_int)
      (pss_cons (ps_set (i := 2) scCheckOf.nd rfl (Or.inl rfl) pe_int)
      (pss_cons (ps_for PassesOwn.never rfl (pi_list (pv 0)) (pg_name (i := 3) scCheckOf.nd rfl (Or.inl rfl))
      (pss_cons (ps_set (i := 1) scCheckOf.nd rfl (Or.inl rfl) (pe_op op_mod (pe_op op_add (pv 1) (pv 3)) pe_int))
      (pss_one (ps_set (i := 2) scCheckOf.nd rfl (Or.inl rfl) (pe_op op_mod (pe_op op_add (pv 2) (pv 1)) pe_int)))))
      (pss_one (ps_ret (pe_lst (pa_cons (pv 2) (pa_cons (pv 1) pa_nil)))))))), ?_⟩
    refine ⟨_, rfl, a, rfl, ⟨_, SqL.of ha⟩, for_list (K := K) (a := a) (xs := o.map V.int) (fun i σ H1 => ∃ v, σ = [some (.ref a), some (.int ((o.take i).foldl ckS (0, 0)).1), some (.int ((o.take i).foldl ckS (0, 0)).2), v] ∧ H1 = H)
      ⟨none, by simp [L2.start], rfl⟩ (fun i σ H1 _ ⟨_, _, e⟩ => by rw [e]; exact SqL.of ha) ?_ ?_⟩
    · rintro i y σ H1 hi ⟨v, rfl, rfl⟩
      rw [List.getElem?_map] at hi
      cases e : o[i]? with
      | none =>
        rw [e] at hi
        cases hi
      | some z =>
        rw [e] at hi
        obtain rfl : V.int z = y := Option.some.inj hi
        have et : o.take (i + 1) = o.take i ++ [z] := take_next e
        refine ⟨_, rfl, _, rfl, _, _, rfl, rfl, _, _, rfl, rfl, (show (0 : Int) < 256 by decide), ?_⟩
        refine ⟨_, rfl, _, rfl, _, _, rfl, rfl, _, _, rfl, rfl, (show (0 : Int) < 256 by decide), ?_⟩
        refine ⟨some (.int z), ?_, rfl⟩
        rw [et, List.foldl_append]
        rfl
    · rintro σ H1 ⟨v, rfl, rfl⟩
      rw [List.length_map, List.take_length]
      refine ⟨_, rfl, _, rfl, (show 2 ≤ sizeLine by decide), fun p hp => ?_⟩
      exact q p _ hp (Same.new hp) upd_same
end
end Gt
set_option Elab.async false
set_option linter.all false
set_option maxRecDepth 100000
set_option maxHeartbeats 4000000
/-! Part L: comprehensions whose parts' readings hang, to the letter, on the block. -/
namespace Gt
open PySem PySem.Spec PyProof.Rows L2
/-- a letter for each thing that a block is made of -/
abbrev Blk (α : Type) : Type := Shared → Hp → Addr → List (Str × Addr) → List Addr → α
def sh0 : Shared := {}
abbrev Blk.at0 {α : Type} (f : Blk α) : α := f sh0 (fun _ => none) 0 [] []
section
variable {X : Cx} {elt tg iter : Expr} {ifs : List Expr} {scope : Scope} {own : List (Str × Nat)} {pos spos : Pos} {wi : TI} {g : TG} {tt : Blk TT} {te : Blk TE}
theorem pe_lcD (hc : X.calm = true) (hN : X.N.Nodup) (hi : PI X tg iter wi) (ok : BlkOk X.N X.env.scope scope own)
    (hg : ∀ (s : Shared) (H : Hp) (C : Addr) (cl : List (Str × Addr)) (fp : List Addr), PG (X.blk s H scope (compEnvC scope cl C X.env) fp) tg g)
    (ht : ∀ (s : Shared) (H : Hp) (C : Addr) (cl : List (Str × Addr)) (fp : List Addr), PTs (X.blk s H scope (compEnvC scope cl C X.env) fp) ifs (tt s H C cl fp))
    (he : ∀ (s : Shared) (H : Hp) (C : Addr) (cl : List (Str × Addr)) (fp : List Addr), PE (X.blk s H scope (compEnvC scope cl C X.env) fp) elt (te s H C cl fp))
    (et : ∀ s H C cl fp, tt s H C cl fp = tt.at0 := by intro _ _ _ _ _; rfl) (ee : ∀ s H C cl fp, te s H C cl fp = te.at0 := by intro _ _ _ _ _; rfl)
    (hs : ∀ x, foldedSetIterable iter X.env x = pure x := by intro _; rfl) : PE X (.ListComp elt [⟨tg, iter, ifs, 0⟩] scope pos) (tLc wi g tt.at0 te.at0 (own.map (·.2))) :=
  pe_lc hc hN hi ok hg (fun s H C cl fp => by rw [← et s H C cl fp]; exact ht s H C cl fp) (fun s H C cl fp => by rw [← ee s H C cl fp]; exact he s H C cl fp) hs
theorem ps_setLcD {i : Nat} {y : Str} {py : Pos} (hc : X.calm = true) (hN : X.N.Nodup) (hy : X.N[i]? = some y) (hyl : X.env.scope.names.lookup y = some .local)
    (hsw : swapsWith (.ListComp elt [⟨tg, iter, ifs, 0⟩] scope pos) (some (.Name y py)) spos.line X.env = pure true) (hi : PI X tg iter wi) (ok : BlkOk X.N X.env.scope scope own)
    (hg : ∀ (s : Shared) (H : Hp) (C : Addr) (cl : List (Str × Addr)) (fp : List Addr), PG (X.blk s H scope (compEnvC scope cl C X.env) fp) tg g)
    (ht : ∀ (s : Shared) (H : Hp) (C : Addr) (cl : List (Str × Addr)) (fp : List Addr), PTs (X.blk s H scope (compEnvC scope cl C X.env) fp) ifs (tt s H C cl fp))
    (he : ∀ (s : Shared) (H : Hp) (C : Addr) (cl : List (Str × Addr)) (fp : List Addr), PE (X.blk s H scope (compEnvC scope cl C X.env) fp) elt (te s H C cl fp))
    (et : ∀ s H C cl fp, tt s H C cl fp = tt.at0 := by intro _ _ _ _ _; rfl) (ee : ∀ s H C cl fp, te s H C cl fp = te.at0 := by intro _ _ _ _ _; rfl)
    (hs : ∀ x, foldedSetIterable iter X.env x = pure x := by intro _; rfl) : PS X (.Assign [.Name y py] (.ListComp elt [⟨tg, iter, ifs, 0⟩] scope pos) spos) (tAsg (tLc wi g tt.at0 te.at0 (own.map (·.2))) (gName i)) :=
  ps_setLc hc hN hy hyl hsw hi ok hg (fun s H C cl fp => by rw [← et s H C cl fp]; exact ht s H C cl fp) (fun s H C cl fp => by rw [← ee s H C cl fp]; exact he s H C cl fp) hs
end
end Gt
set_option Elab.async false
set_option linter.all false
set_option maxRecDepth 100000
set_option maxHeartbeats 4000000
/-! Defs 2: writing octets, the parts of a message. -/
namespace Gt
open PySem PySem.Spec PyProof.Rows L2
def isRf : Wo → Bool
  | .rf _ _ => true
  | _ => false
theorem WoAt.not_ref {H : Hp} {v : V} {x : Wo} (h : WoAt H v x) (n : isRf x = false) : ∀ a, v ≠ .ref a := by
  intro a e
  cases x with
  | rf p c => cases n
  | non => rw [show v = .non from h] at e; cases e
  | txt l => rw [show v = .str (SX.S l) from h] at e; cases e
  | num i => rw [show v = .int i from h] at e; cases e
def spTarget : Sp := fun vs H Q _ => ∃ (v : V) (x : Wo), vs = [v] ∧ WoAt H v x ∧ (∀ a b, v = .ref a → H a = some (.tup [.str "ref", .ref b]) → Q (.ref b) H) ∧ ((∀ a, v ≠ .ref a) → Q .non H)
def spIsRef : Sp := fun vs H Q _ => ∃ (v : V) (x : Wo), vs = [v] ∧ WoAt H v x ∧ Q (.bl (isRf x)) H
def spName : Sp := fun vs H Q _ => ∃ (a : Addr) (p c : Int), vs = [.ref a] ∧ NmAt H a p c ∧ rNewL H Q ((nmO p c).map V.int)
def spWord : Sp := fun vs H Q _ => ∃ (l : List Nat), vs = [.str (SX.S l)] ∧ okL l ∧ l.length ≤ 1000 ∧ rNewL H Q ((wordO l).map V.int)
def spWorth : Sp := fun vs H Q _ => ∃ (v : V) (x : Wo), vs = [v] ∧ WoAt H v x ∧ okW x ∧ rNewL H Q ((woO x).map V.int)
def spChange : Sp := fun vs H Q _ => ∃ (a : Addr) (c : Ch), vs = [.ref a] ∧ ChAt H a c ∧ okC c ∧ rNewL H Q ((chO c).map V.int)
def spMsg : Sp := fun vs H Q _ => ∃ (s n : Int) (l : Addr) (as : List Addr) (cs : List Ch), vs = [.int s, .int n, .ref l] ∧ H l = some (.lst (as.map V.ref)) ∧ ChsAt H as cs ∧ (∀ c ∈ cs, okC c) ∧ cs.length ≤ 1000 ∧ rNewL H Q ((msgO s n cs).map V.int)
theorem lettersIx : (List.range 26).all (fun i => (Builtin.Str.occurrences "abcdefghijklmnopqrstuvwxyz" ⟨#[97 + i]⟩ 0 (Str.length "abcdefghijklmnopqrstuvwxyz") 1).head? == some i) = true := by decide +kernel
theorem letter_ix {c : Nat} (h : 97 ≤ c ∧ c ≤ 122) : ∃ rest, Builtin.Str.occurrences "abcdefghijklmnopqrstuvwxyz" ⟨#[c]⟩ 0 (Str.length "abcdefghijklmnopqrstuvwxyz") 1 = (c - 97) :: rest := by
  have q := List.all_eq_true.mp lettersIx (c - 97) (List.mem_range.mpr (by omega))
  rw [show 97 + (c - 97) = c by omega] at q
  have e := eq_of_beq q
  cases hl : Builtin.Str.occurrences "abcdefghijklmnopqrstuvwxyz" ⟨#[c]⟩ 0 (Str.length "abcdefghijklmnopqrstuvwxyz") 1 with
  | nil =>
    rw [hl] at e
    cases e
  | cons x r =>
    rw [hl] at e
    rw [Option.some.inj e]
    exact ⟨r, rfl⟩
theorem line_ge {n : Nat} (h : n ≤ 1000000) : n ≤ sizeLine := by rw [sizeLine_eq]; omega
section
variable {P : Program} {w : World} {K : PySem.W.Frag} {mg : Str → Option Value} {base : Heap}
theorem scTargetOf : FnScope ["value"] ["value"] (defScope sTargetOf) := ⟨rfl, rfl, rfl, by decide +kernel, rfl, by decide +kernel, by decide +kernel⟩
theorem k_target_of (T : Tx K mg) : C8.Cal P w K mg base 1 "target_of" spTarget [] := by
  refine calOf T.d_target_of T.g_target_of scTargetOf (fun _ F => F.binds fun _ _ _ _ _ _ us hl => match us, hl with | [_], _ => rfl) (fun vs H Q E h => ?_) (fun cdv A outer s H vs Q E hr h => ?_)
  · obtain ⟨v, x, rfl, _⟩ := h
    rfl
  · obtain ⟨v, x, rfl, hv, q1, q2⟩ := h
    refine ⟨_, (pss_cons (ps_if (pt_val (pe_callB call_isi (by rfl) T.n_isinstance (by decide +kernel) (pa_cons (pv 0) (pa_cons (pe_bltn (v := .ty "tuple") (by rfl) T.n_tuple (by decide +kernel) rfl) pa_nil)))) (pss_one (ps_ret (pe_ix ix_tup (pv 0) pe_int (fun _ _ => rfl)))) pss_nil)
      (pss_one (ps_ret pe_non))), ?_⟩
    refine ⟨_, rfl, ?_⟩
    cases x with
    | rf p c =>
      obtain ⟨a, b, rfl, h1, h2⟩ := hv
      refine ⟨_, _, _, _, _, rfl, .ty "tuple", .base (.tup h1), kit_ty (r := true) (by decide +kernel), true, rfl, ?_⟩
      refine iteT ?_
      refine ⟨_, rfl, a, _, _, _, rfl, rfl, sqT_of h1, atI_nat (j := 1) rfl, ?_⟩
      exact q1 a b rfl h1
    | non =>
      obtain rfl : v = .non := hv
      refine ⟨_, _, _, _, _, rfl, .ty "tuple", .base .non, kit_ty (r := false) (by decide +kernel), false, rfl, ?_⟩
      exact q2 fun a e => by cases e
    | txt l =>
      obtain rfl : v = .str (SX.S l) := hv
      refine ⟨_, _, _, _, _, rfl, .ty "tuple", .base (.str _), kit_ty (r := false) (by decide +kernel), false, rfl, ?_⟩
      exact q2 fun a e => by cases e
    | num i =>
      obtain rfl : v = .int i := hv
      refine ⟨_, _, _, _, _, rfl, .ty "tuple", .base (.int _), kit_ty (r := false) (by decide +kernel), false, rfl, ?_⟩
      exact q2 fun a e => by cases e
theorem scIsReference : FnScope ["value"] ["value"] (defScope sIsReference) := ⟨rfl, rfl, rfl, by decide +kernel, rfl, by decide +kernel, by decide +kernel⟩
theorem k_is_reference (T : Tx K mg) : C8.Cal P w K mg base 2 "is_reference" spIsRef [] := by
  have k_target_of : C8.Cal P w K mg base 1 "target_of" spTarget [] := k_target_of T
  refine calOf T.d_is_reference T.g_is_reference scIsReference (fun _ F => F.binds fun _ _ _ _ _ _ us hl => match us, hl with | [_], _ => rfl) (fun vs H Q E h => ?_) (fun cdv A outer s H vs Q E hr h => ?_)
  · obtain ⟨v, x, rfl, _⟩ := h
    rfl
  · obtain ⟨v, x, rfl, hv, q⟩ := h
    refine ⟨_, (pss_one (ps_ret (pe_cmpR op_notN (C8.pe_c k_target_of hr (by decide) rfl (pa_cons (pv 0) pa_nil)) pe_non (nomark _)))), ?_⟩
    refine ⟨_, rfl, v, x, rfl, hv, fun a b e1 e2 => ?_, fun n => ?_⟩
    · refine ⟨rfl, ?_⟩
      cases x with
      | rf p c => exact q
      | _ => exact absurd e1 (hv.not_ref rfl a)
    · refine ⟨rfl, ?_⟩
      cases x with
      | rf p c =>
        obtain ⟨a, b, e, _⟩ := hv
        exact absurd e (n a)
      | _ => exact q
theorem scNameOctets : FnScope ["name"] ["name"] (defScope sNameOctets) := ⟨rfl, rfl, rfl, by decide +kernel, rfl, by decide +kernel, by decide +kernel⟩
theorem k_name_octets (T : Tx K mg) : C8.Cal P w K mg base 2 "name_octets" spName [] := by
  have k_number_octets : C8.Cal P w K mg base 1 "number_octets" spNumO [] := k_number_octets T
  refine calOf T.d_name_octets T.g_name_octets scNameOctets (fun _ F => F.binds fun _ _ _ _ _ _ us hl => match us, hl with | [_], _ => rfl) (fun vs H Q E h => ?_) (fun cdv A outer s H vs Q E hr h => ?_)
  · obtain ⟨a, p, c, rfl, _⟩ := h
    rfl
  · obtain ⟨a, p, c, rfl, ha, q⟩ := h
    refine ⟨_, (pss_one (ps_ret (pe_op op_cat (pe_lst (pa_cons (pe_ix ix_tup (pv 0) pe_int (fun _ _ => rfl)) pa_nil)) (C8.pe_c k_number_octets hr (by decide) rfl (pa_cons (pe_ix ix_tup (pv 0) pe_int (fun _ _ => rfl)) (pa_cons pe_int pa_nil)))))), ?_⟩
    refine ⟨_, rfl, a, _, _, _, rfl, rfl, sqT_of ha, atI_nat (j := 0) rfl, (show 1 ≤ sizeLine by decide), fun t ht => ?_⟩
    have ha1 : NmAt (upd H t (.lst [.int p])) a p c := Same.new ht a _ ha
    refine ⟨_, rfl, a, _, _, _, rfl, rfl, sqT_of ha1, atI_nat (j := 1) rfl, c, 4, rfl, by decide, fun l H1 hl s1 h1 => ?_⟩
    have htl : H1 t = some (.lst [.int p]) := s1 _ _ upd_same
    refine ⟨t, l, _, _, rfl, rfl, htl, h1, line_ge (by simp [numO_len]), fun r hr2 => ?_⟩
    have s2 : Same H H1 := (Same.new ht).trans s1
    exact q r _ (s2.free hr2) (s2.trans (Same.new hr2)) upd_same
theorem scWordOctets : FnScope ["word", "sign"] ["word"] (defScope sWordOctets) := ⟨rfl, rfl, rfl, by decide +kernel, rfl, by decide +kernel, by decide +kernel⟩
theorem k_word_octets (T : Tx K mg) : C8.Cal P w K mg base 1 "word_octets" spWord [] := by
  refine calOf T.d_word_octets T.g_word_octets scWordOctets (fun _ F => F.binds fun _ _ _ _ _ _ us hl => match us, hl with | [_], _ => rfl) (fun vs H Q E h => ?_) (fun cdv A outer s H vs Q E hr h => ?_)
  · obtain ⟨l, rfl, _⟩ := h
    rfl
  · obtain ⟨l, rfl, hl, hz, q⟩ := h
    refine ⟨_, (pss_one (ps_ret (pe_op op_cat (pe_lst (pa_cons (pe_callB call_len_str (by rfl) T.n_len (by decide +kernel) (pa_cons (pv 0) pa_nil)) pa_nil)) (by exact (pe_lcD (own := [("sign", 1)]) (g := gName 1) rfl scWordOctets.nd (pi_str (pv 0)) (blkOk_by (own := [("sign", 1)]) (N := ["word", "sign"]) (sc := defScope sWordOctets) (by decide +kernel)) (fun _ _ _ _ _ => (pg_name (i := 1) scWordOctets.nd rfl (Or.inl rfl))) (fun _ _ _ _ _ => pts_nil) (fun _ _ _ _ _ => (pe_op op_add (C8.pe_gc rfl T.i_CODE) (pe_bm PySem.F.plainAttrs_str PySem.F.slot_str_index PySem.F.type_str_index mt_sindex (C8.pe_gc rfl T.s_LETTERS) (pa_cons (pv 1) pa_nil))))))))), ?_⟩
    have hlen : (SX.S l).length = l.length := SX.S_len l
    refine ⟨_, rfl, _, rfl, by rw [hlen]; exact line_ge (by omega), (show 1 ≤ sizeLine by decide), fun t ht => ?_⟩
    refine ⟨_, rfl, _, rfl, fun D hD => ?_⟩
    refine lc_it walk_str (fun i H1 => ∃ H0, Same (upd H t (.lst [.int ((SX.S l).length : Int)])) H0 ∧ H0 D = none ∧ H1 = upd H0 D (.lst ((l.take i).map fun c : Nat => V.int (c : Int))))
      ⟨_, Same.refl _, hD, rfl⟩ (fun _ _ _ _ => trivial) ?_ ?_
    · rintro i x H1 H2 hi ⟨H0, s0, n0, rfl⟩ ⟨rfl, c, hc, rfl⟩
      have hc2 : l[i]? = some c := by
        have e : (SX.S l).cps[i]? = l[i]? := by simp [SX.S]
        rw [← e]
        exact hc
      have hb := hl c (List.mem_of_getElem? hc2)
      obtain ⟨rest, ho⟩ := letter_ix hb
      refine ⟨rfl, ?_⟩
      refine ⟨rfl, _, rfl, _, _, _, _, rfl, rfl, ho, _, _, rfl, rfl, _, upd_same, ?_, H0, s0, n0, ?_⟩
      · rw [List.length_map, List.length_take, sizeLine_eq]
        omega
      · rw [upd_upd, take_next hc2, List.map_append]
        have e : (97 : Int) + ((c - 97 : Nat) : Int) = (c : Int) := by omega
        show upd H0 D (.lst (_ ++ [V.int ((97 : Int) + ((c - 97 : Nat) : Int))])) = _
        rw [e]
        rfl
    · rintro H1 ⟨H0, s0, n0, rfl⟩
      have ez : (SX.S l).cps.size = l.length := hlen
      rw [ez, List.take_length]
      have ht0 : H0 t = some (.lst [.int ((SX.S l).length : Int)]) := s0 _ _ upd_same
      have s1 : Same (upd H t (.lst [.int ((SX.S l).length : Int)])) (upd H0 D (.lst (l.map fun c : Nat => V.int (c : Int)))) := s0.trans (Same.new n0)
      refine ⟨t, D, _, _, rfl, rfl, s1 _ _ upd_same, upd_same, line_ge (by simp; omega), fun r hr2 => ?_⟩
      have s2 := (Same.new ht).trans s1
      refine q r _ (s2.free hr2) (s2.trans (Same.new hr2)) ?_
      rw [upd_same, hlen]
      simp [wordO]
end
end Gt
set_option Elab.async false
set_option linter.all false
set_option maxRecDepth 100000
set_option maxHeartbeats 4000000
/-! Defs 3: writing messages. -/
namespace Gt
open PySem PySem.Spec PyProof.Rows L2
def msgB0 (s n : Int) (cs : List Ch) (i : Nat) : List Int := (cs.take i).foldl (fun o c => o ++ chO c) ([s] ++ numO 4 n ++ numO 2 (cs.length : Int))
theorem Paired.leng {α β : Type} {R : α → β → Prop} {l : List α} {m : List β} (h : Paired R l m) : l.length = m.length := by
  induction h with
  | nil => rfl
  | cons _ _ ih => rw [List.length_cons, List.length_cons, ih]
theorem msgB0_len (s n : Int) (cs : List Ch) (h : ∀ c ∈ cs, okC c) (i : Nat) : (msgB0 s n cs i).length ≤ 7 + 41 * cs.length := by
  have e : ∀ (l : List Ch), (∀ c ∈ l, okC c) → ∀ o : List Int, (l.foldl (fun o c => o ++ chO c) o).length ≤ o.length + 41 * l.length := by
    intro l
    induction l with
    | nil => intro _ o; simp
    | cons c l ih =>
      intro hl o
      rw [List.foldl_cons]
      have h1 := ih (fun c m => hl c (.tail _ m)) (o ++ chO c)
      have h2 := chO_len c (hl c (.head _))
      rw [List.length_append] at h1
      rw [List.length_cons]
      omega
  have h1 := e (cs.take i) (fun c m => h c (List.mem_of_mem_take m)) ([s] ++ numO 4 n ++ numO 2 (cs.length : Int))
  have h2 : ([s] ++ numO 4 n ++ numO 2 (cs.length : Int)).length = 7 := by simp [numO_len]
  have h3 : (cs.take i).length ≤ cs.length := List.length_take_le' _ _
  rw [msgB0]
  omega
section
variable {P : Program} {w : World} {K : PySem.W.Frag} {mg : Str → Option Value} {base : Heap}
theorem scWorthOctets : FnScope ["value"] ["value"] (defScope sWorthOctets) := ⟨rfl, rfl, rfl, by decide +kernel, rfl, by decide +kernel, by decide +kernel⟩
theorem k_worth_octets (T : Tx K mg) : C8.Cal P w K mg base 3 "worth_octets" spWorth [] := by
  have k_is_reference : C8.Cal P w K mg base 2 "is_reference" spIsRef [] := k_is_reference T
  have k_name_octets : C8.Cal P w K mg base 2 "name_octets" spName [] := k_name_octets T
  have k_word_octets : C8.Cal P w K mg base 1 "word_octets" spWord [] := k_word_octets T
  have k_number_octets : C8.Cal P w K mg base 1 "number_octets" spNumO [] := k_number_octets T
  refine calOf T.d_worth_octets T.g_worth_octets scWorthOctets (fun _ F => F.binds fun _ _ _ _ _ _ us hl => match us, hl with | [_], _ => rfl) (fun vs H Q E h => ?_) (fun cdv A outer s H vs Q E hr h => ?_)
  · obtain ⟨v, x, rfl, _⟩ := h
    rfl
  · obtain ⟨v, x, rfl, hv, hx, q⟩ := h
    refine ⟨_, (pss_cons (ps_if (pt_cmpR op_isN (pv 0) pe_non (nomark _)) (pss_one (ps_ret (pe_lst (pa_cons (C8.pe_gc rfl T.i_NOTHING) pa_nil)))) pss_nil)
      (pss_cons (ps_if (pt_val (C8.pe_c k_is_reference hr (by decide) rfl (pa_cons (pv 0) pa_nil))) (pss_one (ps_ret (pe_op op_cat (pe_lst (pa_cons (C8.pe_gc rfl T.i_REFERENCE) pa_nil)) (C8.pe_c k_name_octets hr (by decide) rfl (pa_cons (pe_ix ix_tup (pv 0) pe_int (fun _ _ => rfl)) pa_nil))))) pss_nil)
      (pss_cons (ps_if (pt_val (pe_callB call_isi (by rfl) T.n_isinstance (by decide +kernel) (pa_cons (pv 0) (pa_cons (pe_bltn (v := .ty "str") (by rfl) T.n_str (by decide +kernel) rfl) pa_nil)))) (pss_one (ps_ret (pe_op op_cat (pe_lst (pa_cons (C8.pe_gc rfl T.i_TEXT) pa_nil)) (C8.pe_c k_word_octets hr (by decide) rfl (pa_cons (pv 0) pa_nil))))) pss_nil)
      (pss_one (ps_ret (pe_op op_cat (pe_lst (pa_cons (C8.pe_gc rfl T.i_INTEGER) pa_nil)) (C8.pe_c k_number_octets hr (by decide) rfl (pa_cons (pe_op op_add (pv 0) (C8.pe_gc rfl T.i_INTEGER_MOST)) (pa_cons pe_int pa_nil))))))))), ?_⟩
    cases x with
    | non =>
      obtain rfl : v = .non := hv
      refine ⟨_, rfl, rfl, true, by rw [decide_eq_true rfl], iteT ?_⟩
      refine ⟨by decide, fun p hp => ?_⟩
      exact q p _ hp (Same.new hp) upd_same
    | rf p c =>
      have hv0 : WoAt H v (.rf p c) := hv
      obtain ⟨a, b, rfl, h1, h2⟩ := hv
      refine ⟨_, rfl, rfl, false, by rw [decide_eq_false (by intro e; cases e)], iteF ?_⟩
      refine ⟨_, rfl, _, .rf p c, rfl, hv0, true, rfl, iteT ?_⟩
      refine ⟨by decide, fun t ht => ?_⟩
      refine ⟨_, rfl, a, _, _, _, rfl, rfl, sqT_of (Same.new ht _ _ h1), atI_nat (j := 1) rfl, ?_⟩
      refine ⟨b, p, c, rfl, Same.new ht _ _ h2, fun l H1 hl s1 h3 => ?_⟩
      refine ⟨t, l, _, _, rfl, rfl, s1 _ _ upd_same, h3, line_ge (by simp [nmO, numO_len]), fun r hr2 => ?_⟩
      have s2 := (Same.new ht).trans s1
      exact q r _ (s2.free hr2) (s2.trans (Same.new hr2)) upd_same
    | txt l =>
      have hv0 : WoAt H v (.txt l) := hv
      obtain rfl : v = .str (SX.S l) := hv
      refine ⟨_, rfl, rfl, false, by rw [decide_eq_false (by intro e; cases e)], iteF ?_⟩
      refine ⟨_, rfl, _, .txt l, rfl, hv0, false, rfl, iteF ?_⟩
      refine ⟨_, rfl, _, _, _, _, _, rfl, .ty "str", .base (.str _), kit_ty (r := true) (by decide +kernel), true, rfl, iteT ?_⟩
      refine ⟨by decide, fun t ht => ?_⟩
      refine ⟨_, rfl, l, rfl, hx.1, by have := hx.2; omega, fun l1 H1 hl s1 h3 => ?_⟩
      refine ⟨t, l1, _, _, rfl, rfl, s1 _ _ upd_same, h3, line_ge (by have := hx.2; simp [wordO]; omega), fun r hr2 => ?_⟩
      have s2 := (Same.new ht).trans s1
      exact q r _ (s2.free hr2) (s2.trans (Same.new hr2)) upd_same
    | num i =>
      have hv0 : WoAt H v (.num i) := hv
      obtain rfl : v = .int i := hv
      refine ⟨_, rfl, rfl, false, by rw [decide_eq_false (by intro e; cases e)], iteF ?_⟩
      refine ⟨_, rfl, _, .num i, rfl, hv0, false, rfl, iteF ?_⟩
      refine ⟨_, rfl, _, _, _, _, _, rfl, .ty "str", .base (.int _), kit_ty (r := false) (by decide +kernel), false, rfl, iteF ?_⟩
      refine ⟨by decide, fun t ht => ?_⟩
      refine ⟨_, rfl, _, _, rfl, rfl, _, 3, rfl, by decide, fun l1 H1 hl s1 h3 => ?_⟩
      refine ⟨t, l1, _, _, rfl, rfl, s1 _ _ upd_same, h3, line_ge (by simp [numO_len]), fun r hr2 => ?_⟩
      have s2 := (Same.new ht).trans s1
      exact q r _ (s2.free hr2) (s2.trans (Same.new hr2)) upd_same
theorem scChangeOctets : FnScope ["change", "stamp", "name", "field", "value"] ["change"] (defScope sChangeOctets) := ⟨rfl, rfl, rfl, by decide +kernel, rfl, by decide +kernel, by decide +kernel⟩
theorem k_change_octets (T : Tx K mg) : C8.Cal P w K mg base 4 "change_octets" spChange [] := by
  have k_name_octets : C8.Cal P w K mg base 2 "name_octets" spName [] := k_name_octets T
  have k_word_octets : C8.Cal P w K mg base 1 "word_octets" spWord [] := k_word_octets T
  have k_worth_octets : C8.Cal P w K mg base 3 "worth_octets" spWorth [] := k_worth_octets T
  have k_number_octets : C8.Cal P w K mg base 1 "number_octets" spNumO [] := k_number_octets T
  refine calOf T.d_change_octets T.g_change_octets scChangeOctets (fun _ F => F.binds fun _ _ _ _ _ _ us hl => match us, hl with | [_], _ => rfl) (fun vs H Q E h => ?_) (fun cdv A outer s H vs Q E hr h => ?_)
  · obtain ⟨a, c, rfl, _⟩ := h
    rfl
  · obtain ⟨a, c, rfl, hc, ok, q⟩ := h
    refine ⟨_, (pss_cons (ps_asg (pv 0) (pg_tup rfl (pgs_cons (pg_name (i := 1) scChangeOctets.nd rfl (Or.inl rfl)) (pgs_cons (pg_name (i := 2) scChangeOctets.nd rfl (Or.inl rfl)) (pgs_cons (pg_name (i := 3) scChangeOctets.nd rfl (Or.inl rfl)) (pgs_cons (pg_name (i := 4) scChangeOctets.nd rfl (Or.inl rfl)) pgs_nil))))))
      (pss_one (ps_ret (pe_op op_cat (pe_op op_cat (pe_op op_cat (pe_op op_cat (C8.pe_c k_number_octets hr (by decide) rfl (pa_cons (pe_ix ix_tup (pv 1) pe_int (fun _ _ => rfl)) (pa_cons pe_int pa_nil))) (pe_lst (pa_cons (pe_ix ix_tup (pv 1) pe_int (fun _ _ => rfl)) pa_nil))) (C8.pe_c k_name_octets hr (by decide) rfl (pa_cons (pv 2) pa_nil))) (C8.pe_c k_word_octets hr (by decide) rfl (pa_cons (pv 3) pa_nil))) (C8.pe_c k_worth_octets hr (by decide) rfl (pa_cons (pv 4) pa_nil)))))), ?_⟩
    obtain ⟨sa, na, v, h1, h2, h3, h4⟩ := hc
    refine ⟨_, rfl, a, _, rfl, sqT_of h1, rfl, _, _, rfl, _, _, rfl, _, _, rfl, _, _, rfl, rfl, ?_⟩
    refine ⟨_, rfl, sa, _, _, _, rfl, rfl, sqT_of h2, atI_nat (j := 0) rfl, c.ck, 4, rfl, by decide, fun l1 H1 n1 s1 e1 => ?_⟩
    refine ⟨_, rfl, sa, _, _, _, rfl, rfl, sqT_of (s1 _ _ h2), atI_nat (j := 1) rfl, (show 1 ≤ sizeLine by decide), fun t1 m1 => ?_⟩
    have a2 := s1.trans (Same.new (o := .lst [V.int c.pr]) m1)
    refine ⟨l1, t1, _, _, rfl, rfl, Same.new m1 _ _ e1, upd_same, line_ge (by simp [numO_len]), fun r1 f1 => ?_⟩
    have a3 := a2.trans (Same.new (o := .lst ((numO 4 c.ck).map V.int ++ [V.int c.pr])) f1)
    refine ⟨_, rfl, na, _, _, rfl, a3 _ _ h3, fun l2 H2 n2 s2 e2 => ?_⟩
    have a4 := a3.trans s2
    refine ⟨r1, l2, _, _, rfl, rfl, s2 _ _ upd_same, e2, line_ge (by simp [numO_len, nmO]), fun r2 f2 => ?_⟩
    have a5 := a4.trans (Same.new (o := .lst ((numO 4 c.ck).map V.int ++ [V.int c.pr] ++ (nmO c.np c.nc).map V.int)) f2)
    have hfl := ok.fl
    refine ⟨_, rfl, c.fd, rfl, ok.fd, by omega, fun l3 H3 n3 s3 e3 => ?_⟩
    have a6 := a5.trans s3
    refine ⟨r2, l3, _, _, rfl, rfl, s3 _ _ upd_same, e3, line_ge (by simp [numO_len, nmO, wordO]; omega), fun r3 f3 => ?_⟩
    have a7 := a6.trans (Same.new (o := .lst ((numO 4 c.ck).map V.int ++ [V.int c.pr] ++ (nmO c.np c.nc).map V.int ++ (wordO c.fd).map V.int)) f3)
    refine ⟨_, rfl, v, c.wo, rfl, h4.mono (Same.tups a7), ok.wo, fun l4 H4 n4 s4 e4 => ?_⟩
    have a8 := a7.trans s4
    have hw := woO_len c.wo ok.wo
    refine ⟨r3, l4, _, _, rfl, rfl, s4 _ _ upd_same, e4, line_ge (by simp [numO_len, nmO, wordO]; omega), fun r4 f4 => ?_⟩
    refine q r4 _ (a8.free f4) (a8.trans (Same.new f4)) ?_
    rw [upd_same]
    simp [chO]
theorem scMessageOctets : FnScope ["sender", "number", "changes", "octets", "change"] ["sender", "number", "changes"] (defScope sMessageOctets) := ⟨rfl, rfl, rfl, by decide +kernel, rfl, by decide +kernel, by decide +kernel⟩
theorem k_message_octets (T : Tx K mg) : C8.Cal P w K mg base 5 "message_octets" spMsg [] := by
  have k_change_octets : C8.Cal P w K mg base 4 "change_octets" spChange [] := k_change_octets T
  have k_number_octets : C8.Cal P w K mg base 1 "number_octets" spNumO [] := k_number_octets T
  have k_check_of : C8.Cal P w K mg base 1 "check_of" spCk [] := k_check_of T
  refine calOf T.d_message_octets T.g_message_octets scMessageOctets (fun _ F => F.binds fun _ _ _ _ _ _ us hl => match us, hl with | [_, _, _], _ => rfl) (fun vs H Q E h => ?_) (fun cdv A outer s H vs Q E hr h => ?_)
  · obtain ⟨s, n, l, as, cs, rfl, _⟩ := h
    rfl
  · obtain ⟨sd, n, l, as, cs, rfl, hl, hcs, ok, hz, q⟩ := h
    refine ⟨_, (pss_cons (ps_set (i := 3) scMessageOctets.nd rfl (Or.inl rfl) (pe_op op_cat (pe_op op_cat (pe_lst (pa_cons (pv 0) pa_nil)) (C8.pe_c k_number_octets hr (by decide) rfl (pa_cons (pv 1) (pa_cons pe_int pa_nil)))) (C8.pe_c k_number_octets hr (by decide) rfl (pa_cons (pe_callB call_len_seq (by rfl) T.n_len (by decide +kernel) (pa_cons (pv 2) pa_nil)) (pa_cons pe_int pa_nil)))))
      (pss_cons (ps_for PassesOwn.never rfl (pi_list (pv 2)) (pg_name (i := 4) scMessageOctets.nd rfl (Or.inl rfl))
      (pss_one (ps_set (i := 3) scMessageOctets.nd rfl (Or.inl rfl) (pe_op op_cat (pv 3) (C8.pe_c k_change_octets hr (by decide) rfl (pa_cons (pv 4) pa_nil))))))
      (pss_one (ps_ret (pe_op op_cat (pv 3) (C8.pe_c k_check_of hr (by decide) rfl (pa_cons (pv 3) pa_nil))))))), ?_⟩
    have hla : as.length = cs.length := Paired.leng hcs
    refine ⟨_, rfl, (show 1 ≤ sizeLine by decide), fun t1 m1 => ?_⟩
    have a1 := Same.new (o := .lst [V.int sd]) m1
    refine ⟨_, rfl, n, 4, rfl, by decide, fun l1 H1 n1 s1 e1 => ?_⟩
    have a2 := a1.trans s1
    refine ⟨t1, l1, _, _, rfl, rfl, s1 _ _ upd_same, e1, line_ge (by simp [numO_len]), fun r1 f1 => ?_⟩
    have a3 := a2.trans (Same.new (o := .lst ([V.int sd] ++ (numO 4 n).map V.int)) f1)
    refine ⟨_, rfl, l, _, rfl, .inl (SqL.of (a3 _ _ hl)), _, 2, rfl, by decide, fun l2 H2 n2 s2 e2 => ?_⟩
    have a4 := a3.trans s2
    refine ⟨r1, l2, _, _, rfl, rfl, s2 _ _ upd_same, e2, line_ge (by simp [numO_len]), fun r2 f2 => ?_⟩
    have a5 := a4.trans (Same.new (o := .lst ([V.int sd] ++ (numO 4 n).map V.int ++ (numO 2 ((as.map V.ref).length : Int)).map V.int)) f2)
    refine ⟨_, rfl, l, rfl, ⟨_, SqL.of (a5 _ _ hl)⟩, for_list (K := K) (a := l) (xs := as.map V.ref) (fun i σ H1 => ∃ r v, σ = [some (.int sd), some (.int n), some (.ref l), some (.ref r), v] ∧ Same H H1 ∧ H r = none ∧ H1 r = some (.lst ((msgB0 sd n cs i).map V.int)))
      ⟨r2, none, by simp [L2.start], a5, a4.free f2, ?_⟩ (fun i σ H1 _ h => ?_) ?_ ?_⟩
    · rw [upd_same, List.length_map, hla]
      simp [msgB0]
    · obtain ⟨_, _, _, e, _⟩ := h
      exact SqL.of (e _ _ hl)
    · rintro i y σ H1 hi ⟨r, v, rfl, s3, hr0, hr1⟩
      rw [List.getElem?_map] at hi
      cases e : as[i]? with
      | none =>
        rw [e] at hi
        cases hi
      | some z =>
        rw [e] at hi
        obtain rfl : V.ref z = y := Option.some.inj hi
        obtain ⟨c, hc1, hc2⟩ := paired_get' hcs i z e
        have hi2 : i < cs.length := (List.getElem?_eq_some_iff.mp hc1).1
        have et : cs.take (i + 1) = cs.take i ++ [c] := take_next hc1
        have hlen := msgB0_len sd n cs ok i
        have hco := ok c (List.mem_of_getElem? hc1)
        have hcl := chO_len c hco
        refine ⟨_, rfl, _, rfl, z, c, rfl, hc2.mono (Same.tups s3), hco, fun l3 H3 n3 s4 e4 => ?_⟩
        refine ⟨r, l3, _, _, rfl, rfl, s4 _ _ hr1, e4, line_ge (by simp; omega), fun r4 f4 => ?_⟩
        have a6 := s3.trans s4
        refine ⟨r4, _, rfl, a6.trans (Same.new f4), a6.free f4, ?_⟩
        rw [upd_same, msgB0, msgB0, et, List.foldl_append, ← List.map_append]
        rfl
    · rintro σ H1 ⟨r, v, rfl, s3, hr0, hr1⟩
      have hlen := msgB0_len sd n cs ok cs.length
      have e0 : msgB0 sd n cs (as.map V.ref).length = msgB sd n cs := by
        rw [List.length_map, hla, msgB0, List.take_length]
        rfl
      have e1 : msgB0 sd n cs cs.length = msgB sd n cs := by
        rw [msgB0, List.take_length]
        rfl
      rw [e0] at hr1
      rw [e1] at hlen
      refine ⟨_, rfl, _, rfl, r, _, rfl, hr1, fun l3 H3 n3 s4 e4 => ?_⟩
      refine ⟨r, l3, _, _, rfl, rfl, s4 _ _ hr1, e4, line_ge (by simp [ckO]; omega), fun r4 f4 => ?_⟩
      have a6 := s3.trans s4
      refine q r4 _ (a6.free f4) (a6.trans (Same.new f4)) ?_
      rw [upd_same, ← List.map_append]
      rfl
end
end Gt
set_option Elab.async false
set_option linter.all false
set_option maxRecDepth 100000
set_option maxHeartbeats 4000000
/-! Reader 1: octets, numbers, letters. -/
namespace Gt
open PySem PySem.Spec PyProof.Rows L2
/-- the reader at x, its octets o at oa, before place p -/
def RdX (K : PySem.W.Frag) (H : Hp) (x oa : Addr) (o : List Int) (p : Nat) : Prop :=
  (∃ dx, H x = some (.ins (He.ga K "Message") dx [("octets", .ref oa), ("place", .int (p : Int)), ("known", .int 0)])) ∧ H oa = some (.lst (o.map V.int))
theorem RdX.ne {K : PySem.W.Frag} {H : Hp} {x oa : Addr} {o : List Int} {p : Nat} (h : RdX K H x oa o p) : oa ≠ x := by
  rintro rfl
  obtain ⟨⟨dx, a⟩, b⟩ := h
  rw [a] at b
  cases b
theorem RdX.same {K : PySem.W.Frag} {H H' : Hp} {x oa : Addr} {o : List Int} {p : Nat} (h : RdX K H x oa o p) (s : Same H H') : RdX K H' x oa o p := by
  obtain ⟨⟨dx, a⟩, b⟩ := h
  exact ⟨⟨dx, s _ _ a⟩, s _ _ b⟩
theorem RdX.tups {K : PySem.W.Frag} {H H' : Hp} {x oa : Addr} {o : List Int} {p : Nat} (h : RdX K H x oa o p) (k : Kp [x] H H') : Tups H H' := by
  obtain ⟨⟨dx, a⟩, b⟩ := h
  refine k.tups fun c hc o e => ?_
  rw [List.mem_singleton.mp hc, a] at e
  cases e
  rfl
theorem RdX.free {K : PySem.W.Frag} {H H' : Hp} {x oa : Addr} {o : List Int} {p : Nat} (h : RdX K H' x oa o p) (k : Kp [x] H H') {b : Addr} (n : H' b = none) : H b = none := by
  refine k.free n fun m => ?_
  rw [List.mem_singleton.mp m] at n
  obtain ⟨⟨dx, a⟩, _⟩ := h
  rw [a] at n
  cases n
/-- the octets o hold xs from place p on -/
def Bf (o : List Int) (p : Nat) (xs : List Int) : Prop := ∀ i (h : i < xs.length), o[p + i]? = some xs[i]
theorem Bf.left {o : List Int} {p : Nat} {xs ys : List Int} (h : Bf o p (xs ++ ys)) : Bf o p xs := fun i hi => by
  rw [h i (by rw [List.length_append]; omega), List.getElem_append_left hi]
theorem Bf.right {o : List Int} {p : Nat} {xs ys : List Int} (h : Bf o p (xs ++ ys)) : Bf o (p + xs.length) ys := fun i hi => by
  have := h (xs.length + i) (by rw [List.length_append]; omega)
  rw [show p + xs.length + i = p + (xs.length + i) by omega, this]
  simp
theorem Bf.head {o : List Int} {p : Nat} {x : Int} {xs : List Int} (h : Bf o p (x :: xs)) : o[p]? = some x := h 0 (by simp)
theorem Bf.tail {o : List Int} {p : Nat} {x : Int} {xs : List Int} (h : Bf o p (x :: xs)) : Bf o (p + 1) xs := Bf.right (xs := [x]) h
theorem Bf.whole (o r : List Int) : Bf (o ++ r) 0 o := fun i hi => by
  rw [Nat.zero_add, List.getElem?_append_left hi, List.getElem?_eq_getElem hi]
theorem numO_get : ∀ (k : Nat) (n : Int) (i : Nat) (h : i < (numO k n).length), (numO k n)[i] = n / 256 ^ (k - 1 - i) % 256
  | 0, _, i, h => by simp [numO] at h
  | k + 1, n, 0, h => by simp [numO]
  | k + 1, n, i + 1, h => by
    have := numO_get k n i (by simpa [numO] using h)
    simp only [numO, List.getElem_cons_succ]
    rw [this, show k + 1 - 1 - (i + 1) = k - 1 - i by omega]
/-- what a read of the reader yields: only its place has changed -/
def rRd (K : PySem.W.Frag) (H : Hp) (Q : VK) (x oa : Addr) (o : List Int) (p : Nat) (v : V) : Prop := ∀ H', Kp [x] H H' → RdX K H' x oa o p → Q v H'
def spOctet (K : PySem.W.Frag) : Sp := fun vs H Q _ => ∃ (x oa : Addr) (o : List Int) (p : Nat) (lo hi v : Int), vs = [.ref x, .int lo, .int hi] ∧ RdX K H x oa o p ∧ o[p]? = some v ∧ lo ≤ v ∧ v ≤ hi ∧ rRd K H Q x oa o (p + 1) (.int v)
def spNumber (K : PySem.W.Frag) : Sp := fun vs H Q _ => ∃ (x oa : Addr) (o : List Int) (p m : Nat) (n most : Int), vs = [.ref x, .int (m : Int), .int most] ∧ RdX K H x oa o p ∧ (m = 2 ∨ m = 3 ∨ m = 4) ∧ Bf o p (numO m n) ∧ 0 ≤ n ∧ n ≤ most ∧ n < 256 ^ m ∧ rRd K H Q x oa o (p + m) (.int n)
def spLetters (K : PySem.W.Frag) : Sp := fun vs H Q _ => ∃ (x oa : Addr) (o : List Int) (p : Nat) (l : List Nat), vs = [.ref x, .int (l.length : Int), .str ""] ∧ RdX K H x oa o p ∧ l.length ≤ 20 ∧ okL l ∧ Bf o p (l.map fun c : Nat => (c : Int)) ∧ rRd K H Q x oa o (p + l.length) (.str (SX.S l))
theorem bT {p : Prop} [Decidable p] (h : p) : V.bl (decide p) = V.bl true := by rw [decide_eq_true h]
theorem bF {p : Prop} [Decidable p] (h : ¬ p) : V.bl (decide p) = V.bl false := by rw [decide_eq_false h]
def lettersC : List Nat := ("abcdefghijklmnopqrstuvwxyz" : Str).cps.toList
theorem str_len_cat (a b : Str) : (a ++ b).length = a.length + b.length := Array.size_append ..
theorem str_some (a : Str) (c : Nat) (t : Str) : ("" : Str).cps.toList < (a ++ ⟨#[c]⟩ ++ t).cps.toList := by
  have e : (a ++ ⟨#[c]⟩ ++ t).cps.toList = a.cps.toList ++ ([c] ++ t.cps.toList) := by
    show (a.cps ++ #[c] ++ t.cps).toList = _
    simp
  have e0 : ("" : Str).cps.toList = [] := by decide +kernel
  rw [e, e0]
  cases a.cps.toList <;> exact List.nil_lt_cons ..
theorem lettersAt : (List.range 26).all (fun i => lettersC[i]? == some (97 + i)) = true := by decide +kernel
theorem letter_at {c : Nat} (h : 97 ≤ c ∧ c ≤ 122) : atI ("abcdefghijklmnopqrstuvwxyz" : Str).cps.toList ((c : Int) - 97) = some c := by
  have q := List.all_eq_true.mp lettersAt (c - 97) (List.mem_range.mpr (by omega))
  rw [show 97 + (c - 97) = c by omega] at q
  rw [show (c : Int) - 97 = ((c - 97 : Nat) : Int) by omega]
  exact atI_nat (eq_of_beq q)
theorem rSlA_go {K : PySem.W.Frag} {a : Addr} {xs : List V} {lo hi : Option Int} {H : Hp} {Q : VK} (h : ∀ H, SqT K H a xs) (w : HT.sIx xs.length 0 lo = 0 ∧ HT.sIx xs.length xs.length hi = xs.length → cutV xs lo hi = xs)
    (q : ∀ b H1, Same H H1 → (∀ H', Tups H1 H' → SqT K H' b (cutV xs lo hi)) → Q (.ref b) H1) : rSlA K (.ref a) lo hi H Q := by
  refine ⟨a, xs, rfl, h H, fun e => q a H (Same.refl _) fun H' _ => by rw [w e]; exact h H', fun e p hp => q p _ (Same.new hp) fun H' t => sqT_of (t _ _ upd_same)⟩
theorem rSlA_goN {σ : L2.St} {K : PySem.W.Frag} {a : Addr} {xs : List V} {lo : Option Int} {H : Hp} {Q : VK} (h : ∀ H, SqT K H a xs) (w : HT.sIx xs.length 0 lo = 0 ∧ HT.sIx xs.length xs.length none = xs.length → cutV xs lo none = xs)
    (q : ∀ b H1, Same H H1 → (∀ H', Tups H1 H' → SqT K H' b (cutV xs lo none)) → Q (.ref b) H1) : tNoPart σ H (fun u H3 => rSlA K (.ref a) lo u H3 Q) := rSlA_go h w q
theorem unit_at {m i : Nat} {y : V} (hm : m = 2 ∨ m = 3 ∨ m = 4) (h : (cutV [.int 16777216, .int 65536, .int 256, .int 1] (some ((4 : Int) - (m : Int))) none)[i]? = some y) : i < m ∧ y = .int (256 ^ (m - 1 - i)) := by
  rcases hm with rfl | rfl | rfl
  · match i, h with
    | 0, h => exact ⟨by decide, (Option.some.inj h).symm⟩
    | 1, h => exact ⟨by decide, (Option.some.inj h).symm⟩
    | i + 2, h => cases h
  · match i, h with
    | 0, h => exact ⟨by decide, (Option.some.inj h).symm⟩
    | 1, h => exact ⟨by decide, (Option.some.inj h).symm⟩
    | 2, h => exact ⟨by decide, (Option.some.inj h).symm⟩
    | i + 3, h => cases h
  · match i, h with
    | 0, h => exact ⟨by decide, (Option.some.inj h).symm⟩
    | 1, h => exact ⟨by decide, (Option.some.inj h).symm⟩
    | 2, h => exact ⟨by decide, (Option.some.inj h).symm⟩
    | 3, h => exact ⟨by decide, (Option.some.inj h).symm⟩
    | i + 4, h => cases h
theorem unit_len {m : Nat} (hm : m = 2 ∨ m = 3 ∨ m = 4) : (cutV [.int 16777216, .int 65536, .int 256, .int 1] (some ((4 : Int) - (m : Int))) none).length = m := by
  rcases hm with rfl | rfl | rfl <;> rfl
/-- a further digit -/
theorem digit_step (n : Int) (j : Nat) : n / 256 ^ (j + 1) * 256 ^ (j + 1) + 256 ^ j * (n / 256 ^ j % 256) = n / 256 ^ j * 256 ^ j := by
  have e := div_step n j
  have h := Int.emod_add_mul_ediv (n / 256 ^ j) 256
  rw [← e, Int.pow_succ]
  generalize n / 256 ^ j = q at *
  generalize (256 : Int) ^ j = u at *
  have : q / 256 * (u * 256) + u * (q % 256) = (q % 256 + 256 * (q / 256)) * u := by
    rw [Int.add_mul, Int.mul_comm u (q % 256), Int.add_comm, Int.mul_comm u 256, ← Int.mul_assoc, Int.mul_comm (q / 256) 256]
  rw [this, h]
theorem digit_most {n most : Int} (j : Nat) (h : n ≤ most) (h0 : 0 ≤ n) : n / 256 ^ j % 256 ≤ (if (most - n / 256 ^ (j + 1) * 256 ^ (j + 1)).fdiv (256 ^ j) < 255 then (most - n / 256 ^ (j + 1) * 256 ^ (j + 1)).fdiv (256 ^ j) else 255) := by
  have hu : (0 : Int) < 256 ^ j := Int.pow_pos (by decide)
  have h1 : n / 256 ^ j % 256 < 256 := Int.emod_lt_of_pos _ (by decide)
  have h2 : n / 256 ^ j * 256 ^ j ≤ n := Int.ediv_mul_le _ (by omega)
  have h3 := digit_step n j
  rw [Int.fdiv_eq_ediv_of_nonneg _ (by omega)]
  have h4 : n / 256 ^ j % 256 ≤ (most - n / 256 ^ (j + 1) * 256 ^ (j + 1)) / 256 ^ j := by
    rw [Int.le_ediv_iff_mul_le hu, Int.mul_comm]
    omega
  split <;> omega
section
variable {P : Program} {w : World} {K : PySem.W.Frag} {mg : Str → Option Value} {base : Heap}
theorem scMessageOctet : FnScope ["self", "least", "most"] ["self", "least", "most"] (defScope sMessageOctet) := ⟨rfl, rfl, rfl, by decide +kernel, rfl, by decide +kernel, by decide +kernel⟩
theorem k_Message_octet (T : Tx K mg) : C8.Met P w K mg base 1 (He.ga K "Message") "octet" (spOctet K) [] := by
  refine metOf T.c_Message T.e_Message_octet T.d_Message_octet scMessageOctet (fun _ F => F.binds fun _ _ _ _ _ _ us hl => match us, hl with | [_, _, _], _ => rfl) (fun vs H Q E h => ?_) (fun cdv A outer s H vs Q E hr h => ?_)
  · obtain ⟨x, oa, o, p, lo, hi, v, rfl, _⟩ := h
    rfl
  · obtain ⟨x, oa, o, p, lo, hi, v, rfl, hx, hv, h1, h2, q⟩ := h
    have hne := hx.ne
    obtain ⟨⟨dx, hx⟩, ho⟩ := hx
    refine ⟨_, (pss_cons (ps_if (PW.pt (pw_or (pt_cmpR op_eq (pe_fld (pv 0) rfl) (pe_callB call_len_seq (by rfl) T.n_len (by decide +kernel) (pa_cons (pe_fld (pv 0) rfl) pa_nil)) (nomark _)) (pw_or1 (pt_not (pt_chain op_le op_le (pv 1) (pe_ix ix_list (pe_fld (pv 0) rfl) (pe_fld (pv 0) rfl) (fun _ _ => rfl)) (pv 2)))))) (pss_one ps_never) pss_nil)
      (pss_cons (ps_fldaug (pv 0) pe_int in_add)
      (pss_one (ps_ret (pe_ix ix_list (pe_fld (pv 0) rfl) (pe_op op_sub (pe_fld (pv 0) rfl) pe_int) (fun _ _ => rfl)))))), ?_⟩
    have hp : p < o.length := (List.getElem?_eq_some_iff.mp hv).1
    have hv2 : (o.map V.int)[p]? = some (V.int v) := by rw [List.getElem?_map, hv]; rfl
    refine ⟨_, rfl, x, _, dx, _, _, rfl, hx, T.c_Message, T.a_Message_place, rfl, _, rfl, x, _, dx, _, _, rfl, hx, T.c_Message, T.a_Message_octets, rfl, oa, _, rfl, .inl (SqL.of ho), rfl, false, bF (by rw [List.length_map]; intro e; have e := V.int.inj e; omega), iteF ?_⟩
    refine ⟨_, rfl, _, rfl, x, _, dx, _, _, rfl, hx, T.c_Message, T.a_Message_octets, rfl, _, rfl, x, _, dx, _, _, rfl, hx, T.c_Message, T.a_Message_place, rfl, oa, _, _, _, rfl, rfl, SqL.of ho, atI_nat hv2, ?_⟩
    refine ⟨_, _, rfl, rfl, true, bT h1, iteT ⟨_, rfl, _, _, rfl, rfl, true, bT h2, iteF ?_⟩⟩
    refine ⟨_, rfl, x, _, dx, _, _, rfl, hx, T.c_Message, T.a_Message_place, rfl, _, _, rfl, rfl, dx, _, hx, (show 3 < 1000 by decide), ?_⟩
    refine ⟨_, rfl, x, _, dx, _, _, rfl, upd_same, T.c_Message, T.a_Message_octets, rfl, _, rfl, x, _, dx, _, _, rfl, upd_same, T.c_Message, T.a_Message_place, rfl, _, _, rfl, rfl, oa, _, _, _, rfl, rfl, SqL.of (by rw [upd_ne hne]; exact ho), (show atI _ ((p : Int) + 1 - 1) = _ by rw [Int.add_sub_cancel]; exact atI_nat hv2), ?_⟩
    exact q _ (Kp.put (.head _)) ⟨⟨dx, upd_same⟩, by rw [upd_ne hne]; exact ho⟩
theorem scMessageNumber : FnScope ["self", "many", "most", "found", "unit"] ["self", "many", "most"] (defScope sMessageNumber) := ⟨rfl, rfl, rfl, by decide +kernel, rfl, by decide +kernel, by decide +kernel⟩
theorem k_Message_number (T : Tx K mg) : C8.Met P w K mg base 2 (He.ga K "Message") "number" (spNumber K) [] := by
  have k_Message_octet : C8.Met P w K mg base 1 (He.ga K "Message") "octet" (spOctet K) [] := k_Message_octet T
  refine metOf T.c_Message T.e_Message_number T.d_Message_number scMessageNumber (fun _ F => F.binds fun _ _ _ _ _ _ us hl => match us, hl with | [_, _, _], _ => rfl) (fun vs H Q E h => ?_) (fun cdv A outer s H vs Q E hr h => ?_)
  · obtain ⟨x, oa, o, p, m, n, most, rfl, _⟩ := h
    rfl
  · obtain ⟨x, oa, o, p, m, n, most, rfl, hx, hm, hb, h0, h1, h2, q⟩ := h
    refine ⟨_, (pss_cons (ps_set (i := 3) scMessageNumber.nd rfl (Or.inl rfl) pe_int)
      (pss_cons (ps_for PassesOwn.never rfl (pi_tup (pe_slice sl_tupA (pe_glob (v := .ref (He.ga K "UNITS")) rfl T.g_UNITS rfl) (po_some (pe_op op_sub (pe_callB call_len_seq (by rfl) T.n_len (by decide +kernel) (pa_cons (pe_glob (v := .ref (He.ga K "UNITS")) rfl T.g_UNITS rfl) pa_nil)) (pv 1))) po_none)) (pg_name (i := 4) scMessageNumber.nd rfl (Or.inl rfl))
      (pss_one (ps_aug (i := 3) scMessageNumber.nd rfl (Or.inl rfl) (pe_op op_mul (pv 4) (C8.pe_mt k_Message_octet hr (by decide) (pv 0) (pa_cons pe_int (pa_cons (pe_callB (call_min2 rfl) (by rfl) T.n_min (by decide +kernel) (pa_cons pe_int (pa_cons (pe_op op_fdivN (pe_op op_sub (pv 2) (pv 3)) (pv 4)) pa_nil))) pa_nil)))) ip_add)))
      (pss_one (ps_ret (pv 3))))), ?_⟩
    have hms : m ≤ 4 := by omega
    refine ⟨_, _, rfl, .inr (T.units H), _, rfl, _, _, rfl, rfl, _, rfl, ?_⟩
    refine rSlA_goN (K := K) (xs := [.int 16777216, .int 65536, .int 256, .int 1]) (lo := some ((4 : Int) - (m : Int))) T.units (fun e => ?_) fun b H1 s1 hb1 => ?_
    · rcases hm with rfl | rfl | rfl
      · exact absurd e.1 (by decide)
      · exact absurd e.1 (by decide)
      · rfl
    have hx1 := hx.same s1
    refine ⟨b, rfl, ⟨_, hb1 _ (fun _ _ e => e)⟩, for_tup (K := K) (a := b) (xs := cutV [.int 16777216, .int 65536, .int 256, .int 1] (some ((4 : Int) - (m : Int))) none)
      (fun i σ H2 => ∃ v, σ = [some (.ref x), some (.int (m : Int)), some (.int most), some (.int (n / 256 ^ (m - i) * 256 ^ (m - i))), v] ∧ Kp [x] H1 H2 ∧ RdX K H2 x oa o (p + i))
      ⟨none, ?_, .refl _ _, hx1⟩ (fun i σ H2 _ h => ?_) ?_ ?_⟩
    · have e : n / 256 ^ m = 0 := Int.ediv_eq_zero_of_lt h0 h2
      rw [Nat.sub_zero, e, Int.zero_mul]
      rfl
    · obtain ⟨_, _, k, _⟩ := h
      exact hb1 _ (hx1.tups k)
    · rintro i y σ H2 hi ⟨v, rfl, k, hx2⟩
      obtain ⟨him, rfl⟩ := unit_at hm hi
      have hni : (numO m n).length = m := numO_len m n
      have hd : o[p + i]? = some (n / 256 ^ (m - 1 - i) % 256) := by rw [hb i (by omega), numO_get]
      have ej : m - i = m - 1 - i + 1 := by omega
      have hpw : (256 : Int) ^ (m - 1 - i) ≤ 256 ^ 3 := by
        have : m - 1 - i ≤ 3 := by omega
        rcases (by omega : m - 1 - i = 0 ∨ m - 1 - i = 1 ∨ m - 1 - i = 2 ∨ m - 1 - i = 3) with e | e | e | e <;> rw [e] <;> decide
      have hp0 : (0 : Int) < 256 ^ (m - 1 - i) := Int.pow_pos (by decide)
      have h3 : (256 : Int) ^ 3 = 16777216 := by decide
      obtain ⟨⟨dx, hx3⟩, ho⟩ := hx2
      refine ⟨_, rfl, _, rfl, _, rfl, x, dx, _, rfl, hx3, rfl, ?_⟩
      refine ⟨_, rfl, _, rfl, _, _, rfl, rfl, _, rfl, _, _, rfl, rfl, ⟨by omega, by omega⟩, _, _, rfl, ?_⟩
      refine ⟨x, oa, o, p + i, 0, _, n / 256 ^ (m - 1 - i) % 256, rfl, ⟨⟨dx, hx3⟩, ho⟩, hd, Int.emod_nonneg _ (by decide), ?_, fun H3 k3 hx4 => ?_⟩
      · rw [ej]
        exact digit_most _ h1 h0
      refine ⟨_, _, rfl, rfl, .inl ⟨by omega, by omega⟩, ?_⟩
      refine ⟨_, _, rfl, rfl, ?_⟩
      refine ⟨some (.int (256 ^ (m - 1 - i))), ?_, k.trans k3, hx4⟩
      rw [ej, show m - (i + 1) = m - 1 - i by omega, ← digit_step n (m - 1 - i)]
      rfl
    · rintro σ H2 ⟨v, rfl, k, hx2⟩
      rw [unit_len hm] at *
      refine ⟨_, rfl, ?_⟩
      rw [Nat.sub_self, Int.pow_zero, Int.ediv_one, Int.mul_one]
      exact q _ ((Kp.of s1).trans k) hx2
theorem scMessageLetters : FnScope ["self", "many", "before", "word", "left", "least", "sign", "code"] ["self", "many", "before"] (defScope sMessageLetters) := ⟨rfl, rfl, rfl, by decide +kernel, rfl, by decide +kernel, by decide +kernel⟩
theorem k_Message_letters (T : Tx K mg) : C8.Met P w K mg base 2 (He.ga K "Message") "letters" (spLetters K) [] := by
  have k_Message_octet : C8.Met P w K mg base 1 (He.ga K "Message") "octet" (spOctet K) [] := k_Message_octet T
  refine metOf T.c_Message T.e_Message_letters T.d_Message_letters scMessageLetters (fun _ F => F.binds fun _ _ _ _ _ _ us hl => match us, hl with | [_, _, _], _ => rfl) (fun vs H Q E h => ?_) (fun cdv A outer s H vs Q E hr h => ?_)
  · obtain ⟨x, oa, o, p, l, rfl, _⟩ := h
    rfl
  · obtain ⟨x, oa, o, p, l, rfl, hx, hz, hl, hb, q⟩ := h
    refine ⟨_, (pss_cons (ps_set (i := 3) scMessageLetters.nd rfl (Or.inr rfl) pe_str)
      (pss_cons (ps_for PassesOwn.never rfl (pi_range3 (by rfl) T.n_range (pa_cons (pe_op op_sub (pv 1) pe_int) (pa_cons (pe_un un_neg pe_int) (pa_cons (pe_un un_neg pe_int) pa_nil)))) (pg_name (i := 4) scMessageLetters.nd rfl (Or.inr rfl))
      (pss_cons (by exact (ps_setLcD (i := 5) (own := [("sign", 6)]) (g := gName 6) rfl scMessageLetters.nd rfl rfl (sw_true rfl rfl rfl (by decide +kernel)) (pi_str (C8.pe_gc rfl T.s_LETTERS)) (blkOk_by (own := [("sign", 6)]) (N := ["self", "many", "before", "word", "left", "least", "sign", "code"]) (sc := defScope sMessageLetters) (by decide +kernel)) (fun _ _ _ _ _ => (pg_name (i := 6) scMessageLetters.nd rfl (Or.inl rfl))) (fun _ _ _ _ _ => (pts_one (pt_cmpR op_gt_str (pe_op op_add_str (pe_op op_add_str (pv 3) (pv 6)) (pe_op op_mulS pe_str (pv 4))) (pv 2) (nomark _)))) (fun _ _ _ _ _ => (pv 6))))
      (pss_cons (ps_if (pt_not (pt_truth (pv 5) (by intro _; rfl))) (pss_one ps_never) pss_nil)
      (pss_cons (ps_set (i := 7) scMessageLetters.nd rfl (Or.inl rfl) (C8.pe_mt k_Message_octet hr (by decide) (pv 0) (pa_cons (pe_op op_add (C8.pe_gc rfl T.i_CODE) (pe_bm PySem.F.plainAttrs_str PySem.F.slot_str_index PySem.F.type_str_index mt_sindex (C8.pe_gc rfl T.s_LETTERS) (pa_cons (pe_ix ix_list (pv 5) pe_int (fun _ _ => rfl)) pa_nil))) (pa_cons (pe_op op_add (C8.pe_gc rfl T.i_CODE) pe_int) pa_nil))))
      (pss_one (ps_aug (i := 3) scMessageLetters.nd rfl (Or.inr rfl) (pe_ix ix_str (C8.pe_gc rfl T.s_LETTERS) (pe_op op_sub (pv 7) (C8.pe_gc rfl T.i_CODE)) (fun _ _ => rfl)) iop_add_str))))))
      (pss_one (ps_ret (pv 3))))), ?_⟩
    have hrg : RgC ((l.length : Int) - 1) (-1) (-1) l.length := by
      have h := RgC.neg (i := (l.length : Int) - 1) (j := -1) (by omega) (by omega) (by decide) (by decide)
      rwa [show ((l.length : Int) - 1 - -1).toNat = l.length by omega] at h
    refine ⟨_, rfl, _, _, rfl, rfl, _, rfl, _, rfl, _, _, _, l.length, rfl, hrg, for_rangeC
      (fun i σ H1 => ∃ v4 v5 v6 v7, σ = [some (.ref x), some (.int (l.length : Int)), some (.str ""), some (.str (SX.S (l.take i))), v4, v5, v6, v7] ∧ Kp [x] H H1 ∧ RdX K H1 x oa o (p + i))
      ⟨none, none, none, none, rfl, .refl _ _, hx⟩ ?_ ?_⟩
    · rintro i σ H1 hi ⟨v4, v5, v6, v7, rfl, k, hx2⟩
      have hc1 : l[i]? = some l[i] := List.getElem?_eq_getElem hi
      have hc := hl l[i] (List.getElem_mem hi)
      have hd : o[p + i]? = some ((l[i] : Nat) : Int) := by
        have := hb i (by simpa using hi)
        rw [this, List.getElem_map]
      have hwl : (SX.S (l.take i)).length = i := by
        rw [SX.S_len, List.length_take]
        omega
      refine ⟨_, rfl, fun D hD => lc_it walk_str (fun j H2 => H2 = upd H1 D (.lst ((lettersC.take j).map fun c => V.str ⟨#[c]⟩))) rfl (fun _ _ _ _ => trivial) ?_ ?_⟩
      · rintro j y H2 H3 hj rfl ⟨rfl, c, hcj, rfl⟩
        have hcl : lettersC[j]? = some c := by
          rw [← hcj]
          exact Array.getElem?_toList ..
        have hj2 : j < 26 := hj
        refine ⟨rfl, ?_⟩
        refine ⟨_, rfl, _, rfl, _, _, rfl, rfl, line_ge (by rw [hwl]; show i + 1 ≤ _; omega), ?_⟩
        refine ⟨_, rfl, _, _, rfl, rfl, by omega, by omega, rfl, fun t ht => ?_⟩
        refine ⟨_, _, rfl, rfl, line_ge (by rw [str_len_cat, hwl]; show i + 1 + _ ≤ _; omega), _, rfl, _, _, rfl, rfl, true, bT (str_some _ _ _), iteT ?_⟩
        refine ⟨_, rfl, _, upd_same, ?_, ?_⟩
        · rw [List.length_map, List.length_take, sizeLine_eq]
          omega
        · rw [upd_upd, take_next hcl, List.map_append]
          rfl
      · rintro H2 rfl
        have hD2 : D ≠ x := by
          rintro rfl
          obtain ⟨⟨_, e⟩, _⟩ := hx2
          rw [e] at hD
          cases hD
        have ez : lettersC.take ("abcdefghijklmnopqrstuvwxyz" : Str).cps.size = lettersC := by decide +kernel
        rw [ez]
        have hx3 : RdX K (upd H1 D (.lst (lettersC.map fun c => V.str ⟨#[c]⟩))) x oa o (p + i) := hx2.same (Same.new hD)
        obtain ⟨⟨dx, hx4⟩, ho⟩ := hx3
        refine ⟨_, rfl, true, .inl ⟨_, SqL.of upd_same, rfl⟩, iteF ?_⟩
        obtain ⟨r97, h97⟩ := letter_ix (c := 97) (by decide)
        refine ⟨_, rfl, x, dx, _, rfl, hx4, rfl, rfl, _, rfl, D, _, _, _, rfl, rfl, SqL.of upd_same, atI_nat (j := 0) (v := V.str ⟨#[97]⟩) (by decide +kernel), _, _, _, _, rfl, rfl, h97, _, _, rfl, rfl, _, _, rfl, rfl, ?_⟩
        refine ⟨x, oa, o, p + i, _, _, ((l[i] : Nat) : Int), rfl, ⟨⟨dx, hx4⟩, ho⟩, hd, by omega, by omega, fun H3 k3 hx5 => ?_⟩
        refine ⟨_, rfl, _, rfl, _, _, rfl, rfl, _, _, _, rfl, rfl, line_ge (by decide +kernel), letter_at hc, _, _, rfl, rfl, line_ge (by rw [hwl]; show i + 1 ≤ _; omega), ?_⟩
        refine ⟨some (.int ((l.length : Int) - 1 + (i : Int) * -1)), some (.ref D), v6, some (.int ((l[i] : Nat) : Int)), ?_, (k.trans (Kp.of (Same.new hD))).trans k3, hx5⟩
        rw [take_next hc1, ← SX.S_cat]
        rfl
    · rintro σ H1 ⟨v4, v5, v6, v7, rfl, k, hx2⟩
      rw [List.take_length]
      exact ⟨_, rfl, q _ k hx2⟩
end
end Gt
set_option Elab.async false
set_option linter.all false
set_option maxRecDepth 100000
set_option maxHeartbeats 4000000
/-! Reader 2: names, stamps, values, changes, messages. -/
namespace Gt
open PySem PySem.Spec PyProof.Rows L2
/-- a new pair of ints -/
def rRd2 (K : PySem.W.Frag) (H : Hp) (Q : VK) (x oa : Addr) (o : List Int) (p : Nat) (i j : Int) : Prop := ∀ b H', Kp [x] H H' → H b = none → RdX K H' x oa o p → NmAt H' b i j → Q (.ref b) H'
def spRName (K : PySem.W.Frag) : Sp := fun vs H Q _ => ∃ (x oa : Addr) (o : List Int) (p : Nat) (i j : Int), vs = [.ref x] ∧ RdX K H x oa o p ∧ Bf o p (nmO i j) ∧ (0 ≤ i ∧ i < 8) ∧ (0 ≤ j ∧ j ≤ 4294967295) ∧ rRd2 K H Q x oa o (p + 5) i j
def spRStamp (K : PySem.W.Frag) : Sp := fun vs H Q _ => ∃ (x oa : Addr) (o : List Int) (p : Nat) (i j : Int), vs = [.ref x] ∧ RdX K H x oa o p ∧ Bf o p (numO 4 i ++ [j]) ∧ (1 ≤ i ∧ i ≤ 4294967295) ∧ (0 ≤ j ∧ j < 8) ∧ rRd2 K H Q x oa o (p + 5) i j
def spRWorth (K : PySem.W.Frag) : Sp := fun vs H Q _ => ∃ (x oa : Addr) (o : List Int) (p : Nat) (u : Wo), vs = [.ref x] ∧ RdX K H x oa o p ∧ Bf o p (woO u) ∧ okW u ∧ ∀ v H', Kp [x] H H' → RdX K H' x oa o (p + (woO u).length) → WoAt H' v u → Q v H'
def spRChange (K : PySem.W.Frag) : Sp := fun vs H Q _ => ∃ (x oa : Addr) (o : List Int) (p : Nat) (c : Ch), vs = [.ref x] ∧ RdX K H x oa o p ∧ Bf o p (chO c) ∧ okC c ∧ ∀ b H', Kp [x] H H' → H b = none → RdX K H' x oa o (p + (chO c).length) → ChAt H' b c → Q (.ref b) H'
def spRInit (K : PySem.W.Frag) : Sp := fun vs H Q _ => ∃ (x oa dx : Addr) (o : List Int), vs = [.ref x, .ref oa] ∧ H x = some (.ins (He.ga K "Message") dx []) ∧ H oa = some (.lst (o.map V.int)) ∧ rRd K H Q x oa o 0 .non
def spRead : Sp := fun vs H Q _ => ∃ (oa : Addr) (s n : Int) (cs : List Ch), vs = [.ref oa] ∧ H oa = some (.lst ((msgO s n cs).map V.int)) ∧ (0 ≤ s ∧ s < 8) ∧ (0 ≤ n ∧ n ≤ 4294967295) ∧ (∀ c ∈ cs, okC c) ∧ cs.length ≤ 1000 ∧
  ∀ b l as H', Same H H' → H b = none → H l = none → H' b = some (.tup [.int s, .int n, .ref l]) → H' l = some (.lst (as.map V.ref)) → ChsAt H' as cs → Q (.ref b) H'
section
variable {P : Program} {w : World} {K : PySem.W.Frag} {mg : Str → Option Value} {base : Heap}
theorem scMessageName : FnScope ["self", "peer"] ["self"] (defScope sMessageName) := ⟨rfl, rfl, rfl, by decide +kernel, rfl, by decide +kernel, by decide +kernel⟩
theorem k_Message_name (T : Tx K mg) : C8.Met P w K mg base 3 (He.ga K "Message") "name" (spRName K) [] := by
  have k_Message_octet : C8.Met P w K mg base 1 (He.ga K "Message") "octet" (spOctet K) [] := k_Message_octet T
  have k_Message_number : C8.Met P w K mg base 2 (He.ga K "Message") "number" (spNumber K) [] := k_Message_number T
  refine metOf T.c_Message T.e_Message_name T.d_Message_name scMessageName (fun _ F => F.binds fun _ _ _ _ _ _ us hl => match us, hl with | [_], _ => rfl) (fun vs H Q E h => ?_) (fun cdv A outer s H vs Q E hr h => ?_)
  · obtain ⟨x, oa, o, p, i, j, rfl, _⟩ := h
    rfl
  · obtain ⟨x, oa, o, p, i, j, rfl, hx, hb, hi, hj, q⟩ := h
    refine ⟨_, (pss_cons (ps_set (i := 1) scMessageName.nd rfl (Or.inl rfl) (C8.pe_mt k_Message_octet hr (by decide) (pv 0) (pa_cons pe_int (pa_cons (pe_op op_sub (C8.pe_gc rfl T.i_PEERS) pe_int) pa_nil))))
      (pss_one (ps_ret (pe_tup (pa_cons (pv 1) (pa_cons (C8.pe_mt k_Message_number hr (by decide) (pv 0) (pa_cons pe_int (pa_cons (C8.pe_gc rfl T.i_COUNT_MOST) pa_nil))) pa_nil)))))), ?_⟩
    obtain ⟨⟨dx, hx1⟩, ho⟩ := hx
    refine ⟨_, rfl, x, dx, _, rfl, hx1, rfl, _, _, rfl, rfl, ?_⟩
    refine ⟨x, oa, o, p, _, _, i, rfl, ⟨⟨dx, hx1⟩, ho⟩, hb.head, by omega, by omega, fun H1 k1 hx2 => ?_⟩
    have hx0 := hx2
    obtain ⟨⟨dx2, hx3⟩, ho2⟩ := hx2
    refine ⟨_, rfl, _, rfl, x, dx2, _, rfl, hx3, rfl, ?_⟩
    refine ⟨x, oa, o, p + 1, 4, j, _, rfl, hx0, by omega, hb.tail, by omega, by omega, by omega, fun H2 k2 hx4 => ?_⟩
    refine ⟨(show 2 ≤ sizeLine by decide), fun b hb2 => ?_⟩
    have k3 := k1.trans k2
    exact q b _ (k3.trans (Kp.new hb2)) (hx4.free k3 hb2) (hx4.same (Same.new hb2)) upd_same
theorem scMessageStamp : FnScope ["self", "clock"] ["self"] (defScope sMessageStamp) := ⟨rfl, rfl, rfl, by decide +kernel, rfl, by decide +kernel, by decide +kernel⟩
theorem k_Message_stamp (T : Tx K mg) : C8.Met P w K mg base 3 (He.ga K "Message") "stamp" (spRStamp K) [] := by
  have k_Message_octet : C8.Met P w K mg base 1 (He.ga K "Message") "octet" (spOctet K) [] := k_Message_octet T
  have k_Message_number : C8.Met P w K mg base 2 (He.ga K "Message") "number" (spNumber K) [] := k_Message_number T
  refine metOf T.c_Message T.e_Message_stamp T.d_Message_stamp scMessageStamp (fun _ F => F.binds fun _ _ _ _ _ _ us hl => match us, hl with | [_], _ => rfl) (fun vs H Q E h => ?_) (fun cdv A outer s H vs Q E hr h => ?_)
  · obtain ⟨x, oa, o, p, i, j, rfl, _⟩ := h
    rfl
  · obtain ⟨x, oa, o, p, i, j, rfl, hx, hb, hi, hj, q⟩ := h
    refine ⟨_, (pss_cons (ps_set (i := 1) scMessageStamp.nd rfl (Or.inl rfl) (C8.pe_mt k_Message_number hr (by decide) (pv 0) (pa_cons pe_int (pa_cons (C8.pe_gc rfl T.i_COUNT_MOST) pa_nil))))
      (pss_cons (ps_if (pt_cmpR op_eq (pv 1) pe_int (nomark _)) (pss_one ps_never) pss_nil)
      (pss_one (ps_ret (pe_tup (pa_cons (pv 1) (pa_cons (C8.pe_mt k_Message_octet hr (by decide) (pv 0) (pa_cons pe_int (pa_cons (pe_op op_sub (C8.pe_gc rfl T.i_PEERS) pe_int) pa_nil))) pa_nil))))))), ?_⟩
    have hx9 := hx
    obtain ⟨⟨dx, hx1⟩, ho⟩ := hx
    refine ⟨_, rfl, x, dx, _, rfl, hx1, rfl, ?_⟩
    refine ⟨x, oa, o, p, 4, i, _, rfl, hx9, by omega, hb.left, by omega, by omega, by omega, fun H1 k1 hx2 => ?_⟩
    have hx0 := hx2
    obtain ⟨⟨dx2, hx3⟩, ho2⟩ := hx2
    refine ⟨_, rfl, rfl, false, bF (by intro e; have e := V.int.inj e; omega), iteF ?_⟩
    refine ⟨_, rfl, _, rfl, x, dx2, _, rfl, hx3, rfl, _, _, rfl, rfl, ?_⟩
    refine ⟨x, oa, o, p + 4, _, _, j, rfl, hx0, ?_, by omega, by omega, fun H2 k2 hx4 => ?_⟩
    · have := hb.right.head
      rwa [numO_len] at this
    refine ⟨(show 2 ≤ sizeLine by decide), fun b hb2 => ?_⟩
    have k3 := k1.trans k2
    exact q b _ (k3.trans (Kp.new hb2)) (hx4.free k3 hb2) (hx4.same (Same.new hb2)) upd_same
theorem scMessageWorth : FnScope ["self", "kind"] ["self"] (defScope sMessageWorth) := ⟨rfl, rfl, rfl, by decide +kernel, rfl, by decide +kernel, by decide +kernel⟩
theorem k_Message_worth (T : Tx K mg) : C8.Met P w K mg base 4 (He.ga K "Message") "worth" (spRWorth K) [] := by
  have k_Message_octet : C8.Met P w K mg base 1 (He.ga K "Message") "octet" (spOctet K) [] := k_Message_octet T
  have k_Message_number : C8.Met P w K mg base 2 (He.ga K "Message") "number" (spNumber K) [] := k_Message_number T
  have k_Message_letters : C8.Met P w K mg base 2 (He.ga K "Message") "letters" (spLetters K) [] := k_Message_letters T
  have k_Message_name : C8.Met P w K mg base 3 (He.ga K "Message") "name" (spRName K) [] := k_Message_name T
  refine metOf T.c_Message T.e_Message_worth T.d_Message_worth scMessageWorth (fun _ F => F.binds fun _ _ _ _ _ _ us hl => match us, hl with | [_], _ => rfl) (fun vs H Q E h => ?_) (fun cdv A outer s H vs Q E hr h => ?_)
  · obtain ⟨x, oa, o, p, u, rfl, _⟩ := h
    rfl
  · obtain ⟨x, oa, o, p, u, rfl, hx, hb, hu, q⟩ := h
    refine ⟨_, (pss_cons (ps_set (i := 1) scMessageWorth.nd rfl (Or.inl rfl) (C8.pe_mt k_Message_octet hr (by decide) (pv 0) (pa_cons (C8.pe_gc rfl T.i_NOTHING) (pa_cons (C8.pe_gc rfl T.i_REFERENCE) pa_nil))))
      (pss_cons (ps_if (pt_cmpR op_eq (pv 1) (C8.pe_gc rfl T.i_NOTHING) (nomark _)) (pss_one (ps_ret pe_non)) pss_nil)
      (pss_cons (ps_if (pt_cmpR op_eq (pv 1) (C8.pe_gc rfl T.i_INTEGER) (nomark _)) (pss_one (ps_ret (pe_op op_sub (C8.pe_mt k_Message_number hr (by decide) (pv 0) (pa_cons pe_int (pa_cons (pe_op op_mul pe_int (C8.pe_gc rfl T.i_INTEGER_MOST)) pa_nil))) (C8.pe_gc rfl T.i_INTEGER_MOST)))) pss_nil)
      (pss_cons (ps_if (pt_cmpR op_eq (pv 1) (C8.pe_gc rfl T.i_TEXT) (nomark _)) (pss_one (ps_ret (C8.pe_mt k_Message_letters hr (by decide) (pv 0) (pa_cons (C8.pe_mt k_Message_octet hr (by decide) (pv 0) (pa_cons pe_int (pa_cons (C8.pe_gc rfl T.i_TEXT_MOST) pa_nil))) (pa_cons pe_str pa_nil))))) pss_nil)
      (pss_one (ps_ret (pe_tup (pa_cons (C8.pe_gc rfl T.s_REF) (pa_cons (C8.pe_mt0 k_Message_name hr (by decide) (pv 0)) pa_nil))))))))), ?_⟩
    have hx9 := hx
    obtain ⟨⟨dx, hx1⟩, ho⟩ := hx
    refine ⟨_, rfl, x, dx, _, rfl, hx1, rfl, ?_⟩
    cases u with
    | non =>
      refine ⟨x, oa, o, p, _, _, 0, rfl, hx9, hb.head, by omega, by omega, fun H1 k1 hx2 => ?_⟩
      refine ⟨_, rfl, rfl, true, bT rfl, iteT ?_⟩
      exact q _ _ k1 hx2 rfl
    | num i =>
      refine ⟨x, oa, o, p, _, _, 1, rfl, hx9, hb.head, by omega, by omega, fun H1 k1 hx2 => ?_⟩
      have hx0 := hx2
      obtain ⟨⟨dx2, hx3⟩, ho2⟩ := hx2
      refine ⟨_, rfl, rfl, false, bF (by decide), iteF ?_⟩
      refine ⟨_, rfl, rfl, true, bT rfl, iteT ?_⟩
      have hi : -1000000 ≤ i ∧ i ≤ 1000000 := hu
      refine ⟨_, rfl, x, dx2, _, rfl, hx3, rfl, _, _, rfl, rfl, .inl (by decide), ?_⟩
      refine ⟨x, oa, o, p + 1, 3, i + 1000000, _, rfl, hx0, by omega, hb.tail, by omega, by omega, by omega, fun H2 k2 hx4 => ?_⟩
      refine ⟨_, _, rfl, rfl, ?_⟩
      refine q _ _ (k1.trans k2) ?_ (show V.int (i + 1000000 - 1000000) = .int i by rw [Int.add_sub_cancel])
      rw [show (woO (.num i)).length = 4 by simp [woO, numO_len]]
      exact hx4
    | txt l =>
      refine ⟨x, oa, o, p, _, _, 2, rfl, hx9, hb.head, by omega, by omega, fun H1 k1 hx2 => ?_⟩
      have hx0 := hx2
      obtain ⟨⟨dx2, hx3⟩, ho2⟩ := hx2
      refine ⟨_, rfl, rfl, false, bF (by decide), iteF ?_⟩
      refine ⟨_, rfl, rfl, false, bF (by decide), iteF ?_⟩
      refine ⟨_, rfl, rfl, true, bT rfl, iteT ?_⟩
      have hl : okL l ∧ l.length ≤ 20 := hu
      have hb2 : Bf o (p + 1) (wordO l) := hb.tail
      refine ⟨_, rfl, x, dx2, _, rfl, hx3, rfl, _, rfl, x, dx2, _, rfl, hx3, rfl, ?_⟩
      refine ⟨x, oa, o, p + 1, _, _, (l.length : Int), rfl, hx0, hb2.head, by omega, by omega, fun H2 k2 hx4 => ?_⟩
      refine ⟨x, oa, o, p + 2, l, rfl, hx4, hl.2, hl.1, hb2.tail, fun H3 k3 hx5 => ?_⟩
      refine q _ _ ((k1.trans k2).trans k3) ?_ rfl
      rw [show (woO (.txt l)).length = 2 + l.length by simp [woO, wordO]; omega, ← Nat.add_assoc]
      exact hx5
    | rf i j =>
      refine ⟨x, oa, o, p, _, _, 3, rfl, hx9, hb.head, by omega, by omega, fun H1 k1 hx2 => ?_⟩
      have hx0 := hx2
      obtain ⟨⟨dx2, hx3⟩, ho2⟩ := hx2
      refine ⟨_, rfl, rfl, false, bF (by decide), iteF ?_⟩
      refine ⟨_, rfl, rfl, false, bF (by decide), iteF ?_⟩
      refine ⟨_, rfl, rfl, false, bF (by decide), iteF ?_⟩
      have hij : (0 ≤ i ∧ i < 8) ∧ 0 ≤ j ∧ j ≤ 4294967295 := hu
      refine ⟨_, rfl, x, dx2, _, rfl, hx3, rfl, ?_⟩
      refine ⟨x, oa, o, p + 1, i, j, rfl, hx0, hb.tail, hij.1, hij.2, fun b H2 k2 hb2 hx4 hn => ?_⟩
      refine ⟨(show 2 ≤ sizeLine by decide), fun t ht => ?_⟩
      refine q _ _ ((k1.trans k2).trans (Kp.new ht)) ?_ ⟨t, b, rfl, upd_same, Same.new ht _ _ hn⟩
      rw [show (woO (.rf i j)).length = 6 by simp [woO, nmO, numO_len]]
      exact hx4.same (Same.new ht)
theorem scMessageChange : FnScope ["self", "stamp", "name", "field"] ["self"] (defScope sMessageChange) := ⟨rfl, rfl, rfl, by decide +kernel, rfl, by decide +kernel, by decide +kernel⟩
theorem k_Message_change (T : Tx K mg) : C8.Met P w K mg base 5 (He.ga K "Message") "change" (spRChange K) [] := by
  have k_Message_octet : C8.Met P w K mg base 1 (He.ga K "Message") "octet" (spOctet K) [] := k_Message_octet T
  have k_Message_letters : C8.Met P w K mg base 2 (He.ga K "Message") "letters" (spLetters K) [] := k_Message_letters T
  have k_Message_name : C8.Met P w K mg base 3 (He.ga K "Message") "name" (spRName K) [] := k_Message_name T
  have k_Message_stamp : C8.Met P w K mg base 3 (He.ga K "Message") "stamp" (spRStamp K) [] := k_Message_stamp T
  have k_Message_worth : C8.Met P w K mg base 4 (He.ga K "Message") "worth" (spRWorth K) [] := k_Message_worth T
  refine metOf T.c_Message T.e_Message_change T.d_Message_change scMessageChange (fun _ F => F.binds fun _ _ _ _ _ _ us hl => match us, hl with | [_], _ => rfl) (fun vs H Q E h => ?_) (fun cdv A outer s H vs Q E hr h => ?_)
  · obtain ⟨x, oa, o, p, c, rfl, _⟩ := h
    rfl
  · obtain ⟨x, oa, o, p, c, rfl, hx, hb, ok, q⟩ := h
    refine ⟨_, (pss_cons (ps_set (i := 1) scMessageChange.nd rfl (Or.inl rfl) (C8.pe_mt0 k_Message_stamp hr (by decide) (pv 0)))
      (pss_cons (ps_set (i := 2) scMessageChange.nd rfl (Or.inl rfl) (C8.pe_mt0 k_Message_name hr (by decide) (pv 0)))
      (pss_cons (ps_set (i := 3) scMessageChange.nd rfl (Or.inl rfl) (C8.pe_mt k_Message_letters hr (by decide) (pv 0) (pa_cons (C8.pe_mt k_Message_octet hr (by decide) (pv 0) (pa_cons pe_int (pa_cons (C8.pe_gc rfl T.i_FIELD_MOST) pa_nil))) (pa_cons pe_str pa_nil))))
      (pss_one (ps_ret (pe_tup (pa_cons (pv 1) (pa_cons (pv 2) (pa_cons (pv 3) (pa_cons (C8.pe_mt0 k_Message_worth hr (by decide) (pv 0)) pa_nil)))))))))), ?_⟩
    have hx9 := hx
    obtain ⟨⟨dx, hx1⟩, ho⟩ := hx
    have hb1 : Bf o p (numO 4 c.ck ++ [c.pr]) := hb.left.left.left
    have hb2 : Bf o (p + 5) (nmO c.np c.nc) := by
      have := hb.left.left.right
      simpa [numO_len] using this
    have hb3 : Bf o (p + 10) (wordO c.fd) := by
      have := hb.left.right
      simpa [numO_len, nmO] using this
    have hb4 : Bf o (p + 10 + (1 + c.fd.length)) (woO c.wo) := by
      have := hb.right
      have e : p + (numO 4 c.ck ++ [c.pr] ++ nmO c.np c.nc ++ wordO c.fd).length = p + 10 + (1 + c.fd.length) := by
        simp [numO_len, nmO, wordO]
        omega
      rwa [e] at this
    refine ⟨_, rfl, x, dx, _, rfl, hx1, rfl, ?_⟩
    refine ⟨x, oa, o, p, c.ck, c.pr, rfl, hx9, hb1, ok.ck, ok.pr, fun sa H1 k1 n1 hx2 hs1 => ?_⟩
    have hx3 := hx2
    obtain ⟨⟨dx2, hx2⟩, _⟩ := hx2
    refine ⟨_, rfl, x, dx2, _, rfl, hx2, rfl, ?_⟩
    refine ⟨x, oa, o, p + 5, c.np, c.nc, rfl, hx3, hb2, ok.np, ok.nc, fun na H2 k2 n2 hx4 hs2 => ?_⟩
    have hx5 := hx4
    obtain ⟨⟨dx3, hx4⟩, _⟩ := hx4
    refine ⟨_, rfl, x, dx3, _, rfl, hx4, rfl, _, rfl, x, dx3, _, rfl, hx4, rfl, ?_⟩
    have hfl := ok.fl
    refine ⟨x, oa, o, p + 10, _, _, (c.fd.length : Int), rfl, hx5, hb3.head, by omega, by omega, fun H3 k3 hx6 => ?_⟩
    refine ⟨x, oa, o, p + 10 + 1, c.fd, rfl, hx6, by omega, ok.fd, hb3.tail, fun H4 k4 hx7 => ?_⟩
    have hx8 := hx7
    obtain ⟨⟨dx4, hx7⟩, _⟩ := hx7
    refine ⟨_, rfl, _, rfl, _, rfl, _, rfl, x, dx4, _, rfl, hx7, rfl, ?_⟩
    refine ⟨x, oa, o, p + 10 + 1 + c.fd.length, c.wo, rfl, hx8, by rw [Nat.add_assoc]; exact hb4, ok.wo, fun v H5 k5 hx10 hv => ?_⟩
    refine ⟨(show 4 ≤ sizeLine by decide), fun b hb5 => ?_⟩
    have k25 : Kp [x] H1 H5 := ((k2.trans k3).trans k4).trans k5
    have k15 : Kp [x] H H5 := k1.trans k25
    have t35 : Tups H2 H5 := hx5.tups ((k3.trans k4).trans k5)
    have t15 : Tups H1 H5 := hx3.tups k25
    have hbf : H b = none := hx10.free k15 hb5
    have sb := Same.new (o := .tup [V.ref sa, V.ref na, V.str (SX.S c.fd), v]) hb5
    refine q b _ (k15.trans (Kp.new hb5)) hbf ?_ ⟨sa, na, v, upd_same, (hs1.mono t15).mono (Same.tups sb), (hs2.mono t35).mono (Same.tups sb), hv.mono (Same.tups sb)⟩
    have e : p + (chO c).length = p + 10 + 1 + c.fd.length + (woO c.wo).length := by
      simp [chO, numO_len, nmO, wordO]
      omega
    rw [e]
    exact hx10.same sb
theorem scMessageInit : FnScope ["self", "octets"] ["self", "octets"] (defScope sMessageInit) := ⟨rfl, rfl, rfl, by decide +kernel, rfl, by decide +kernel, by decide +kernel⟩
theorem k_Message (T : Tx K mg) : C8.Mak P w K mg base 1 "Message" (He.ga K "Message") (spRInit K) [] := by
  refine makOf T.m_Message T.g_Message T.d_Message___init__ scMessageInit (fun _ F => F.binds fun _ _ _ _ _ _ us hl => match us, hl with | [_, _], _ => rfl) (fun vs H Q E h => ?_) (fun cdv A outer s H vs Q E hr h => ?_)
  · obtain ⟨x, oa, dx, o, rfl, _⟩ := h
    rfl
  · obtain ⟨x, oa, dx, o, rfl, hx, ho, q⟩ := h
    refine ⟨_, (pss_cons (ps_fld (pv 0) (pv 1) rfl)
      (pss_cons (ps_fld (pv 0) pe_int rfl)
      (pss_one (ps_fld (pv 0) pe_int rfl)))), ?_⟩
    have hne : oa ≠ x := by
      rintro rfl
      rw [hx] at ho
      cases ho
    refine ⟨_, rfl, _, rfl, x, _, dx, _, rfl, hx, T.c_Message, T.a_Message_octets, (show 0 < 1000 by decide), ?_⟩
    refine ⟨_, rfl, x, _, dx, _, rfl, upd_same, T.c_Message, T.a_Message_place, (show 1 < 1000 by decide), ?_⟩
    refine ⟨_, rfl, x, _, dx, _, rfl, upd_same, T.c_Message, T.a_Message_known, (show 2 < 1000 by decide), ?_⟩
    rw [upd_upd, upd_upd]
    exact q _ (Kp.put (.head _)) ⟨⟨dx, upd_same⟩, by rw [upd_ne hne]; exact ho⟩
theorem scReadMessage : FnScope ["octets", "reader", "sender", "number", "changes", "change", "octet"] ["octets"] (defScope sReadMessage) := ⟨rfl, rfl, rfl, by decide +kernel, rfl, by decide +kernel, by decide +kernel⟩
theorem k_read_message (T : Tx K mg) : C8.Cal P w K mg base 6 "read_message" spRead [] := by
  have k_Message : C8.Mak P w K mg base 1 "Message" (He.ga K "Message") (spRInit K) [] := k_Message T
  have k_Message_octet : C8.Met P w K mg base 1 (He.ga K "Message") "octet" (spOctet K) [] := k_Message_octet T
  have k_Message_number : C8.Met P w K mg base 2 (He.ga K "Message") "number" (spNumber K) [] := k_Message_number T
  have k_Message_change : C8.Met P w K mg base 5 (He.ga K "Message") "change" (spRChange K) [] := k_Message_change T
  have k_check_of : C8.Cal P w K mg base 1 "check_of" spCk [] := k_check_of T
  refine calOf T.d_read_message T.g_read_message scReadMessage (fun _ F => F.binds fun _ _ _ _ _ _ us hl => match us, hl with | [_], _ => rfl) (fun vs H Q E h => ?_) (fun cdv A outer s H vs Q E hr h => ?_)
  · obtain ⟨oa, s, n, cs, rfl, _⟩ := h
    rfl
  · obtain ⟨oa, sd, n, cs, rfl, ho, hs, hn, ok, hz, q⟩ := h
    refine ⟨_, (pss_cons (ps_set (i := 1) scReadMessage.nd rfl (Or.inr rfl) (C8.pe_mk k_Message hr (by decide) rfl (pa_cons (pv 0) pa_nil)))
      (pss_cons (ps_set (i := 2) scReadMessage.nd rfl (Or.inl rfl) (C8.pe_mt k_Message_octet hr (by decide) (pv 1) (pa_cons pe_int (pa_cons (pe_op op_sub (C8.pe_gc rfl T.i_PEERS) pe_int) pa_nil))))
      (pss_cons (ps_set (i := 3) scReadMessage.nd rfl (Or.inl rfl) (C8.pe_mt k_Message_number hr (by decide) (pv 1) (pa_cons pe_int (pa_cons (C8.pe_gc rfl T.i_COUNT_MOST) pa_nil))))
      (pss_cons (by exact (ps_setLcD (i := 4) (own := [("change", 5)]) (g := gName 5) rfl scReadMessage.nd rfl rfl (sw_true rfl rfl rfl (by decide +kernel)) (pi_range1 (by rfl) T.n_range (pa_cons (C8.pe_mt k_Message_number hr (by decide) (pv 1) (pa_cons pe_int (pa_cons (C8.pe_gc rfl T.i_CHANGES_MOST) pa_nil))) pa_nil)) (blkOk_by (own := [("change", 5)]) (N := ["octets", "reader", "sender", "number", "changes", "change", "octet"]) (sc := defScope sReadMessage) (by decide +kernel)) (fun _ _ _ _ _ => (pg_name (i := 5) scReadMessage.nd rfl (Or.inl rfl))) (fun _ _ _ _ _ => pts_nil) (fun _ _ _ _ _ => (C8.pe_mt0 k_Message_change hr (by decide) (pv 1)))))
      (pss_cons (ps_for PassesOwn.never rfl (pi_list (C8.pe_c k_check_of hr (by decide) rfl (pa_cons (pe_slice sl_list (pv 0) po_none (po_some (pe_fld (pv 1) rfl))) pa_nil))) (pg_name (i := 6) scReadMessage.nd rfl (Or.inl rfl))
      (pss_one (ps_expr (C8.pe_mt k_Message_octet hr (by decide) (pv 1) (pa_cons (pv 6) (pa_cons (pv 6) pa_nil))))))
      (pss_cons (ps_if (pt_cmpR op_lt (pe_fld (pv 1) rfl) (pe_callB call_len_seq (by rfl) T.n_len (by decide +kernel) (pa_cons (pv 0) pa_nil)) (nomark _)) (pss_one ps_never) pss_nil)
      (pss_one (ps_ret (pe_tup (pa_cons (pv 2) (pa_cons (pv 3) (pa_cons (pv 4) pa_nil)))))))))))), ?_⟩
    have hB : Bf (msgO sd n cs) 0 (msgO sd n cs) := fun i hi => by rw [Nat.zero_add, List.getElem?_eq_getElem hi]
    have hBl : (msgB sd n cs).length = 7 + (cs.flatMap chO).length := by
      rw [msgB_eq]
      simp [numO_len]
      omega
    generalize hoo : msgO sd n cs = o at *
    have hB2 : Bf o 0 (([sd] ++ numO 4 n ++ numO 2 (cs.length : Int) ++ cs.flatMap chO) ++ ckO (msgB sd n cs)) := by
      rw [← msgB_eq]
      have e : o = msgB sd n cs ++ ckO (msgB sd n cs) := hoo.symm
      rw [← e]
      exact hB
    have b0 : o[0]? = some sd := hB2.left.left.left.left.head
    have b1 : Bf o 1 (numO 4 n) := hB2.left.left.left.right
    have b2 : Bf o 5 (numO 2 (cs.length : Int)) := by
      have := hB2.left.left.right
      simpa [numO_len] using this
    have b3 : Bf o 7 (cs.flatMap chO) := by
      have := hB2.left.right
      simpa [numO_len] using this
    have b4 : Bf o (msgB sd n cs).length (ckO (msgB sd n cs)) := by
      have := hB2.right
      rw [← msgB_eq] at this
      simpa using this
    have hol : o.length = (msgB sd n cs).length + 2 := by rw [← hoo]; simp [msgO, ckO]
    have hcut : cutV (o.map V.int) none (some ((msgB sd n cs).length : Int)) = (msgB sd n cs).map V.int := by
      have e : o = msgB sd n cs ++ ckO (msgB sd n cs) := hoo.symm
      unfold cutV
      rw [HT.sIx_none, HT.sIx_nat, List.drop_zero, List.length_map, hol, Nat.sub_zero, Nat.min_eq_left (by omega), e, List.map_append]
      exact List.take_left' (List.length_map ..)
    clear hoo hB hB2
    refine ⟨_, rfl, fun x dx hxn hdn hxd => ?_⟩
    have hxo : oa ≠ x := ne_of_none ho hxn
    have hdo : oa ≠ dx := ne_of_none ho hdn
    have s0 : Same H (upd (upd H dx (.own x)) x (.ins (He.ga K "Message") dx [])) := (Same.new hdn).trans (Same.new (by rw [upd_ne hxd.symm]; exact hxn))
    refine ⟨x, oa, dx, o, rfl, upd_same, s0 _ _ ho, fun H1 k1 hx1 => ⟨rfl, ?_⟩⟩
    have hx1' := hx1
    obtain ⟨⟨dx1, hi1⟩, _⟩ := hx1'
    refine ⟨_, rfl, x, dx1, _, rfl, hi1, rfl, _, _, rfl, rfl, ?_⟩
    refine ⟨x, oa, o, 0, _, _, sd, rfl, hx1, b0, by omega, by omega, fun H2 k2 hx2 => ?_⟩
    have hx2' := hx2
    obtain ⟨⟨dx2, hi2⟩, _⟩ := hx2'
    refine ⟨_, rfl, x, dx2, _, rfl, hi2, rfl, ?_⟩
    refine ⟨x, oa, o, 1, 4, n, _, rfl, hx2, by omega, b1, by omega, by omega, by omega, fun H3 k3 hx3 => ?_⟩
    have hx3' := hx3
    obtain ⟨⟨dx3, hi3⟩, _⟩ := hx3'
    refine ⟨_, rfl, x, dx3, _, rfl, hi3, rfl, ?_⟩
    refine ⟨x, oa, o, 5, 2, (cs.length : Int), _, rfl, hx3, by omega, b2, by omega, by omega, by omega, fun H4 k4 hx4 => ?_⟩
    have k04 : Kp [x] (upd (upd H dx (.own x)) x (.ins (He.ga K "Message") dx [])) H4 := ((k1.trans k2).trans k3).trans k4
    have s04 : Same H H4 := fun b u e => k04 b u (s0 b u e) (fun m => by rw [List.mem_singleton.mp m, hxn] at e; cases e)
    refine ⟨(cs.length : Int), rfl, by omega, by omega, fun D hD => lc_it (walk_range (lo := 0) (n := ((cs.length : Int)).toNat))
      (fun i H' => ∃ as : List Addr, H' D = some (.lst (as.map V.ref)) ∧ Kp [x, D] H4 H' ∧ RdX K H' x oa o (7 + ((cs.take i).flatMap chO).length) ∧ ChsAt H' as (cs.take i))
      ⟨[], upd_same, Kp.new hD, hx4.same (Same.new hD), .nil⟩ (fun _ _ _ _ => trivial) ?_ ?_⟩
    · rintro i y H5 H6 hi ⟨as, hD5, k5, hx5, hc5⟩ ⟨rfl, rfl⟩
      rw [Int.toNat_natCast] at hi
      have hc1 : cs[i]? = some cs[i] := List.getElem?_eq_getElem hi
      have hx5' := hx5
      obtain ⟨⟨dx5, hi5⟩, _⟩ := hx5'
      have ecs : cs.flatMap chO = (cs.take i).flatMap chO ++ (chO cs[i] ++ (cs.drop (i + 1)).flatMap chO) := by
        conv => lhs; rw [← List.take_append_drop i cs, List.drop_eq_getElem_cons hi]
        rw [List.flatMap_append, List.flatMap_cons]
      have bc : Bf o (7 + ((cs.take i).flatMap chO).length) (chO cs[i]) := by
        rw [ecs] at b3
        exact b3.right.left
      refine ⟨rfl, ?_⟩
      refine ⟨_, rfl, x, dx5, _, rfl, hi5, rfl, ?_⟩
      refine ⟨x, oa, o, _, cs[i], rfl, hx5, bc, ok _ (List.getElem_mem hi), fun b H7 k7 hb7 hx7 hc7 => ?_⟩
      have hDx : D ≠ x := by
        rintro rfl
        obtain ⟨⟨_, e⟩, _⟩ := hx4
        rw [e] at hD
        cases hD
      have hoD : oa ≠ D := ne_of_none hx4.2 hD
      have hD7 : H7 D = some (.lst (as.map V.ref)) := k7 _ _ hD5 (by simpa using hDx)
      have hal : as.length = i := by rw [hc5.length, List.length_take]; omega
      have tD : Tups H7 (upd H7 D (.lst (as.map V.ref ++ [V.ref b]))) := (Kp.put (S := [D]) (.head _)).tups fun c hc o e => by
        rw [List.mem_singleton.mp hc, hD7] at e
        cases e
        rfl
      refine ⟨_, hD7, by rw [List.length_map, hal]; exact Nat.lt_of_lt_of_le (show i < 1000000 by omega) (line_ge (Nat.le_refl _)), as ++ [b], ?_, ?_, ?_, ?_⟩
      · rw [upd_same, List.map_append]
        rfl
      · exact (k5.trans (k7.mono fun z m => by rw [List.mem_singleton.mp m]; exact .head _)).trans (Kp.put (.tail _ (.head _)))
      · have e : 7 + ((cs.take (i + 1)).flatMap chO).length = 7 + ((cs.take i).flatMap chO).length + (chO cs[i]).length := by
          rw [take_next hc1, List.flatMap_append, List.length_append]
          simp
          omega
        rw [e]
        obtain ⟨⟨dx7, hi7⟩, ho7⟩ := hx7
        exact ⟨⟨dx7, by rw [upd_ne hDx.symm]; exact hi7⟩, by rw [upd_ne hoD]; exact ho7⟩
      · rw [take_next hc1]
        exact paired_snoc ((hc5.mono (hx5.tups k7)).mono tD) (hc7.mono tD)
    · rintro H5 ⟨as, hD5, k5, hx5, hc5⟩
      rw [Int.toNat_natCast, List.take_length] at hx5 hc5
      rw [← hBl] at hx5
      have hx5' := hx5
      obtain ⟨⟨dx5, hi5⟩, ho5⟩ := hx5'
      refine ⟨_, rfl, _, rfl, x, _, dx5, _, _, rfl, hi5, T.c_Message, T.a_Message_place, rfl, _, rfl, oa, _, rfl, SqL.of ho5, fun sl hsl => ?_⟩
      rw [hcut]
      have hx6 : RdX K (upd H5 sl (.lst ((msgB sd n cs).map V.int))) x oa o (msgB sd n cs).length := hx5.same (Same.new hsl)
      refine ⟨sl, _, rfl, upd_same, fun l H6 hl s6 e6 => ?_⟩
      have hx7 := hx6.same s6
      have s56 : Same H5 H6 := (Same.new hsl).trans s6
      refine ⟨l, rfl, ⟨_, SqL.of e6⟩, for_list (K := K) (a := l) (xs := (ckO (msgB sd n cs)).map V.int)
        (fun i σ H' => ∃ v5 v6, σ = [some (.ref oa), some (.ref x), some (.int sd), some (.int n), some (.ref D), v5, v6] ∧ Kp [x] H6 H' ∧ RdX K H' x oa o ((msgB sd n cs).length + i))
        ⟨none, none, rfl, .refl _ _, hx7⟩ (fun i σ H' _ h => ?_) ?_ ?_⟩
      · obtain ⟨_, _, _, k, _⟩ := h
        refine SqL.of (k _ _ e6 ?_)
        rw [List.mem_singleton]
        rintro rfl
        obtain ⟨⟨_, e⟩, _⟩ := hx7
        rw [e6] at e
        cases e
      · rintro i y σ H' hi ⟨v5, v6, rfl, k, hx8⟩
        rw [List.getElem?_map] at hi
        cases e : (ckO (msgB sd n cs))[i]? with
        | none =>
          rw [e] at hi
          cases hi
        | some z =>
          rw [e] at hi
          obtain rfl : V.int z = y := Option.some.inj hi
          obtain ⟨hlt, hz2⟩ := List.getElem?_eq_some_iff.mp e
          have hx8' := hx8
          obtain ⟨⟨dx8, hi8⟩, _⟩ := hx8'
          refine ⟨_, rfl, x, dx8, _, rfl, hi8, rfl, _, rfl, _, rfl, ?_⟩
          refine ⟨x, oa, o, _, z, z, z, rfl, hx8, by rw [b4 i hlt, hz2], Int.le_refl _, Int.le_refl _, fun H9 k9 hx9 => ?_⟩
          exact ⟨v5, some (.int z), rfl, k.trans k9, hx9⟩
      · rintro σ H' ⟨v5, v6, rfl, k, hx8⟩
        have hx8' := hx8
        obtain ⟨⟨dx8, hi8⟩, ho8⟩ := hx8'
        have e2 : ((ckO (msgB sd n cs)).map V.int).length = 2 := rfl
        refine ⟨_, rfl, x, _, dx8, _, _, rfl, hi8, T.c_Message, T.a_Message_place, rfl, _, rfl, oa, _, rfl, .inl (SqL.of ho8), _, _, rfl, rfl, false, bF ?_, iteF ?_⟩
        · rw [e2, List.length_map, hol]
          omega
        have k5' : Kp [x, D] H4 H' := (k5.trans (Kp.of s56)).trans (k.mono fun z m => by rw [List.mem_singleton.mp m]; exact .head _)
        have sF : Same H H' := fun b u e => k5' b u (s04 b u e) (by
          intro m
          rcases List.mem_cons.mp m with rfl | m
          · rw [hxn] at e
            cases e
          · rw [List.mem_singleton.mp m] at e
            rw [s04 _ _ e] at hD
            cases hD)
        have hDx : D ≠ x := by
          rintro rfl
          obtain ⟨⟨_, e⟩, _⟩ := hx4
          rw [e] at hD
          cases hD
        have hDn : H D = none := by
          cases e : H D with
          | none => rfl
          | some u =>
            rw [s04 _ _ e] at hD
            cases hD
        refine ⟨_, rfl, _, rfl, _, rfl, (show 3 ≤ sizeLine by decide), fun b hb => ?_⟩
        have sb := Same.new (o := .tup [V.int sd, V.int n, V.ref D]) hb
        have tF : Tups H5 (upd H' b (.tup [V.int sd, V.int n, V.ref D])) := ((Same.tups s56).trans (hx7.tups k)).trans (Same.tups sb)
        exact q b D as _ (sF.trans sb) (sF.free hb) hDn upd_same (sb _ _ (k _ _ (s56 _ _ hD5) (by simpa using hDx))) (hc5.mono tF)
end
end Gt
set_option Elab.async false
set_option linter.all false
set_option maxRecDepth 100000
set_option maxHeartbeats 4000000
/-! States: cells as data, State.take. -/
namespace Gt
open PySem PySem.Spec PyProof.Rows L2
/-! ### cells as data -/
abbrev CE : Type := CK × ((Int × Int) × Wo)
def getE (l : List CE) (k : CK) : Option ((Int × Int) × Wo) := (l.find? fun e => decide (e.1 = k)).map (·.2)
def putE (l : List CE) (k : CK) (v : (Int × Int) × Wo) : List CE := if (l.any fun e => decide (e.1 = k)) = true then l.map (fun e => if e.1 = k then (e.1, v) else e) else l ++ [(k, v)]
def ckOf (c : Ch) : CK := (c.np, c.nc, SX.S c.fd)
/-- is the change taken in -/
def newC (l : List CE) (c : Ch) : Bool := match getE l (ckOf c) with
  | none => true
  | some o => gtP c.ck c.pr o.1.1 o.1.2
def stepC (l : List CE) (c : Ch) : List CE := if newC l c = true then putE l (ckOf c) ((c.ck, c.pr), c.wo) else l
def CvAt (H : Hp) (kv : CK × V) (e : CE) : Prop := kv.1 = e.1 ∧ ∃ t s v, kv.2 = .ref t ∧ H t = some (.tup [.ref s, v]) ∧ NmAt H s e.2.1.1 e.2.1.2 ∧ WoAt H v e.2.2
theorem CvAt.mono {H H' : Hp} {kv : CK × V} {e : CE} (t : Tups H H') (h : CvAt H kv e) : CvAt H' kv e := by
  obtain ⟨h0, a, s, v, h1, h2, h3, h4⟩ := h
  exact ⟨h0, a, s, v, h1, t _ _ h2, h3.mono t, h4.mono t⟩
def ClAt (P : Program) (w : World) (H : Hp) (d : Addr) (l : List CE) : Prop := ∃ kvs, CelAt P w H d kvs ∧ Paired (CvAt H) kvs l
theorem ClAt.mono {P : Program} {w : World} {H H' : Hp} {d : Addr} {l : List CE} (t : Tups H H') (hd : ∀ o, H d = some o → H' d = some o) (h : ClAt P w H d l) : ClAt P w H' d l := by
  obtain ⟨kvs, h1, h2⟩ := h
  exact ⟨kvs, h1.mono t hd, Paired.mapP h2 fun _ _ z => z.mono t⟩
theorem ClAt.there {P : Program} {w : World} {H : Hp} {d : Addr} {l : List CE} (h : ClAt P w H d l) : ∃ o, H d = some o ∧ ∀ xs, o ≠ .tup xs := let ⟨_, h1, _⟩ := h; h1.there
theorem cv_get {H : Hp} {k : CK} : ∀ {kvs : List (CK × V)} {l : List CE}, Paired (CvAt H) kvs l →
    (valV kvs k = none ∧ getE l k = none) ∨ ∃ t s v c, valV kvs k = some (.ref t) ∧ getE l k = some c ∧ H t = some (.tup [.ref s, v]) ∧ NmAt H s c.1.1 c.1.2 ∧ WoAt H v c.2
  | _, _, .nil => .inl ⟨rfl, rfl⟩
  | kv :: xs, e :: ys, .cons r t => by
    obtain ⟨h0, a, s, v, h1, h2, h3, h4⟩ := r
    by_cases q : kv.1 = k
    · refine .inr ⟨a, s, v, e.2, ?_, ?_, h2, h3, h4⟩
      · rw [valV_pos q, h1]
      · rw [getE, List.find?_cons, decide_eq_true (by rw [← h0]; exact q)]
        rfl
    · have q2 : ¬ e.1 = k := by rw [← h0]; exact q
      rw [valV_neg q, show getE (e :: ys) k = getE ys k by rw [getE, List.find?_cons, decide_eq_false q2]; rfl]
      exact cv_get t
theorem cv_any {H : Hp} {k : CK} : ∀ {kvs : List (CK × V)} {l : List CE}, Paired (CvAt H) kvs l → (kvs.any fun kv => decide (kv.1 = k)) = l.any fun e => decide (e.1 = k)
  | _, _, .nil => rfl
  | _, _, .cons r t => by rw [List.any_cons, List.any_cons, cv_any t, r.1]
theorem cv_put {H : Hp} {k : CK} {y : V} {c : (Int × Int) × Wo} {kvs : List (CK × V)} {l : List CE} (h : Paired (CvAt H) kvs l) (n : CvAt H (k, y) (k, c)) : Paired (CvAt H) (putK kvs k y) (putE l k c) := by
  unfold putK putE
  rw [cv_any h]
  by_cases q : (l.any fun e => decide (e.1 = k)) = true
  · rw [if_pos q, if_pos q]
    clear q
    induction h with
    | nil => exact .nil
    | @cons kv e xs ys r t ih =>
      rw [List.map_cons, List.map_cons]
      refine .cons ?_ ih
      by_cases z : kv.1 = k
      · rw [if_pos z, if_pos (by rw [← r.1]; exact z)]
        obtain ⟨_, h1⟩ := n
        exact ⟨r.1, h1⟩
      · rw [if_neg z, if_neg (by rw [← r.1]; exact z)]
        exact r
  · rw [if_neg q, if_neg q]
    exact paired_snoc h n
theorem putE_len (l : List CE) (k : CK) (v : (Int × Int) × Wo) : (putE l k v).length ≤ l.length + 1 := by
  unfold putE
  split
  · rw [List.length_map]; omega
  · simp
theorem stepC_len (l : List CE) (c : Ch) : (stepC l c).length ≤ l.length + 1 := by
  unfold stepC
  split
  · exact putE_len ..
  · omega
theorem cells_len : ∀ (cs : List Ch) (l : List CE), (cs.foldl stepC l).length ≤ l.length + cs.length
  | [], l => by simp
  | c :: cs, l => by
    have h1 := cells_len cs (stepC l c)
    have h2 := stepC_len l c
    rw [List.foldl_cons, List.length_cons]
    omega
/-! ### the contracts -/
def spLater : Sp := fun vs H Q _ => ∃ (s t : Addr) (a b c d : Int), vs = [.ref s, .ref t] ∧ NmAt H s a b ∧ NmAt H t c d ∧ Q (.bl (gtP a b c d)) H
def StAt (K : PySem.W.Frag) (H : Hp) (st d : Addr) : Prop := ∃ dx, H st = some (.ins (He.ga K "State") dx [("cells", .ref d)])
def spTake (P : Program) (w : World) (K : PySem.W.Frag) : Sp := fun vs H Q _ => ∃ (st a d : Addr) (l : List CE) (c : Ch), vs = [.ref st, .ref a] ∧ StAt K H st d ∧ ClAt P w H d l ∧ ChAt H a c ∧ l.length ≤ 1000 ∧
  ∀ v H', Kp [d] H H' → ClAt P w H' d (stepC l c) → Q v H'
def spSInit (K : PySem.W.Frag) : Sp := fun vs H Q _ => ∃ (st dx : Addr), vs = [.ref st] ∧ H st = some (.ins (He.ga K "State") dx []) ∧ ∀ d H', H d = none → Kp [st] H H' → StAt K H' st d → H' d = some (.dT []) → Q .non H'
section
variable {P : Program} {w : World} {K : PySem.W.Frag} {mg : Str → Option Value} {base : Heap}
theorem scIsLater : FnScope ["stamp", "other"] ["stamp", "other"] (defScope sIsLater) := ⟨rfl, rfl, rfl, by decide +kernel, rfl, by decide +kernel, by decide +kernel⟩
theorem k_is_later (T : Tx K mg) : C8.Cal P w K mg base 1 "is_later" spLater [] := by
  refine calOf T.d_is_later T.g_is_later scIsLater (fun _ F => F.binds fun _ _ _ _ _ _ us hl => match us, hl with | [_, _], _ => rfl) (fun vs H Q E h => ?_) (fun cdv A outer s H vs Q E hr h => ?_)
  · obtain ⟨x, y, a, b, c, d, rfl, _⟩ := h
    rfl
  · obtain ⟨x, y, a, b, c, d, rfl, h1, h2, q⟩ := h
    have hu0 := hu0_of hr
    refine ⟨_, (pss_one (ps_ret (pe_or (pe_cmpR op_isN (pv 1) pe_non (nomark _)) (pe_one (pe_cmpR (op_gtP hu0) (pv 0) (pv 1) (nomark _)))))), ?_⟩
    refine ⟨_, rfl, rfl, false, bF (fun e => nomatch e), iteF ?_⟩
    exact ⟨_, rfl, _, rfl, x, y, a, b, c, d, rfl, rfl, sqT_of h1, sqT_of h2, q⟩
theorem scStateInit : FnScope ["self"] ["self"] (defScope sStateInit) := ⟨rfl, rfl, rfl, by decide +kernel, rfl, by decide +kernel, by decide +kernel⟩
theorem k_State (T : Tx K mg) : C8.Mak P w K mg base 1 "State" (He.ga K "State") (spSInit K) [] := by
  refine makOf T.m_State T.g_State T.d_State___init__ scStateInit (fun _ F => F.binds fun _ _ _ _ _ _ us hl => match us, hl with | [_], _ => rfl) (fun vs H Q E h => ?_) (fun cdv A outer s H vs Q E hr h => ?_)
  · obtain ⟨st, dx, rfl, _⟩ := h
    rfl
  · obtain ⟨st, dx, rfl, hs, q⟩ := h
    refine ⟨_, (pss_one (ps_fld (pv 0) pe_dnewT rfl)), ?_⟩
    refine fun d hd => ⟨_, rfl, st, _, dx, _, rfl, Same.new hd _ _ hs, T.c_State, T.a_State_cells, (show 0 < 1000 by decide), ?_⟩
    have hne : st ≠ d := ne_of_none hs hd
    exact q d _ hd ((Kp.new hd).trans (Kp.put (.head _))) ⟨dx, upd_same⟩ (by rw [upd_ne hne.symm, upd_same])
theorem scStateTake : FnScope ["self", "change", "stamp", "name", "field", "value", "old"] ["self", "change"] (defScope sStateTake) := ⟨rfl, rfl, rfl, by decide +kernel, rfl, by decide +kernel, by decide +kernel⟩
theorem k_State_take (T : Tx K mg) : C8.Met P w K mg base 2 (He.ga K "State") "take" (spTake P w K) [] := by
  have k_is_later : C8.Cal P w K mg base 1 "is_later" spLater [] := k_is_later T
  refine metOf T.c_State T.e_State_take T.d_State_take scStateTake (fun _ F => F.binds fun _ _ _ _ _ _ us hl => match us, hl with | [_, _], _ => rfl) (fun vs H Q E h => ?_) (fun cdv A outer s H vs Q E hr h => ?_)
  · obtain ⟨st, a, d, l, c, rfl, _⟩ := h
    rfl
  · obtain ⟨st, a, d, l, c, rfl, hs, hl, hc, hz, q⟩ := h
    have hu9 := hu9_of hr
    refine ⟨_, (pss_cons (ps_asg (pv 1) (pg_tup rfl (pgs_cons (pg_name (i := 2) scStateTake.nd rfl (Or.inl rfl)) (pgs_cons (pg_name (i := 3) scStateTake.nd rfl (Or.inl rfl)) (pgs_cons (pg_name (i := 4) scStateTake.nd rfl (Or.inl rfl)) (pgs_cons (pg_name (i := 5) scStateTake.nd rfl (Or.inl rfl)) pgs_nil))))))
      (pss_cons (ps_set (i := 6) scStateTake.nd rfl (Or.inl rfl) (pe_cget1 hu9 (pe_fld (pv 0) rfl) (pe_tup (pa_cons (pv 3) (pa_cons (pv 4) pa_nil))) ⟨rfl, rfl, rfl, rfl⟩))
      (pss_cons (ps_if (PW.pt (pw_and (pt_cmpR op_notN (pv 6) pe_non (nomark _)) (pw_and1 (pt_not (pt_val (C8.pe_c k_is_later hr (by decide) rfl (pa_cons (pv 2) (pa_cons (pe_ix ix_tup (pv 6) pe_int (fun _ _ => rfl)) pa_nil)))))))) (pss_one (ps_ret pe_bl)) pss_nil)
      (pss_cons (ps_cput hu9 (pe_fld (pv 0) rfl) (pe_tup (pa_cons (pv 3) (pa_cons (pv 4) pa_nil))) (pe_tup (pa_cons (pv 2) (pa_cons (pv 5) pa_nil))) rfl)
      (pss_one (ps_ret pe_bl)))))), ?_⟩
    obtain ⟨dx, hs⟩ := hs
    obtain ⟨sa, na, v, h1, h2, h3, h4⟩ := hc
    obtain ⟨kvs, hcel, hp⟩ := hl
    refine ⟨_, rfl, a, _, rfl, sqT_of h1, rfl, _, _, rfl, _, _, rfl, _, _, rfl, _, _, rfl, rfl, ?_⟩
    refine ⟨_, rfl, st, _, dx, _, _, rfl, hs, T.c_State, T.a_State_cells, rfl, d, kvs, rfl, hcel, _, rfl, _, rfl, (show 2 ≤ sizeLine by decide), fun b hb => ?_⟩
    have sb := Same.new (o := .tup [V.ref na, V.str (SX.S c.fd)]) hb
    refine ⟨b, ckOf c, rfl, hcel.mono (Same.tups sb) fun o e => sb _ _ e, ⟨na, upd_same, sb _ _ h3⟩, ?_⟩
    have put : ∀ (H1 : Hp), Same H H1 → newC l c = true → ∀ (H2 : Hp) (t : Addr) (o : HO), Same H1 H2 → H2 t = some (.tup [V.ref sa, v]) → CelAt P w (upd H2 d o) d (putK kvs (ckOf c) (.ref t)) → (∀ xs, o ≠ .tup xs) → Q (.bl true) (upd H2 d o) := by
      intro H1 s1 hn H2 t o s2 ht ho hno
      have sA := s1.trans s2
      have hdt : ∀ u, H2 d = some u → isTup u = false := fun u e => by
        obtain ⟨o1, w1, w2⟩ := hcel.there
        rw [sA _ _ w1] at e
        cases e
        cases u with
        | tup xs => exact absurd rfl (w2 xs)
        | _ => rfl
      have tU : Tups H2 (upd H2 d o) := (Kp.put (S := [d]) (.head _)).tups fun z m u e => hdt u (by rw [← List.mem_singleton.mp m]; exact e)
      have tA : Tups H (upd H2 d o) := (Same.tups sA).trans tU
      refine q _ _ ((Kp.of sA).trans (Kp.put (.head _))) ⟨_, ho, ?_⟩
      rw [stepC, hn, if_pos rfl]
      exact cv_put (Paired.mapP hp fun _ _ z => z.mono tA) ⟨rfl, t, sa, v, rfl, tU _ _ ht, h2.mono tA, h4.mono tA⟩
    rcases cv_get (k := ckOf c) hp with ⟨e1, e2⟩ | ⟨t0, s0, v0, o0, e1, e2, g1, g2, g3⟩
    · rw [e1]
      have hn : newC l c = true := by rw [newC, e2]
      refine ⟨_, rfl, rfl, false, rfl, iteF (iteF ?_)⟩
      refine ⟨_, rfl, _, rfl, (show 2 ≤ sizeLine by decide), fun t ht => ⟨_, rfl, st, _, dx, _, _, rfl, (sb.trans (Same.new ht)) _ _ hs, T.c_State, T.a_State_cells, rfl, _, rfl, _, rfl, (show 2 ≤ sizeLine by decide), fun b2 hb2 => ?_⟩⟩
      have s2 := (Same.new (o := .tup [V.ref sa, v]) ht).trans (Same.new (o := .tup [V.ref na, V.str (SX.S c.fd)]) hb2)
      exact ⟨d, b2, kvs, ckOf c, rfl, rfl, hcel.mono (Same.tups (sb.trans s2)) fun o e => (sb.trans s2) _ _ e, ⟨na, upd_same, (sb.trans s2) _ _ h3⟩, by rw [hp.length]; exact hz, fun o ho hno => put _ sb hn _ t o s2 (Same.new hb2 _ _ upd_same) ho hno⟩
    · rw [e1]
      refine ⟨_, rfl, rfl, true, rfl, iteT ⟨_, rfl, _, rfl, t0, _, _, _, rfl, rfl, sqT_of (sb _ _ g1), atI_nat (j := 0) rfl, sa, s0, _, _, _, _, rfl, sb _ _ h2, sb _ _ g2, _, rfl, ?_⟩⟩
      have hn0 : newC l c = gtP c.ck c.pr o0.1.1 o0.1.2 := by rw [newC, e2]
      cases hg : gtP c.ck c.pr o0.1.1 o0.1.2 with
      | false =>
        refine q _ _ (Kp.of sb) ?_
        rw [stepC, hn0, hg, if_neg (fun e => nomatch e)]
        exact ⟨kvs, hcel.mono (Same.tups sb) fun o e => sb _ _ e, Paired.mapP hp fun _ _ z => z.mono (Same.tups sb)⟩
      | true =>
        have hn : newC l c = true := by rw [hn0, hg]
        refine ⟨_, rfl, _, rfl, (show 2 ≤ sizeLine by decide), fun t ht => ⟨_, rfl, st, _, dx, _, _, rfl, (sb.trans (Same.new ht)) _ _ hs, T.c_State, T.a_State_cells, rfl, _, rfl, _, rfl, (show 2 ≤ sizeLine by decide), fun b2 hb2 => ?_⟩⟩
        have s2 := (Same.new (o := .tup [V.ref sa, v]) ht).trans (Same.new (o := .tup [V.ref na, V.str (SX.S c.fd)]) hb2)
        exact ⟨d, b2, kvs, ckOf c, rfl, rfl, hcel.mono (Same.tups (sb.trans s2)) fun o e => (sb.trans s2) _ _ e, ⟨na, upd_same, (sb.trans s2) _ _ h3⟩, by rw [hp.length]; exact hz, fun o ho hno => put _ sb hn _ t o s2 (Same.new hb2 _ _ upd_same) ho hno⟩
end
end Gt
set_option Elab.async false
set_option linter.all false
set_option maxRecDepth 100000
set_option maxHeartbeats 4000000
/-! Replicas. -/
namespace Gt
open PySem PySem.Spec PyProof.Rows L2
theorem iteB {A B : Prop} (b : Bool) (h1 : b = true → A) (h2 : b = false → B) : if b = true then A else B := by
  cases b
  · rw [if_neg (fun e => nomatch e)]
    exact h2 rfl
  · rw [if_pos rfl]
    exact h1 rfl
/-! ### dicts of messages -/
abbrev MK : Type := Int × Int
abbrev ME : Type := MK × List Ch
def mk (k : MK) : List Key := [Sum.inl k.1, Sum.inl k.2]
theorem mk_inj {a b : MK} (h : mk a = mk b) : a = b := by
  cases a
  cases b
  simp [mk] at h
  rw [h.1, h.2]
def getM (l : List ME) (k : MK) : Option (List Ch) := (l.find? fun e => decide (e.1 = k)).map (·.2)
def MvAt (H : Hp) (kv : List Key × V) (e : ME) : Prop := kv.1 = mk e.1 ∧ ∃ (la : Addr) (as : List Addr), kv.2 = .ref la ∧ H la = some (.lst (as.map V.ref)) ∧ ChsAt H as e.2
def MsAt (H : Hp) (m : Addr) (l : List ME) : Prop := ∃ kvs, H m = some (.dT kvs) ∧ Paired (MvAt H) kvs l
/-- what may change: what is no tuple, no list, no state -/
def prt : HO → Bool
  | .tup _ => false
  | .lst _ => false
  | .ins _ _ fs => fs.length != 1
  | _ => true
def Fx (H H' : Hp) : Prop := ∀ b o, H b = some o → prt o = false → H' b = some o
theorem Fx.tups {H H' : Hp} (f : Fx H H') : Tups H H' := fun b xs e => f b _ e rfl
theorem Fx.refl (H : Hp) : Fx H H := fun _ _ e _ => e
theorem Fx.trans {H H1 H2 : Hp} (a : Fx H H1) (b : Fx H1 H2) : Fx H H2 := fun c o e p => b c o (a c o e p) p
theorem Fx.of {H H' : Hp} (s : Same H H') : Fx H H' := fun b o e _ => s b o e
theorem Kp.fix {S : List Addr} {H H' : Hp} (k : Kp S H H') (h : ∀ b ∈ S, ∀ o, H b = some o → prt o = true) : Fx H H' := fun b o e p => k b o e fun m => by
  rw [h b m o e] at p
  cases p
theorem MvAt.mono {H H' : Hp} {kv : List Key × V} {e : ME} (f : Fx H H') (h : MvAt H kv e) : MvAt H' kv e := by
  obtain ⟨h0, la, as, h1, h2, h3⟩ := h
  exact ⟨h0, la, as, h1, f _ _ h2 rfl, h3.mono f.tups⟩
theorem MsAt.mono {H H' : Hp} {m : Addr} {l : List ME} (f : Fx H H') (hm : ∀ o, H m = some o → H' m = some o) (h : MsAt H m l) : MsAt H' m l := by
  obtain ⟨kvs, h1, h2⟩ := h
  exact ⟨kvs, hm _ h1, Paired.mapP h2 fun _ _ z => z.mono f⟩
theorem getM_cons (e : ME) (l : List ME) (k : MK) : getM (e :: l) k = if e.1 = k then some e.2 else getM l k := by
  unfold getM
  rw [List.find?_cons]
  by_cases q : e.1 = k
  · rw [decide_eq_true q, if_pos q]
    rfl
  · rw [decide_eq_false q, if_neg q]
theorem mv_get {H : Hp} {k : MK} : ∀ {kvs : List (List Key × V)} {l : List ME}, Paired (MvAt H) kvs l →
    (valV kvs (mk k) = none ∧ getM l k = none) ∨ ∃ la as cs, valV kvs (mk k) = some (.ref la) ∧ getM l k = some cs ∧ H la = some (.lst (as.map V.ref)) ∧ ChsAt H as cs
  | _, _, .nil => .inl ⟨rfl, rfl⟩
  | kv :: xs, e :: ys, .cons r t => by
    obtain ⟨h0, la, as, h1, h2, h3⟩ := r
    rw [getM_cons]
    by_cases q : e.1 = k
    · refine .inr ⟨la, as, e.2, ?_, if_pos q, h2, h3⟩
      rw [valV_pos (by rw [h0, q]), h1]
    · rw [valV_neg (fun z => q (mk_inj (h0.symm.trans z))), if_neg q]
      exact mv_get t
theorem mv_put {H : Hp} {k : MK} {y : V} {cs : List Ch} {kvs : List (List Key × V)} {l : List ME} (h : Paired (MvAt H) kvs l) (n : getM l k = none) (c : MvAt H (mk k, y) (k, cs)) : Paired (MvAt H) (putK kvs (mk k) y) (l ++ [(k, cs)]) := by
  rcases mv_get (k := k) h with ⟨e, _⟩ | ⟨_, _, _, _, e, _⟩
  · rw [putK_new _ e]
    exact paired_snoc h c
  · rw [n] at e
    cases e
/-! ### replicas -/
def rpF (pr ck md : Int) (st ro pe m : Addr) : List (Str × V) := [("peer", .int pr), ("clock", .int ck), ("made", .int md), ("state", .ref st), ("roots", .ref ro), ("pending", .ref pe), ("messages", .ref m)]
def rp3 (pr md : Int) : List (Str × V) := [("peer", .int pr), ("clock", .int 0), ("made", .int md)]
def rp4 (pr md : Int) (st : Addr) : List (Str × V) := [("peer", .int pr), ("clock", .int 0), ("made", .int md), ("state", .ref st)]
structure RpAt (P : Program) (w : World) (K : PySem.W.Frag) (H : Hp) (p d m : Addr) (pr : Int) (l : List CE) (M : List ME) : Prop where
  ins : ∃ dx ck md st ro pe, H p = some (.ins (He.ga K "Replica") dx (rpF pr ck md st ro pe m)) ∧ StAt K H st d
  cl : ClAt P w H d l
  ms : MsAt H m M
theorem celO_prt {P : Program} {w : World} {H : Hp} {d : Addr} {l : List CE} (h : ClAt P w H d l) : ∃ o, H d = some o ∧ prt o = true ∧ ∀ C dx fs, o ≠ .ins C dx fs := by
  obtain ⟨kvs, ⟨xs, _, h | ⟨_, h⟩⟩, _⟩ := h
  · exact ⟨_, h, rfl, fun _ _ _ e => nomatch e⟩
  · exact ⟨_, h, rfl, fun _ _ _ e => nomatch e⟩
section
variable {P : Program} {w : World} {K : PySem.W.Frag} {H H' : Hp} {p d m : Addr} {pr : Int} {l : List CE} {M : List ME}
theorem RpAt.prts (h : RpAt P w K H p d m pr l M) : ∀ b ∈ [p, d, m], ∀ o, H b = some o → prt o = true := by
  intro b hb o e
  rcases List.mem_cons.mp hb with rfl | hb
  · obtain ⟨dx, ck, md, st, ro, pe, h1, _⟩ := h.ins
    rw [h1] at e
    cases e
    rfl
  rcases List.mem_cons.mp hb with rfl | hb
  · obtain ⟨o1, h1, h2, _⟩ := celO_prt h.cl
    rw [h1] at e
    cases e
    exact h2
  · obtain ⟨kvs, h1, _⟩ := h.ms
    rw [List.mem_singleton.mp hb, h1] at e
    cases e
    rfl
theorem RpAt.kp {S : List Addr} (h : RpAt P w K H p d m pr l M) (k : Kp S H H') (n : ∀ b ∈ [p, d, m], b ∉ S) (hS : ∀ b ∈ S, ∀ o, H b = some o → prt o = true) : RpAt P w K H' p d m pr l M := by
  obtain ⟨⟨dx, ck, md, st, ro, pe, h1, dx2, h2⟩, hc, hm⟩ := h
  have f := k.fix hS
  exact ⟨⟨dx, ck, md, st, ro, pe, k _ _ h1 (n _ (.head _)), dx2, f _ _ h2 rfl⟩, hc.mono f.tups fun o e => k _ _ e (n _ (.tail _ (.head _))), hm.mono f fun o e => k _ _ e (n _ (.tail _ (.tail _ (.head _))))⟩
theorem RpAt.same (h : RpAt P w K H p d m pr l M) (s : Same H H') : RpAt P w K H' p d m pr l M := h.kp (S := []) (Kp.of s) (fun _ _ z => nomatch z) (fun _ z => nomatch z)
theorem RpAt.there (h : RpAt P w K H p d m pr l M) : ∀ b ∈ [p, d, m], H b ≠ none := by
  intro b hb e
  rcases List.mem_cons.mp hb with rfl | hb
  · obtain ⟨dx, ck, md, st, ro, pe, h1, _⟩ := h.ins
    rw [h1] at e
    cases e
  rcases List.mem_cons.mp hb with rfl | hb
  · obtain ⟨o1, h1, _⟩ := celO_prt h.cl
    rw [h1] at e
    cases e
  · obtain ⟨kvs, h1, _⟩ := h.ms
    rw [List.mem_singleton.mp hb, h1] at e
    cases e
end
/-! ### the contracts -/
def spRpInit (P : Program) (w : World) (K : PySem.W.Frag) : Sp := fun vs H Q _ => ∃ (x dx : Addr) (pr : Int), vs = [.ref x, .int pr] ∧ H x = some (.ins (He.ga K "Replica") dx []) ∧ (0 ≤ pr ∧ pr < 8) ∧
  ∀ d m H', H d = none → H m = none → d ≠ m → Kp [x] H H' → RpAt P w K H' x d m pr [] [] → Q .non H'
def spAccept (P : Program) (w : World) (K : PySem.W.Frag) : Sp := fun vs H Q _ => ∃ (p d m la : Addr) (pr s n : Int) (l : List CE) (M : List ME) (as : List Addr) (cs : List Ch), vs = [.ref p, .int s, .int n, .ref la] ∧ RpAt P w K H p d m pr l M ∧ d ≠ m ∧ getM M (s, n) = none ∧
  H la = some (.lst (as.map V.ref)) ∧ ChsAt H as cs ∧ M.length ≤ 500 ∧ l.length + cs.length ≤ 1000 ∧ ∀ H', Kp [p, d, m] H H' → RpAt P w K H' p d m pr (cs.foldl stepC l) (M ++ [((s, n), cs)]) → Q (.bl true) H'
def spCopy (P : Program) (w : World) (K : PySem.W.Frag) : Sp := fun vs H Q _ => ∃ (p d m : Addr) (pr s n : Int) (l : List CE) (M : List ME) (cs : List Ch), vs = [.ref p, .int s, .int n] ∧ RpAt P w K H p d m pr l M ∧ getM M (s, n) = some cs ∧ (∀ c ∈ cs, okC c) ∧ cs.length ≤ 1000 ∧
  rNewL H Q ((msgO s n cs).map V.int)
def spRecv (P : Program) (w : World) (K : PySem.W.Frag) : Sp := fun vs H Q _ => ∃ (p d m oa : Addr) (pr s n : Int) (l : List CE) (M : List ME) (cs : List Ch), vs = [.ref p, .ref oa] ∧ RpAt P w K H p d m pr l M ∧ d ≠ m ∧ getM M (s, n) = none ∧
  H oa = some (.lst ((msgO s n cs).map V.int)) ∧ (0 ≤ s ∧ s < 8) ∧ (0 ≤ n ∧ n ≤ 4294967295) ∧ (∀ c ∈ cs, okC c) ∧ M.length ≤ 500 ∧ l.length + cs.length ≤ 1000 ∧ ∀ H', Kp [p, d, m] H H' → RpAt P w K H' p d m pr (cs.foldl stepC l) (M ++ [((s, n), cs)]) → Q (.bl true) H'
section
variable {P : Program} {w : World} {K : PySem.W.Frag} {mg : Str → Option Value} {base : Heap}
theorem scReplicaInit : FnScope ["self", "peer"] ["self", "peer"] (defScope sReplicaInit) := ⟨rfl, rfl, rfl, by decide +kernel, rfl, by decide +kernel, by decide +kernel⟩
theorem k_Replica (T : Tx K mg) : C8.Mak P w K mg base 3 "Replica" (He.ga K "Replica") (spRpInit P w K) [] := by
  have k_State : C8.Mak P w K mg base 1 "State" (He.ga K "State") (spSInit K) [] := k_State T
  refine makOf T.m_Replica T.g_Replica T.d_Replica___init__ scReplicaInit (fun _ F => F.binds fun _ _ _ _ _ _ us hl => match us, hl with | [_, _], _ => rfl) (fun vs H Q E h => ?_) (fun cdv A outer s H vs Q E hr h => ?_)
  · obtain ⟨x, dx, pr, rfl, _⟩ := h
    rfl
  · obtain ⟨x, dx, pr, rfl, hx, hp, q⟩ := h
    refine ⟨_, (pss_cons (ps_if (pt_not (pt_chain op_le op_lt pe_int (pv 1) (C8.pe_gc rfl T.i_PEERS))) (pss_one ps_never) pss_nil)
      (pss_cons (ps_fld (pv 0) (pv 1) rfl)
      (pss_cons (ps_fld (pv 0) pe_int rfl)
      (pss_cons (ps_fld (pv 0) (pe_callTy call_int1 (by rfl) T.n_int (by decide +kernel) (pa_cons (pe_cmpR op_eq (pv 1) pe_int (nomark _)) pa_nil)) rfl)
      (pss_cons (ps_fld (pv 0) (pe_mk0 k_State hr (by decide) rfl) rfl)
      (pss_cons (ps_fld (pv 0) (pe_lst (pa_cons (pe_glob (v := .ref (He.ga K "ROOT")) rfl T.g_ROOT rfl) pa_nil)) rfl)
      (pss_cons (ps_fld (pv 0) (pe_lst pa_nil) rfl)
      (pss_one (ps_fld (pv 0) pe_dnewT rfl))))))))), ?_⟩
    refine ⟨_, rfl, _, _, rfl, rfl, true, bT hp.1, iteT ⟨_, _, rfl, rfl, true, bT hp.2, iteF ?_⟩⟩
    refine ⟨_, rfl, _, rfl, x, _, dx, _, rfl, hx, T.c_Replica, T.a_Replica_peer, (show 0 < 1000 by decide), ?_⟩
    refine ⟨_, rfl, x, _, dx, _, rfl, upd_same, T.c_Replica, T.a_Replica_clock, (show 1 < 1000 by decide), ?_⟩
    refine ⟨_, rfl, rfl, .inr ⟨_, rfl, _, rfl, x, _, dx, _, rfl, upd_same, T.c_Replica, T.a_Replica_made, (show 2 < 1000 by decide), ?_⟩⟩
    rw [upd_upd, upd_upd]
    generalize hfs : putF ("made" : Str) _ _ = fs3
    have efs : ∃ md : Int, fs3 = rp3 pr md := ⟨_, hfs.symm⟩
    obtain ⟨md, rfl⟩ := efs
    clear hfs
    refine fun st dxs hst hdxs hne => ?_
    have kx : Kp [x] H (upd H x (.ins (He.ga K "Replica") dx (rp3 pr md))) := Kp.put (.head _)
    have hx3 : upd H x (.ins (He.ga K "Replica") dx (rp3 pr md)) x = _ := upd_same
    generalize upd H x (.ins (He.ga K "Replica") dx (rp3 pr md)) = H3 at *
    have fr : ∀ {b}, H3 b = none → H b = none := fun {b} h => kx.free h (by
      rw [List.mem_singleton]
      rintro rfl
      rw [hx3] at h
      cases h)
    have s3 : Same H3 (upd (upd H3 dxs (.own st)) st (.ins (He.ga K "State") dxs [])) := (Same.new hdxs).trans (Same.new (by rw [upd_ne hne.symm]; exact hst))
    have hxst : x ≠ st := ne_of_none hx3 hst
    refine ⟨st, dxs, rfl, upd_same, fun d H4 hd k4 hs4 hd4 => ⟨rfl, ?_⟩⟩
    have s4 : Same H3 H4 := fun b o e => k4 b o (s3 b o e) (by
      rw [List.mem_singleton]
      exact ne_of_none e hst)
    have hd3 : H3 d = none := s3.free hd
    refine ⟨_, rfl, x, _, dx, _, rfl, s4 _ _ hx3, T.c_Replica, T.a_Replica_state, (show 3 < 1000 by decide), ?_⟩
    obtain ⟨dx4, hs4⟩ := hs4
    have hxd : x ≠ d := ne_of_none hx3 hd3
    have hsn : st ≠ d := by
      rintro rfl
      rw [upd_same] at hd
      cases hd
    have k5 : Kp [x] H4 (upd H4 x (.ins (He.ga K "Replica") dx (rp4 pr md st))) := Kp.put (.head _)
    have hx5 : upd H4 x (.ins (He.ga K "Replica") dx (rp4 pr md st)) x = _ := upd_same
    refine ⟨(show 1 ≤ sizeLine by decide), fun r hr => ⟨_, rfl, x, _, dx, _, rfl, Same.new hr _ _ upd_same, T.c_Replica, T.a_Replica_roots, (show 4 < 1000 by decide), ?_⟩⟩
    refine ⟨(show 0 ≤ sizeLine by decide), fun r2 hr2 => ⟨_, rfl, x, _, dx, _, rfl, Same.new hr2 _ _ upd_same, T.c_Replica, T.a_Replica_pending, (show 5 < 1000 by decide), ?_⟩⟩
    refine fun m hm => ⟨_, rfl, x, _, dx, _, rfl, Same.new hm _ _ upd_same, T.c_Replica, T.a_Replica_messages, (show 6 < 1000 by decide), ?_⟩
    have k46 := (((k5.trans (Kp.new hr)).trans (Kp.put (S := [x]) (.head _))).trans (Kp.new (o := .lst []) hr2)).trans (Kp.put (S := [x]) (p := x) (o := .ins (He.ga K "Replica") dx (putF "pending" (.ref r2) (putF "roots" (.ref r) (putF "state" (.ref st) (rp3 pr md))))) (.head _))
    have nx : ∀ {b}, b ≠ x → b ∉ [x] := fun h z => h (List.mem_singleton.mp z)
    have k47 := (k46.trans (Kp.new (o := .dT []) hm)).trans (Kp.put (S := [x]) (p := x) (o := .ins (He.ga K "Replica") dx (putF "messages" (.ref m) (putF "pending" (.ref r2) (putF "roots" (.ref r) (putF "state" (.ref st) (rp3 pr md)))))) (.head _))
    have hdm : d ≠ m := ne_of_none (k46 _ _ hd4 (nx hxd.symm)) hm
    have hmx : m ≠ x := by
      rintro rfl
      rw [upd_same] at hm
      cases hm
    have hm4 : H4 m = none := k46.free hm (nx hmx)
    refine q d m _ (fr hd3) (fr (s4.free hm4)) hdm ((kx.trans (Kp.of s4)).trans k47) ⟨⟨dx, _, _, st, _, _, upd_same, dx4, k47 _ _ hs4 (nx hxst.symm)⟩, ⟨[], CelAt.new (k47 _ _ hd4 (nx hxd.symm)), .nil⟩, ⟨[], by rw [upd_ne hmx, upd_same], .nil⟩⟩
theorem scReplicaCopyOf : FnScope ["self", "sender", "number"] ["self", "sender", "number"] (defScope sReplicaCopyOf) := ⟨rfl, rfl, rfl, by decide +kernel, rfl, by decide +kernel, by decide +kernel⟩
theorem k_Replica_copy_of (T : Tx K mg) : C8.Met P w K mg base 6 (He.ga K "Replica") "copy_of" (spCopy P w K) [] := by
  have k_message_octets : C8.Cal P w K mg base 5 "message_octets" spMsg [] := k_message_octets T
  refine metOf T.c_Replica T.e_Replica_copy_of T.d_Replica_copy_of scReplicaCopyOf (fun _ F => F.binds fun _ _ _ _ _ _ us hl => match us, hl with | [_, _, _], _ => rfl) (fun vs H Q E h => ?_) (fun cdv A outer s H vs Q E hr h => ?_)
  · obtain ⟨p, d, m, pr, s, n, l, M, cs, rfl, _⟩ := h
    rfl
  · obtain ⟨p, d, m, pr, sd, n, l, M, cs, rfl, hR, hg, ok, hz, q⟩ := h
    have hu := hu_of hr
    refine ⟨_, (pss_cons (ps_if (pt_cmp (pc_dnotin hu (pe_tup (pa_cons (pv 1) (pa_cons (pv 2) pa_nil))) (pe_fld (pv 0) rfl))) (pss_one ps_never) pss_nil)
      (pss_one (ps_ret (C8.pe_c k_message_octets hr (by decide) rfl (pa_cons (pv 1) (pa_cons (pv 2) (pa_cons (pe_dget hu (pe_fld (pv 0) rfl) (pe_tup (pa_cons (pv 1) (pa_cons (pv 2) pa_nil))) (fun _ _ => rfl)) pa_nil))))))), ?_⟩
    obtain ⟨⟨dx, ck, md, st, ro, pe, hp, hs⟩, hc, kvs, hm, hM⟩ := hR
    rcases mv_get (k := (sd, n)) hM with ⟨e1, e2⟩ | ⟨la, as, cs', e1, e2, hla, has⟩
    · rw [hg] at e2
      cases e2
    · rw [hg] at e2
      cases e2
      refine ⟨_, rfl, _, rfl, (show 2 ≤ sizeLine by decide), fun b hb => ?_⟩
      have sb := Same.new (o := .tup [V.int sd, V.int n]) hb
      refine ⟨_, rfl, p, _, dx, _, _, rfl, sb _ _ hp, T.c_Replica, T.a_Replica_messages, rfl, m, some (.ref la), rfl, ?_, false, rfl, iteF ?_⟩
      · rw [← e1]
        exact DGet.t (k := mk (sd, n)) (sb _ _ hm) upd_same
      refine ⟨_, rfl, _, rfl, _, rfl, p, _, dx, _, _, rfl, sb _ _ hp, T.c_Replica, T.a_Replica_messages, rfl, _, rfl, _, rfl, (show 2 ≤ sizeLine by decide), fun b2 hb2 => ?_⟩
      have sc := sb.trans (Same.new (o := .tup [V.int sd, V.int n]) hb2)
      refine ⟨m, _, rfl, ?_, sd, n, la, as, cs, rfl, sc _ _ hla, has.mono (Same.tups sc), ok, hz, fun r H' hr0 s1 h1 => ?_⟩
      · rw [← e1]
        exact DGet.t (k := mk (sd, n)) (sc _ _ hm) upd_same
      exact q r H' (sc.free hr0) (sc.trans s1) h1
theorem scReplicaAccept : FnScope ["self", "sender", "number", "changes", "change"] ["self", "sender", "number", "changes"] (defScope sReplicaAccept) := ⟨rfl, rfl, rfl, by decide +kernel, rfl, by decide +kernel, by decide +kernel⟩
theorem k_Replica_accept (T : Tx K mg) : C8.Met P w K mg base 3 (He.ga K "Replica") "accept" (spAccept P w K) [] := by
  have k_State_take : C8.Met P w K mg base 2 (He.ga K "State") "take" (spTake P w K) [] := k_State_take T
  refine metOf T.c_Replica T.e_Replica_accept T.d_Replica_accept scReplicaAccept (fun _ F => F.binds fun _ _ _ _ _ _ us hl => match us, hl with | [_, _, _, _], _ => rfl) (fun vs H Q E h => ?_) (fun cdv A outer s H vs Q E hr h => ?_)
  · obtain ⟨p, d, m, la, pr, s, n, l, M, as, cs, rfl, _⟩ := h
    rfl
  · obtain ⟨p, d, m, la, pr, sd, n, l, M, as, cs, rfl, hR, hdm, hg, hla, has, hz1, hz2, q⟩ := h
    have hu := hu_of hr
    refine ⟨_, (pss_cons (ps_if (pt_cmp (pc_din hu (pe_tup (pa_cons (pv 1) (pa_cons (pv 2) pa_nil))) (pe_fld (pv 0) rfl))) (pss_one (ps_ret pe_bl)) pss_nil)
      (pss_cons (ps_dput hu (pe_fld (pv 0) rfl) (pe_tup (pa_cons (pv 1) (pa_cons (pv 2) pa_nil))) (pe_callTy call_list_of (by rfl) T.n_list (by decide +kernel) (pa_cons (pv 3) pa_nil)) rfl)
      (pss_cons (ps_for PassesOwn.never rfl (pi_list (pv 3)) (pg_name (i := 4) scReplicaAccept.nd rfl (Or.inl rfl))
      (pss_cons (ps_expr (C8.pe_mt k_State_take hr (by decide) (pe_fld (pv 0) rfl) (pa_cons (pv 4) pa_nil)))
      (pss_cons (ps_fld (pv 0) (pe_callB (call_max2 rfl) (by rfl) T.n_max (by decide +kernel) (pa_cons (pe_fld (pv 0) rfl) (pa_cons (pe_ix ix_tup (pe_ix ix_tup (pv 4) pe_int (fun _ _ => rfl)) pe_int (fun _ _ => rfl)) pa_nil))) rfl)
      (pss_one (ps_if (pt_cmpR op_eq (pe_ix ix_tup (pe_ix ix_tup (pv 4) pe_int (fun _ _ => rfl)) pe_int (fun _ _ => rfl)) (pe_fld (pv 0) rfl) (nomark _)) (pss_one (ps_fld (pv 0) (pe_callB (call_max2 rfl) (by rfl) T.n_max (by decide +kernel) (pa_cons (pe_fld (pv 0) rfl) (pa_cons (pe_op op_add (pe_ix ix_tup (pe_ix ix_tup (pv 4) pe_int (fun _ _ => rfl)) pe_int (fun _ _ => rfl)) pe_int) pa_nil))) rfl)) pss_nil)))))
      (pss_one (ps_ret pe_bl))))), ?_⟩
    have hprt := hR.prts
    obtain ⟨⟨dx, ck, md, st, ro, pe, hp, hs⟩, hc, kvs, hm, hM⟩ := hR
    have e1 : valV kvs (mk (sd, n)) = none := by
      rcases mv_get (k := (sd, n)) hM with ⟨e, _⟩ | ⟨_, _, _, _, e, _⟩
      · exact e
      · rw [hg] at e
        cases e
    refine ⟨_, rfl, _, rfl, (show 2 ≤ sizeLine by decide), fun b hb => ?_⟩
    have sb := Same.new (o := .tup [V.int sd, V.int n]) hb
    refine ⟨_, rfl, p, _, dx, _, _, rfl, sb _ _ hp, T.c_Replica, T.a_Replica_messages, rfl, m, none, rfl, ?_, false, rfl, iteF ?_⟩
    · rw [← e1]
      exact DGet.t (k := mk (sd, n)) (sb _ _ hm) upd_same
    refine ⟨_, rfl, la, _, rfl, .inl (SqL.of (sb _ _ hla)), fun lc hlc => ?_⟩
    have sc := sb.trans (Same.new (o := .lst (as.map V.ref)) hlc)
    refine ⟨_, rfl, p, _, dx, _, _, rfl, sc _ _ hp, T.c_Replica, T.a_Replica_messages, rfl, _, rfl, _, rfl, (show 2 ≤ sizeLine by decide), fun b2 hb2 => ?_⟩
    have se := sc.trans (Same.new (o := .tup [V.int sd, V.int n]) hb2)
    refine ⟨m, _, rfl, DPut.t (k := mk (sd, n)) (se _ _ hm) upd_same (by rw [hM.length]; exact Nat.lt_of_le_of_lt hz1 (by decide)), ?_⟩
    have k2 := (Kp.of (S := [p, d, m]) se).trans (Kp.put (p := m) (o := .dT (putK kvs (mk (sd, n)) (.ref lc))) (.tail _ (.tail _ (.head _))))
    have hpm : p ≠ m := by
      rintro rfl
      rw [hp] at hm
      cases hm
    have hpd : p ≠ d := by
      rintro rfl
      obtain ⟨o, h1, _, h3⟩ := celO_prt hc
      rw [hp] at h1
      cases h1
      exact h3 _ _ _ rfl
    have f2 := k2.fix hprt
    have hM2 : MsAt (upd (upd (upd (upd H b (.tup [V.int sd, V.int n])) lc (.lst (as.map V.ref))) b2 (.tup [V.int sd, V.int n])) m (.dT (putK kvs (mk (sd, n)) (.ref lc)))) m (M ++ [((sd, n), cs)]) := by
      refine ⟨_, upd_same, mv_put (Paired.mapP hM fun _ _ z => z.mono f2) hg ⟨rfl, lc, as, rfl, ?_, has.mono f2.tups⟩⟩
      rw [upd_ne (ne_of_none (sb _ _ hm) hlc).symm]
      exact Same.new hb2 _ _ upd_same
    obtain ⟨dxs, hs⟩ := hs
    have hla2 := f2 _ _ hla rfl
    have has2 := has.mono f2.tups
    have hs2 := f2 _ _ hs rfl
    have hp2 : (upd (upd (upd (upd H b (.tup [V.int sd, V.int n])) lc (.lst (as.map V.ref))) b2 (.tup [V.int sd, V.int n])) m (.dT (putK kvs (mk (sd, n)) (.ref lc)))) p = some (.ins (He.ga K "Replica") dx (rpF pr ck md st ro pe m)) := by
      rw [upd_ne hpm]
      exact se _ _ hp
    have hc2 := hc.mono (H' := upd (upd (upd (upd H b (.tup [V.int sd, V.int n])) lc (.lst (as.map V.ref))) b2 (.tup [V.int sd, V.int n])) m (.dT (putK kvs (mk (sd, n)) (.ref lc)))) f2.tups (fun o e => by
      rw [upd_ne hdm]
      exact se _ _ e)
    generalize upd (upd (upd (upd H b (.tup [V.int sd, V.int n])) lc (.lst (as.map V.ref))) b2 (.tup [V.int sd, V.int n])) m (.dT (putK kvs (mk (sd, n)) (.ref lc))) = H2 at *
    have hprt2 : ∀ z ∈ [p, d], ∀ o, H2 z = some o → prt o = true := by
      intro z hz o e
      rcases List.mem_cons.mp hz with rfl | hz
      · rw [hp2] at e
        cases e
        rfl
      · obtain ⟨o1, h1, h2, _⟩ := celO_prt hc2
        rw [List.mem_singleton.mp hz, h1] at e
        cases e
        exact h2
    have hal : as.length = cs.length := has.length
    refine ⟨_, rfl, la, rfl, ⟨_, SqL.of hla2⟩, for_list (K := K) (a := la) (xs := as.map V.ref)
      (fun i σ H' => ∃ v, σ = [some (.ref p), some (.int sd), some (.int n), some (.ref la), v] ∧ Kp [p, d] H2 H' ∧ (∃ ck md, H' p = some (.ins (He.ga K "Replica") dx (rpF pr ck md st ro pe m))) ∧ ClAt P w H' d ((cs.take i).foldl stepC l))
      ⟨none, rfl, .refl _ _, ⟨_, _, hp2⟩, hc2⟩ (fun i σ H' _ h => ?_) ?_ ?_⟩
    · obtain ⟨_, _, k, _⟩ := h
      exact SqL.of ((k.fix hprt2) _ _ hla2 rfl)
    · rintro i y σ H' hi ⟨v, rfl, k, ⟨ck1, md1, hp3⟩, hc3⟩
      rw [List.getElem?_map] at hi
      cases e : as[i]? with
      | none =>
        rw [e] at hi
        cases hi
      | some z =>
        rw [e] at hi
        obtain rfl : V.ref z = y := Option.some.inj hi
        have f3 := k.fix hprt2
        have hs3 := f3 _ _ hs2 rfl
        obtain ⟨c, hc1, hch⟩ := paired_get' has2 i z e
        have hch3 := hch.mono f3.tups
        obtain ⟨sa, na, wv, g1, g2, g3, g4⟩ := hch
        have hi2 : i < cs.length := (List.getElem?_eq_some_iff.mp hc1).1
        have hlen := cells_len (cs.take i) l
        have htl : (cs.take i).length ≤ cs.length := List.length_take_le' _ _
        refine ⟨_, rfl, p, _, dx, _, _, rfl, hp3, T.c_Replica, T.a_Replica_state, rfl, st, dxs, _, rfl, hs3, rfl, _, rfl, ?_⟩
        refine ⟨st, z, d, _, c, rfl, ⟨dxs, hs3⟩, hc3, hch3, by omega, fun v3 H3 k3 hc4 => ?_⟩
        have k4 : Kp [p, d] H2 H3 := k.trans (k3.mono fun x m => by rw [List.mem_singleton.mp m]; exact .tail _ (.head _))
        have f4 := k4.fix hprt2
        have hp4 := k3 _ _ hp3 (by simpa using hpd)
        have q1 := f4.tups _ _ g1
        have q2 := f4.tups _ _ g2
        have q3 := f4.tups _ _ g3
        refine ⟨_, rfl, p, _, dx, _, _, rfl, hp4, T.c_Replica, T.a_Replica_clock, rfl, _, rfl, z, _, _, _, rfl, rfl, sqT_of q1, atI_nat (j := 0) rfl, sa, _, _, _, rfl, rfl, sqT_of q2, atI_nat (j := 0) rfl, _, _, rfl, _, rfl, p, _, dx, _, rfl, hp4, T.c_Replica, T.a_Replica_clock, (show 7 < 1000 by decide), ?_⟩
        generalize hck : (if c.ck > ck1 then c.ck else ck1) = ck5
        have k5 : Kp [p, d] H2 (upd H3 p (.ins (He.ga K "Replica") dx (rpF pr ck5 md1 st ro pe m))) := k4.trans (Kp.put (.head _))
        have f5 := k5.fix hprt2
        have r1 := f5.tups _ _ g1
        have r3 := f5.tups _ _ g3
        have hc5 : ClAt P w (upd H3 p (.ins (He.ga K "Replica") dx (rpF pr ck5 md1 st ro pe m))) d ((cs.take (i + 1)).foldl stepC l) := by
          rw [take_next hc1, List.foldl_append]
          refine hc4.mono ((Kp.put (S := [p]) (.head _)).tups fun x hx o e => ?_) fun o e => ?_
          · rw [List.mem_singleton.mp hx, hp4] at e
            cases e
            rfl
          · rw [upd_ne hpd.symm]
            exact e
        have hp5 : upd H3 p (.ins (He.ga K "Replica") dx (rpF pr ck5 md1 st ro pe m)) p = _ := upd_same
        have epf : putF ("clock" : Str) (.int ck5) (rpF pr ck1 md1 st ro pe m) = rpF pr ck5 md1 st ro pe m := rfl
        rw [epf]
        generalize upd H3 p (.ins (He.ga K "Replica") dx (rpF pr ck5 md1 st ro pe m)) = H5 at *
        refine ⟨_, rfl, z, _, _, _, rfl, rfl, sqT_of r1, atI_nat (j := 1) rfl, na, _, _, _, rfl, rfl, sqT_of r3, atI_nat (j := 0) rfl, _, rfl, p, _, dx, _, _, rfl, hp5, T.c_Replica, T.a_Replica_peer, rfl, rfl, _, rfl, iteB _ (fun _ => ?_) fun _ => ?_⟩
        · refine ⟨_, rfl, p, _, dx, _, _, rfl, hp5, T.c_Replica, T.a_Replica_made, rfl, _, rfl, z, _, _, _, rfl, rfl, sqT_of r1, atI_nat (j := 1) rfl, na, _, _, _, rfl, rfl, sqT_of r3, atI_nat (j := 1) rfl, _, _, rfl, rfl, _, _, rfl, _, rfl, p, _, dx, _, rfl, hp5, T.c_Replica, T.a_Replica_made, (show 7 < 1000 by decide), ?_⟩
          refine ⟨some (.ref z), rfl, k5.trans (Kp.put (.head _)), ⟨ck5, _, upd_same⟩, ?_⟩
          refine hc5.mono ((Kp.put (S := [p]) (.head _)).tups fun x hx o e => ?_) fun o e => ?_
          · rw [List.mem_singleton.mp hx, hp5] at e
            cases e
            rfl
          · rw [upd_ne hpd.symm]
            exact e
        · exact ⟨some (.ref z), rfl, k5, ⟨ck5, md1, hp5⟩, hc5⟩
    · rintro σ H' ⟨v, rfl, k, ⟨ck1, md1, hp3⟩, hc3⟩
      rw [List.length_map, hal, List.take_length] at hc3
      have f3 := k.fix hprt2
      refine q H' (k2.trans (k.mono fun x hx => ?_)) ⟨⟨dx, ck1, md1, st, ro, pe, hp3, dxs, f3 _ _ hs2 rfl⟩, hc3, hM2.mono f3 fun o e => k _ _ e ?_⟩
      · rcases List.mem_cons.mp hx with rfl | hx
        · exact .head _
        · rw [List.mem_singleton.mp hx]
          exact .tail _ (.head _)
      · simp [hpm.symm, hdm.symm]
theorem scReplicaReceive : FnScope ["self", "octets", "sender", "number", "changes"] ["self", "octets"] (defScope sReplicaReceive) := ⟨rfl, rfl, rfl, by decide +kernel, rfl, by decide +kernel, by decide +kernel⟩
theorem k_Replica_receive (T : Tx K mg) : C8.Met P w K mg base 7 (He.ga K "Replica") "receive" (spRecv P w K) [] := by
  have k_Replica_accept : C8.Met P w K mg base 3 (He.ga K "Replica") "accept" (spAccept P w K) [] := k_Replica_accept T
  have k_read_message : C8.Cal P w K mg base 6 "read_message" spRead [] := k_read_message T
  refine metOf T.c_Replica T.e_Replica_receive T.d_Replica_receive scReplicaReceive (fun _ F => F.binds fun _ _ _ _ _ _ us hl => match us, hl with | [_, _], _ => rfl) (fun vs H Q E h => ?_) (fun cdv A outer s H vs Q E hr h => ?_)
  · obtain ⟨p, d, m, oa, pr, s, n, l, M, cs, rfl, _⟩ := h
    rfl
  · obtain ⟨p, d, m, oa, pr, sd, n, l, M, cs, rfl, hR, hdm, hg, hoa, hs, hn, ok, hz1, hz2, q⟩ := h
    refine ⟨_, (pss_cons (ps_asg (C8.pe_c k_read_message hr (by decide) rfl (pa_cons (pv 1) pa_nil)) (pg_tup rfl (pgs_cons (pg_name (i := 2) scReplicaReceive.nd rfl (Or.inl rfl)) (pgs_cons (pg_name (i := 3) scReplicaReceive.nd rfl (Or.inl rfl)) (pgs_cons (pg_name (i := 4) scReplicaReceive.nd rfl (Or.inl rfl)) pgs_nil)))))
      (pss_one (ps_ret (C8.pe_mt k_Replica_accept hr (by decide) (pv 0) (pa_cons (pv 2) (pa_cons (pv 3) (pa_cons (pv 4) pa_nil))))))), ?_⟩
    refine ⟨_, rfl, oa, sd, n, cs, rfl, hoa, hs, hn, ok, by omega, fun b la as H1 s1 hb hl h1 h2 h3 => ?_⟩
    refine ⟨b, _, rfl, sqT_of h1, rfl, _, _, rfl, _, _, rfl, _, _, rfl, rfl, ?_⟩
    have hR1 := hR.same s1
    obtain ⟨⟨dx, ck, md, st, ro, pe, hp, hst⟩, hc, hm⟩ := hR1
    refine ⟨_, rfl, p, dx, _, rfl, hp, rfl, _, rfl, _, rfl, _, rfl, ?_⟩
    exact ⟨p, d, m, la, pr, sd, n, l, M, as, cs, rfl, hR.same s1, hdm, hg, h2, h3, hz1, hz2, fun H' k hR2 => q H' ((Kp.of s1).trans k) hR2⟩
end
end Gt
set_option Elab.async false
set_option linter.all false
set_option maxRecDepth 100000
set_option maxHeartbeats 4000000
/-! Math 2: ascending lists, ranges. -/
namespace Gt
open PySem PySem.Spec PyProof.Rows L2
abbrev Srt (l : List Int) : Prop := l.Pairwise (· < ·)
theorem srt_ext : ∀ {l m : List Int}, Srt l → Srt m → (∀ k, k ∈ l ↔ k ∈ m) → l = m
  | [], [], _, _, _ => rfl
  | [], b :: m, _, _, h => absurd ((h b).mpr (.head _)) (fun z => nomatch z)
  | a :: l, [], _, _, h => absurd ((h a).mp (.head _)) (fun z => nomatch z)
  | a :: l, b :: m, hl, hm, h => by
    have hl' := List.pairwise_cons.mp hl
    have hm' := List.pairwise_cons.mp hm
    have e : a = b := by
      rcases List.mem_cons.mp ((h a).mp (.head _)) with e | e
      · exact e
      · rcases List.mem_cons.mp ((h b).mpr (.head _)) with e2 | e2
        · exact e2.symm
        · have := hm'.1 a e
          have := hl'.1 b e2
          omega
    subst e
    rw [srt_ext hl'.2 hm'.2 fun k => ⟨fun z => ?_, fun z => ?_⟩]
    · rcases List.mem_cons.mp ((h k).mp (.tail _ z)) with e | e
      · have := hl'.1 k z
        omega
      · exact e
    · rcases List.mem_cons.mp ((h k).mpr (.tail _ z)) with e | e
      · have := hm'.1 k z
        omega
      · exact e
def insU (x : Int) : List Int → List Int
  | [] => [x]
  | y :: r => if x < y then x :: y :: r else if x = y then y :: r else y :: insU x r
def sd (l : List Int) : List Int := l.foldr insU []
theorem mem_insU (x k : Int) : ∀ l : List Int, k ∈ insU x l ↔ k = x ∨ k ∈ l
  | [] => by simp [insU]
  | y :: r => by
    unfold insU
    split
    · simp
    · split
      · rename_i e
        subst e
        simp
      · rw [List.mem_cons, mem_insU x k r, List.mem_cons]
        constructor
        · rintro (h | h | h)
          · exact .inr (.inl h)
          · exact .inl h
          · exact .inr (.inr h)
        · rintro (h | h | h)
          · exact .inr (.inl h)
          · exact .inl h
          · exact .inr (.inr h)
theorem srt_insU (x : Int) : ∀ l : List Int, Srt l → Srt (insU x l)
  | [], _ => List.pairwise_singleton ..
  | y :: r, h => by
    have h' := List.pairwise_cons.mp h
    unfold insU
    split
    · rename_i c
      refine List.pairwise_cons.mpr ⟨fun z m => ?_, h⟩
      rcases List.mem_cons.mp m with rfl | m
      · exact c
      · have := h'.1 z m
        omega
    · split
      · exact h
      · refine List.pairwise_cons.mpr ⟨fun z m => ?_, srt_insU x r h'.2⟩
        rcases (mem_insU x z r).mp m with rfl | m
        · omega
        · exact h'.1 z m
theorem mem_sd (k : Int) : ∀ l : List Int, k ∈ sd l ↔ k ∈ l
  | [] => by simp [sd]
  | x :: l => by
    have e : sd (x :: l) = insU x (sd l) := rfl
    rw [e, mem_insU, mem_sd k l, List.mem_cons]
theorem srt_sd : ∀ l : List Int, Srt (sd l)
  | [] => .nil
  | x :: l => srt_insU x _ (srt_sd l)
theorem sd_of_srt {l : List Int} (h : Srt l) : sd l = l := srt_ext (srt_sd l) h fun k => mem_sd k l
theorem sd_len (l : List Int) : (sd l).length ≤ l.length := by
  induction l with
  | nil => exact Nat.le_refl _
  | cons x l ih =>
    have e : sd (x :: l) = insU x (sd l) := rfl
    have q : ∀ m : List Int, (insU x m).length ≤ m.length + 1 := by
      intro m
      induction m with
      | nil => exact Nat.le_refl _
      | cons y r ih2 =>
        unfold insU
        split
        · simp
        · split
          · simp
          · simp only [List.length_cons]
            omega
    have := q (sd l)
    rw [e, List.length_cons]
    omega
/-! ### ranges -/
def rgStep (acc : List (Int × Int)) (n : Int) : List (Int × Int) := match acc.getLast? with
  | some (a, b) => if b = n - 1 then acc.dropLast ++ [(a, n)] else acc ++ [(n, n)]
  | none => [(n, n)]
def rg (l : List Int) : List (Int × Int) := l.foldl rgStep []
def upto (r : Int × Int) : List Int := (List.range (r.2 + 1 - r.1).toNat).map fun i => r.1 + (i : Nat)
def ex (rs : List (Int × Int)) : List Int := rs.flatMap upto
theorem rgStep_nil (n : Int) : rgStep [] n = [(n, n)] := rfl
theorem rgStep_snoc (acc : List (Int × Int)) (a b n : Int) : rgStep (acc ++ [(a, b)]) n = if b = n - 1 then acc ++ [(a, n)] else acc ++ [(a, b)] ++ [(n, n)] := by
  unfold rgStep
  rw [List.getLast?_concat]
  show (if b = n - 1 then (acc ++ [(a, b)]).dropLast ++ [(a, n)] else _) = _
  rw [List.dropLast_concat]
theorem upto_one (n : Int) : upto (n, n) = [n] := by
  unfold upto
  rw [show (n + 1 - n).toNat = 1 by omega]
  simp
theorem upto_next {a b n : Int} (h : a ≤ b) (e : b = n - 1) : upto (a, n) = upto (a, b) ++ [n] := by
  unfold upto
  show (List.range (n + 1 - a).toNat).map (fun i => a + (i : Nat)) = (List.range (b + 1 - a).toNat).map (fun i => a + (i : Nat)) ++ [n]
  rw [show (n + 1 - a).toNat = (b + 1 - a).toNat + 1 by omega, List.range_succ, List.map_append, List.map_singleton]
  rw [show a + (((b + 1 - a).toNat : Nat) : Int) = n by omega]
theorem snoc_cases {α : Type} (l : List α) : l = [] ∨ ∃ m x, l = m ++ [x] := by
  rcases List.eq_nil_or_concat l with e | ⟨m, x, e⟩
  · exact .inl e
  · exact .inr ⟨m, x, by rw [e, List.concat_eq_append]⟩
def Up (rs : List (Int × Int)) : Prop := ∀ r ∈ rs, r.1 ≤ r.2
theorem rgStep_up {acc : List (Int × Int)} {n : Int} (h : Up acc) : Up (rgStep acc n) := by
  rcases snoc_cases acc with rfl | ⟨m, ⟨a, b⟩, rfl⟩
  · rw [rgStep_nil]
    intro r hr
    rw [List.mem_singleton.mp hr]
    exact Int.le_refl _
  · rw [rgStep_snoc]
    have hab : a ≤ b := h (a, b) (List.mem_append_right _ (.head _))
    split
    · intro r hr
      rcases List.mem_append.mp hr with hr | hr
      · exact h r (List.mem_append_left _ hr)
      · rw [List.mem_singleton.mp hr]
        show a ≤ n
        omega
    · intro r hr
      rcases List.mem_append.mp hr with hr | hr
      · exact h r hr
      · rw [List.mem_singleton.mp hr]
        exact Int.le_refl _
theorem ex_app (a b : List (Int × Int)) : ex (a ++ b) = ex a ++ ex b := List.flatMap_append ..
theorem ex_one (r : Int × Int) : ex [r] = upto r := by simp [ex]
theorem ex_step {acc : List (Int × Int)} {n : Int} (h : Up acc) : ex (rgStep acc n) = ex acc ++ [n] := by
  rcases snoc_cases acc with rfl | ⟨m, ⟨a, b⟩, rfl⟩
  · rw [rgStep_nil, ex_one, upto_one]
    rfl
  · rw [rgStep_snoc]
    have hab : a ≤ b := h (a, b) (List.mem_append_right _ (.head _))
    split
    · rename_i e
      rw [ex_app, ex_app, ex_one, ex_one, upto_next hab e, List.append_assoc]
    · rw [ex_app, ex_one, upto_one]
theorem rg_both : ∀ (l : List Int) (acc : List (Int × Int)), Up acc → Up (l.foldl rgStep acc) ∧ ex (l.foldl rgStep acc) = ex acc ++ l
  | [], acc, h => ⟨h, by simp⟩
  | n :: l, acc, h => by
    obtain ⟨h1, h2⟩ := rg_both l (rgStep acc n) (rgStep_up h)
    exact ⟨h1, by rw [List.foldl_cons, h2, ex_step h, List.append_assoc]; rfl⟩
theorem ex_rg (l : List Int) : ex (rg l) = l := by
  have := (rg_both l [] (fun _ z => nomatch z)).2
  rw [rg, this]
  rfl
theorem up_rg (l : List Int) : Up (rg l) := (rg_both l [] (fun _ z => nomatch z)).1
theorem mem_upto (k : Int) (r : Int × Int) : k ∈ upto r ↔ r.1 ≤ k ∧ k ≤ r.2 := by
  unfold upto
  rw [List.mem_map]
  constructor
  · rintro ⟨i, hi, rfl⟩
    have := List.mem_range.mp hi
    omega
  · rintro ⟨h1, h2⟩
    exact ⟨(k - r.1).toNat, List.mem_range.mpr (by omega), by omega⟩
/-- in none of the ranges -/
def outOf (rs : List (Int × Int)) (n : Int) : Bool := rs.all fun r => !(decide (r.1 ≤ n) && decide (n ≤ r.2))
theorem outOf_iff (rs : List (Int × Int)) (n : Int) : outOf rs n = true ↔ n ∉ ex rs := by
  unfold outOf ex
  rw [List.all_eq_true, List.mem_flatMap]
  constructor
  · rintro h ⟨r, hr, hn⟩
    have := h r hr
    rw [mem_upto] at hn
    simp [hn.1, hn.2] at this
  · intro h r hr
    cases e : (decide (r.1 ≤ n) && decide (n ≤ r.2))
    · rfl
    · rw [Bool.and_eq_true, decide_eq_true_eq, decide_eq_true_eq] at e
      exact absurd ⟨r, hr, (mem_upto n r).mpr e⟩ h
theorem rgStep_len (acc : List (Int × Int)) (n : Int) : (rgStep acc n).length ≤ acc.length + 1 := by
  rcases snoc_cases acc with rfl | ⟨m, ⟨a, b⟩, rfl⟩
  · exact Nat.le_refl _
  · rw [rgStep_snoc]
    split <;> simp
theorem rg_len0 : ∀ (l : List Int) (acc : List (Int × Int)), (l.foldl rgStep acc).length ≤ acc.length + l.length
  | [], acc => by simp
  | n :: l, acc => by
    have h1 := rg_len0 l (rgStep acc n)
    have h2 := rgStep_len acc n
    rw [List.foldl_cons, List.length_cons]
    omega
theorem rg_len (l : List Int) : (rg l).length ≤ l.length := by
  have := rg_len0 l []
  simpa [rg] using this
/-- the bounds of the ranges are of the list -/
theorem rg_mem (l : List Int) : ∀ r ∈ rg l, r.1 ∈ l ∧ r.2 ∈ l := by
  intro r hr
  have hu := up_rg l r hr
  have h : ∀ k, r.1 ≤ k ∧ k ≤ r.2 → k ∈ l := fun k hk => by
    rw [← ex_rg l]
    exact List.mem_flatMap.mpr ⟨r, hr, (mem_upto k r).mpr hk⟩
  exact ⟨h _ ⟨Int.le_refl _, hu⟩, h _ ⟨hu, Int.le_refl _⟩⟩
end Gt
set_option Elab.async false
set_option linter.all false
set_option maxRecDepth 100000
set_option maxHeartbeats 4000000
/-! Ranges 1: of numbers, back to numbers. -/
namespace Gt
open PySem PySem.Spec PyProof.Rows L2
def RgsAt (H : Hp) (a : Addr) (rs : List (Int × Int)) : Prop := ∃ bs : List Addr, H a = some (.lst (bs.map V.ref)) ∧ PairsAt H bs rs
theorem ixN_last (n : Nat) : ixN (n + 1) (-1) = some n := by
  unfold ixN
  simp
  omega
theorem paired_last {α β : Type} {R : α → β → Prop} : ∀ {l : List α} {m : List β} {y : β}, Paired R l (m ++ [y]) → ∃ l' x, l = l' ++ [x] ∧ Paired R l' m ∧ R x y
  | _, [], _, .cons r .nil => ⟨[], _, rfl, .nil, r⟩
  | _, _ :: m, _, .cons r t => by
    obtain ⟨l', x, rfl, h1, h2⟩ := paired_last (m := m) t
    exact ⟨_ :: l', x, rfl, .cons r h1, h2⟩
def spRanges : Sp := fun vs H Q _ => ∃ (a : Addr) (ns : List Int), vs = [.ref a] ∧ H a = some (.lst (ns.map V.int)) ∧ ns.length < 64 ∧ ∀ r H', H r = none → Same H H' → RgsAt H' r (rg (sd ns)) → Q (.ref r) H'
def spNumbers : Sp := fun vs H Q _ => ∃ (a : Addr) (rs : List (Int × Int)), vs = [.ref a] ∧ RgsAt H a rs ∧ Up rs ∧ (ex rs).length < 64 ∧ (∀ k ∈ ex rs, 0 ≤ k ∧ k ≤ 1000000) ∧ rNewL H Q ((sd (ex rs)).map V.int)
section
variable {P : Program} {w : World} {K : PySem.W.Frag} {mg : Str → Option Value} {base : Heap}
theorem scRangesOf : FnScope ["numbers", "found", "number"] ["numbers"] (defScope sRangesOf) := ⟨rfl, rfl, rfl, by decide +kernel, rfl, by decide +kernel, by decide +kernel⟩
theorem k_ranges_of (T : Tx K mg) : C8.Cal P w K mg base 1 "ranges_of" spRanges [] := by
  refine calOf T.d_ranges_of T.g_ranges_of scRangesOf (fun _ F => F.binds fun _ _ _ _ _ _ us hl => match us, hl with | [_], _ => rfl) (fun vs H Q E h => ?_) (fun cdv A outer s H vs Q E hr h => ?_)
  · obtain ⟨a, ns, rfl, _⟩ := h
    rfl
  · obtain ⟨a, ns, rfl, ha, hz, q⟩ := h
    refine ⟨_, (pss_cons (ps_set (i := 1) scRangesOf.nd rfl (Or.inl rfl) (pe_lst pa_nil))
      (pss_cons (ps_for PassesOwn.never rfl (pi_list (pe_callB (cr_sortedSet rfl) (by rfl) T.n_sorted (by decide +kernel) (pa_cons (pe_callTy (cr_setI rfl) (by rfl) T.n_set (by decide +kernel) (pa_cons (pv 0) pa_nil)) pa_nil))) (pg_name (i := 2) scRangesOf.nd rfl (Or.inl rfl))
      (pss_one (ps_if (PW.pt (pw_and (pt_truth (pv 1) (by intro _; rfl)) (pw_and1 (pt_cmpR op_eq (pe_ix ix_tup (pe_ix ix_list (pv 1) (pe_un un_neg pe_int) (fun _ _ => rfl)) pe_int (fun _ _ => rfl)) (pe_op op_sub (pv 2) pe_int) (nomark _))))) (pss_one (ps_asg (pe_tup (pa_cons (pe_ix ix_tup (pe_ix ix_list (pv 1) (pe_un un_neg pe_int) (fun _ _ => rfl)) pe_int (fun _ _ => rfl)) (pa_cons (pv 2) pa_nil))) (pg_sub (pv 1) (pe_un un_neg pe_int) set_list))) (pss_one (ps_expr (pe_bm PySem.F.plainAttrs_list PySem.F.slot_list_append PySem.F.type_list_append mt_append (pv 1) (pa_cons (pe_tup (pa_cons (pv 2) (pa_cons (pv 2) pa_nil))) pa_nil)))))))
      (pss_one (ps_ret (pv 1))))), ?_⟩
    refine ⟨(show 0 ≤ sizeLine by decide), fun r hr0 => ?_⟩
    have s0 := Same.new (o := .lst []) hr0
    refine ⟨_, rfl, a, ns, rfl, SqL.of (s0 _ _ ha), by omega, fun p c hp hc => ?_⟩
    refine ⟨p, _, c, rfl, upd_same, by omega, fun out t hs hm hlen ht => ?_⟩
    obtain rfl : out = sd ns := srt_ext hs (srt_sd ns) fun k => (hm k).trans (decide_eq_true_iff.trans (mem_sd k ns).symm)
    have s2 : Same H (upd (upd (upd H r (.lst [])) p (SetO w p (fun j => decide (j ∈ ns)) c)) t (.lst ((sd ns).map V.int))) := (s0.trans (Same.new hp)).trans (Same.new (o := .lst ((sd ns).map V.int)) ht)
    have hr1 : (upd (upd (upd H r (.lst [])) p (SetO w p (fun j => decide (j ∈ ns)) c)) t (.lst ((sd ns).map V.int))) r = some (.lst []) := (Same.new (o := .lst ((sd ns).map V.int)) ht) _ _ (Same.new hp _ _ (upd_same (H := H) (a := r) (o := HO.lst [])))
    have ht1 : upd (upd (upd H r (.lst [])) p (SetO w p (fun j => decide (j ∈ ns)) c)) t (.lst ((sd ns).map V.int)) t = some (.lst ((sd ns).map V.int)) := upd_same
    have htr : t ≠ r := (ne_of_none (Same.new hp _ _ (upd_same (H := H) (a := r) (o := HO.lst []))) ht).symm
    refine ⟨t, rfl, ⟨_, SqL.of upd_same⟩, ?_⟩
    generalize hEq : upd (upd (upd H r (.lst [])) p (SetO w p (fun j => decide (j ∈ ns)) c)) t (.lst ((sd ns).map V.int)) = H1 at *
    have hsl := sd_len ns
    refine for_list (K := K) (a := t) (xs := (sd ns).map V.int)
      (fun i σ H' => ∃ v bs, σ = [some (.ref a), some (.ref r), v] ∧ Kp [r] H1 H' ∧ H' r = some (.lst (bs.map V.ref)) ∧ PairsAt H' bs (rg ((sd ns).take i)))
      ⟨none, [], rfl, (fun X (e : X = H1) => (e ▸ Kp.refl [r] H1 : Kp [r] H1 X)) _ hEq, (congrFun hEq r).trans hr1, .nil⟩ (fun i σ H' _ h => ?_) ?_ ?_
    · obtain ⟨_, _, _, k, _⟩ := h
      exact SqL.of (k _ _ ht1 (by simpa using htr))
    · rintro i y σ H' hi ⟨v, bs, rfl, k, hrl, hbs⟩
      rw [List.getElem?_map] at hi
      cases e : (sd ns)[i]? with
      | none =>
        rw [e] at hi
        cases hi
      | some z =>
        rw [e] at hi
        obtain rfl : V.int z = y := Option.some.inj hi
        have hi2 : i < (sd ns).length := (List.getElem?_eq_some_iff.mp e).1
        have estep : rg ((sd ns).take (i + 1)) = rgStep (rg ((sd ns).take i)) z := by
          rw [take_next e, rg, List.foldl_append]
          rfl
        have hbl : bs.length ≤ 64 := by
          rw [hbs.length]
          have := rg_len ((sd ns).take i)
          have := List.length_take_le' i (sd ns)
          omega
        have app : ∀ (b : Addr), H' b = none → rgStep (rg ((sd ns).take i)) z = rg ((sd ns).take i) ++ [(z, z)] →
            ∃ v bs', [some (V.ref a), some (V.ref r), some (V.int z)] = [some (V.ref a), some (V.ref r), v] ∧ Kp [r] H1 (upd (upd H' b (.tup [.int z, .int z])) r (.lst (bs.map V.ref ++ [.ref b]))) ∧
              upd (upd H' b (.tup [.int z, .int z])) r (.lst (bs.map V.ref ++ [.ref b])) r = some (.lst (bs'.map V.ref)) ∧ PairsAt (upd (upd H' b (.tup [.int z, .int z])) r (.lst (bs.map V.ref ++ [.ref b]))) bs' (rg ((sd ns).take (i + 1))) := by
          intro b hb er
          have sb := Same.new (o := .tup [V.int z, V.int z]) hb
          have tr : Tups (upd H' b (.tup [.int z, .int z])) (upd (upd H' b (.tup [.int z, .int z])) r (.lst (bs.map V.ref ++ [.ref b]))) := (Kp.put (S := [r]) (.head _)).tups fun x hx o e => by
            rw [List.mem_singleton.mp hx, sb _ _ hrl] at e
            cases e
            rfl
          refine ⟨_, bs ++ [b], rfl, (k.trans (Kp.of sb)).trans (Kp.put (.head _)), by rw [upd_same, List.map_append]; rfl, ?_⟩
          rw [estep, er]
          exact paired_snoc ((hbs.mono (Same.tups sb)).mono tr) (tr _ _ upd_same)
        rcases snoc_cases (rg ((sd ns).take i)) with e0 | ⟨m, ⟨x1, x2⟩, e0⟩
        · have hb0 : bs = [] := by
            have := hbs.length
            rw [e0] at this
            exact List.length_eq_zero_iff.mp this
          subst hb0
          refine ⟨_, rfl, false, .inl ⟨_, SqL.of hrl, rfl⟩, iteF (iteF ?_)⟩
          refine ⟨_, rfl, .inl ⟨rfl, _, SqL.of hrl⟩, _, rfl, _, rfl, (show 2 ≤ sizeLine by decide), fun b hb => ?_⟩
          refine ⟨r, _, _, rfl, rfl, Same.new hb _ _ hrl, (show 0 < sizeLine by decide), ?_⟩
          exact app b hb (by rw [e0]; rfl)
        · have hbs2 := hbs
          rw [e0] at hbs2
          obtain ⟨bs', b, rfl, hbs', hbt⟩ := paired_last hbs2
          have hb1 : H' b = some (.tup [.int x1, .int x2]) := hbt
          have htr : (bs' ++ [b]).map V.ref = bs'.map V.ref ++ [V.ref b] := by rw [List.map_append]; rfl
          refine ⟨_, rfl, true, .inl ⟨_, SqL.of hrl, by rw [htr]; simp⟩, iteT ?_⟩
          refine ⟨_, rfl, _, rfl, r, _, _, _, rfl, rfl, SqL.of hrl, (by rw [htr]; exact atI_last _ _), b, _, _, _, rfl, rfl, sqT_of hb1, atI_nat (j := 1) rfl, _, rfl, _, _, rfl, rfl, rfl, _, rfl, iteB _ (fun c => ?_) fun c => ?_⟩
          · have ez : rgStep (rg ((sd ns).take i)) z = m ++ [(x1, z)] := by
              rw [e0, rgStep_snoc, if_pos (by have := V.int.inj (of_decide_eq_true c); omega)]
            refine ⟨_, rfl, _, rfl, r, _, _, _, rfl, rfl, SqL.of hrl, (by rw [htr]; exact atI_last _ _), b, _, _, _, rfl, rfl, sqT_of hb1, atI_nat (j := 0) rfl, _, rfl, (show 2 ≤ sizeLine by decide), fun b2 hb2 => ?_⟩
            have sb := Same.new (o := .tup [V.int x1, V.int z]) hb2
            refine ⟨_, rfl, _, rfl, r, _, _, _, rfl, rfl, sb _ _ hrl, (by rw [htr, List.length_append]; exact ixN_last _), ?_⟩
            have eset : ((bs' ++ [b]).map V.ref).set (bs'.map V.ref).length (V.ref b2) = (bs' ++ [b2]).map V.ref := by
              rw [htr, List.set_append_right _ _ (Nat.le_refl _), Nat.sub_self, List.map_append]
              rfl
            rw [eset]
            have tr : Tups (upd H' b2 (.tup [.int x1, .int z])) (upd (upd H' b2 (.tup [.int x1, .int z])) r (.lst ((bs' ++ [b2]).map V.ref))) := (Kp.put (S := [r]) (.head _)).tups fun x hx o e => by
              rw [List.mem_singleton.mp hx, sb _ _ hrl] at e
              cases e
              rfl
            refine ⟨some (.int z), bs' ++ [b2], rfl, (k.trans (Kp.of sb)).trans (Kp.put (.head _)), upd_same, ?_⟩
            rw [estep, ez]
            exact paired_snoc (PairsAt.mono tr (PairsAt.mono (Same.tups sb) hbs')) (tr _ _ upd_same)
          · refine ⟨_, rfl, .inl ⟨rfl, _, SqL.of hrl⟩, _, rfl, _, rfl, (show 2 ≤ sizeLine by decide), fun b3 hb3 => ?_⟩
            refine ⟨r, _, _, rfl, rfl, Same.new hb3 _ _ hrl, (by rw [List.length_map]; exact Nat.lt_of_le_of_lt hbl (by decide)), ?_⟩
            refine app b3 hb3 ?_
            rw [e0, rgStep_snoc, if_neg (fun h => of_decide_eq_false c (by first | exact congrArg V.int h | exact congrArg V.int (by omega)))]
    · rintro σ H' ⟨v, bs, rfl, k, hrl, hbs⟩
      rw [List.length_map, List.take_length] at hbs
      refine ⟨_, rfl, ?_⟩
      have sF : Same H H' := fun b u e => k b u (s2 b u e) (by
        rw [List.mem_singleton]
        exact ne_of_none e hr0)
      exact q r H' hr0 sF ⟨bs, hrl, hbs⟩
theorem scLawRanges : FnScope ["_law_numbers", "_law_found", "_law_number"] ["_law_numbers"] (defScope sLawRanges) := ⟨rfl, rfl, rfl, by decide +kernel, rfl, by decide +kernel, by decide +kernel⟩
theorem k__law_ranges (T : Tx K mg) : C8.Cal P w K mg base 1 "_law_ranges" spRanges [] := by
  refine calOf T.d__law_ranges T.g__law_ranges scLawRanges (fun _ F => F.binds fun _ _ _ _ _ _ us hl => match us, hl with | [_], _ => rfl) (fun vs H Q E h => ?_) (fun cdv A outer s H vs Q E hr h => ?_)
  · obtain ⟨a, ns, rfl, _⟩ := h
    rfl
  · obtain ⟨a, ns, rfl, ha, hz, q⟩ := h
    refine ⟨_, (pss_cons (ps_set (i := 1) scLawRanges.nd rfl (Or.inl rfl) (pe_lst pa_nil))
      (pss_cons (ps_for PassesOwn.never rfl (pi_list (pe_callB (cr_sortedSet rfl) (by rfl) T.n_sorted (by decide +kernel) (pa_cons (pe_callTy (cr_setI rfl) (by rfl) T.n_set (by decide +kernel) (pa_cons (pv 0) pa_nil)) pa_nil))) (pg_name (i := 2) scLawRanges.nd rfl (Or.inl rfl))
      (pss_one (ps_if (PW.pt (pw_and (pt_truth (pv 1) (by intro _; rfl)) (pw_and1 (pt_cmpR op_eq (pe_op op_add (pe_ix ix_tup (pe_ix ix_list (pv 1) (pe_un un_neg pe_int) (fun _ _ => rfl)) pe_int (fun _ _ => rfl)) pe_int) (pv 2) (nomark _))))) (pss_one (ps_asg (pe_tup (pa_cons (pe_ix ix_tup (pe_ix ix_list (pv 1) (pe_un un_neg pe_int) (fun _ _ => rfl)) pe_int (fun _ _ => rfl)) (pa_cons (pv 2) pa_nil))) (pg_sub (pv 1) (pe_un un_neg pe_int) set_list))) (pss_one (ps_expr (pe_bm PySem.F.plainAttrs_list PySem.F.slot_list_append PySem.F.type_list_append mt_append (pv 1) (pa_cons (pe_tup (pa_cons (pv 2) (pa_cons (pv 2) pa_nil))) pa_nil)))))))
      (pss_one (ps_ret (pv 1))))), ?_⟩
    refine ⟨(show 0 ≤ sizeLine by decide), fun r hr0 => ?_⟩
    have s0 := Same.new (o := .lst []) hr0
    refine ⟨_, rfl, a, ns, rfl, SqL.of (s0 _ _ ha), by omega, fun p c hp hc => ?_⟩
    refine ⟨p, _, c, rfl, upd_same, by omega, fun out t hs hm hlen ht => ?_⟩
    obtain rfl : out = sd ns := srt_ext hs (srt_sd ns) fun k => (hm k).trans (decide_eq_true_iff.trans (mem_sd k ns).symm)
    have s2 : Same H (upd (upd (upd H r (.lst [])) p (SetO w p (fun j => decide (j ∈ ns)) c)) t (.lst ((sd ns).map V.int))) := (s0.trans (Same.new hp)).trans (Same.new (o := .lst ((sd ns).map V.int)) ht)
    have hr1 : (upd (upd (upd H r (.lst [])) p (SetO w p (fun j => decide (j ∈ ns)) c)) t (.lst ((sd ns).map V.int))) r = some (.lst []) := (Same.new (o := .lst ((sd ns).map V.int)) ht) _ _ (Same.new hp _ _ (upd_same (H := H) (a := r) (o := HO.lst [])))
    have ht1 : upd (upd (upd H r (.lst [])) p (SetO w p (fun j => decide (j ∈ ns)) c)) t (.lst ((sd ns).map V.int)) t = some (.lst ((sd ns).map V.int)) := upd_same
    have htr : t ≠ r := (ne_of_none (Same.new hp _ _ (upd_same (H := H) (a := r) (o := HO.lst []))) ht).symm
    refine ⟨t, rfl, ⟨_, SqL.of upd_same⟩, ?_⟩
    generalize hEq : upd (upd (upd H r (.lst [])) p (SetO w p (fun j => decide (j ∈ ns)) c)) t (.lst ((sd ns).map V.int)) = H1 at *
    have hsl := sd_len ns
    refine for_list (K := K) (a := t) (xs := (sd ns).map V.int)
      (fun i σ H' => ∃ v bs, σ = [some (.ref a), some (.ref r), v] ∧ Kp [r] H1 H' ∧ H' r = some (.lst (bs.map V.ref)) ∧ PairsAt H' bs (rg ((sd ns).take i)))
      ⟨none, [], rfl, (fun X (e : X = H1) => (e ▸ Kp.refl [r] H1 : Kp [r] H1 X)) _ hEq, (congrFun hEq r).trans hr1, .nil⟩ (fun i σ H' _ h => ?_) ?_ ?_
    · obtain ⟨_, _, _, k, _⟩ := h
      exact SqL.of (k _ _ ht1 (by simpa using htr))
    · rintro i y σ H' hi ⟨v, bs, rfl, k, hrl, hbs⟩
      rw [List.getElem?_map] at hi
      cases e : (sd ns)[i]? with
      | none =>
        rw [e] at hi
        cases hi
      | some z =>
        rw [e] at hi
        obtain rfl : V.int z = y := Option.some.inj hi
        have hi2 : i < (sd ns).length := (List.getElem?_eq_some_iff.mp e).1
        have estep : rg ((sd ns).take (i + 1)) = rgStep (rg ((sd ns).take i)) z := by
          rw [take_next e, rg, List.foldl_append]
          rfl
        have hbl : bs.length ≤ 64 := by
          rw [hbs.length]
          have := rg_len ((sd ns).take i)
          have := List.length_take_le' i (sd ns)
          omega
        have app : ∀ (b : Addr), H' b = none → rgStep (rg ((sd ns).take i)) z = rg ((sd ns).take i) ++ [(z, z)] →
            ∃ v bs', [some (V.ref a), some (V.ref r), some (V.int z)] = [some (V.ref a), some (V.ref r), v] ∧ Kp [r] H1 (upd (upd H' b (.tup [.int z, .int z])) r (.lst (bs.map V.ref ++ [.ref b]))) ∧
              upd (upd H' b (.tup [.int z, .int z])) r (.lst (bs.map V.ref ++ [.ref b])) r = some (.lst (bs'.map V.ref)) ∧ PairsAt (upd (upd H' b (.tup [.int z, .int z])) r (.lst (bs.map V.ref ++ [.ref b]))) bs' (rg ((sd ns).take (i + 1))) := by
          intro b hb er
          have sb := Same.new (o := .tup [V.int z, V.int z]) hb
          have tr : Tups (upd H' b (.tup [.int z, .int z])) (upd (upd H' b (.tup [.int z, .int z])) r (.lst (bs.map V.ref ++ [.ref b]))) := (Kp.put (S := [r]) (.head _)).tups fun x hx o e => by
            rw [List.mem_singleton.mp hx, sb _ _ hrl] at e
            cases e
            rfl
          refine ⟨_, bs ++ [b], rfl, (k.trans (Kp.of sb)).trans (Kp.put (.head _)), by rw [upd_same, List.map_append]; rfl, ?_⟩
          rw [estep, er]
          exact paired_snoc ((hbs.mono (Same.tups sb)).mono tr) (tr _ _ upd_same)
        rcases snoc_cases (rg ((sd ns).take i)) with e0 | ⟨m, ⟨x1, x2⟩, e0⟩
        · have hb0 : bs = [] := by
            have := hbs.length
            rw [e0] at this
            exact List.length_eq_zero_iff.mp this
          subst hb0
          refine ⟨_, rfl, false, .inl ⟨_, SqL.of hrl, rfl⟩, iteF (iteF ?_)⟩
          refine ⟨_, rfl, .inl ⟨rfl, _, SqL.of hrl⟩, _, rfl, _, rfl, (show 2 ≤ sizeLine by decide), fun b hb => ?_⟩
          refine ⟨r, _, _, rfl, rfl, Same.new hb _ _ hrl, (show 0 < sizeLine by decide), ?_⟩
          exact app b hb (by rw [e0]; rfl)
        · have hbs2 := hbs
          rw [e0] at hbs2
          obtain ⟨bs', b, rfl, hbs', hbt⟩ := paired_last hbs2
          have hb1 : H' b = some (.tup [.int x1, .int x2]) := hbt
          have htr : (bs' ++ [b]).map V.ref = bs'.map V.ref ++ [V.ref b] := by rw [List.map_append]; rfl
          refine ⟨_, rfl, true, .inl ⟨_, SqL.of hrl, by rw [htr]; simp⟩, iteT ?_⟩
          refine ⟨_, rfl, _, rfl, r, _, _, _, rfl, rfl, SqL.of hrl, (by rw [htr]; exact atI_last _ _), b, _, _, _, rfl, rfl, sqT_of hb1, atI_nat (j := 1) rfl, _, _, rfl, rfl, _, rfl, rfl, _, rfl, iteB _ (fun c => ?_) fun c => ?_⟩
          · have ez : rgStep (rg ((sd ns).take i)) z = m ++ [(x1, z)] := by
              rw [e0, rgStep_snoc, if_pos (by have := V.int.inj (of_decide_eq_true c); omega)]
            refine ⟨_, rfl, _, rfl, r, _, _, _, rfl, rfl, SqL.of hrl, (by rw [htr]; exact atI_last _ _), b, _, _, _, rfl, rfl, sqT_of hb1, atI_nat (j := 0) rfl, _, rfl, (show 2 ≤ sizeLine by decide), fun b2 hb2 => ?_⟩
            have sb := Same.new (o := .tup [V.int x1, V.int z]) hb2
            refine ⟨_, rfl, _, rfl, r, _, _, _, rfl, rfl, sb _ _ hrl, (by rw [htr, List.length_append]; exact ixN_last _), ?_⟩
            have eset : ((bs' ++ [b]).map V.ref).set (bs'.map V.ref).length (V.ref b2) = (bs' ++ [b2]).map V.ref := by
              rw [htr, List.set_append_right _ _ (Nat.le_refl _), Nat.sub_self, List.map_append]
              rfl
            rw [eset]
            have tr : Tups (upd H' b2 (.tup [.int x1, .int z])) (upd (upd H' b2 (.tup [.int x1, .int z])) r (.lst ((bs' ++ [b2]).map V.ref))) := (Kp.put (S := [r]) (.head _)).tups fun x hx o e => by
              rw [List.mem_singleton.mp hx, sb _ _ hrl] at e
              cases e
              rfl
            refine ⟨some (.int z), bs' ++ [b2], rfl, (k.trans (Kp.of sb)).trans (Kp.put (.head _)), upd_same, ?_⟩
            rw [estep, ez]
            exact paired_snoc (PairsAt.mono tr (PairsAt.mono (Same.tups sb) hbs')) (tr _ _ upd_same)
          · refine ⟨_, rfl, .inl ⟨rfl, _, SqL.of hrl⟩, _, rfl, _, rfl, (show 2 ≤ sizeLine by decide), fun b3 hb3 => ?_⟩
            refine ⟨r, _, _, rfl, rfl, Same.new hb3 _ _ hrl, (by rw [List.length_map]; exact Nat.lt_of_le_of_lt hbl (by decide)), ?_⟩
            refine app b3 hb3 ?_
            rw [e0, rgStep_snoc, if_neg (fun h => of_decide_eq_false c (by first | exact congrArg V.int h | exact congrArg V.int (by omega)))]
    · rintro σ H' ⟨v, bs, rfl, k, hrl, hbs⟩
      rw [List.length_map, List.take_length] at hbs
      refine ⟨_, rfl, ?_⟩
      have sF : Same H H' := fun b u e => k b u (s2 b u e) (by
        rw [List.mem_singleton]
        exact ne_of_none e hr0)
      exact q r H' hr0 sF ⟨bs, hrl, hbs⟩
theorem scNumbersOf : FnScope ["ranges", "found", "first", "last"] ["ranges"] (defScope sNumbersOf) := ⟨rfl, rfl, rfl, by decide +kernel, rfl, by decide +kernel, by decide +kernel⟩
theorem k_numbers_of (T : Tx K mg) : C8.Cal P w K mg base 1 "numbers_of" spNumbers [] := by
  refine calOf T.d_numbers_of T.g_numbers_of scNumbersOf (fun _ F => F.binds fun _ _ _ _ _ _ us hl => match us, hl with | [_], _ => rfl) (fun vs H Q E h => ?_) (fun cdv A outer s H vs Q E hr h => ?_)
  · obtain ⟨a, rs, rfl, _⟩ := h
    rfl
  · obtain ⟨a, rs, rfl, ha, hup, hz, hb, q⟩ := h
    refine ⟨_, (pss_cons (ps_set (i := 1) scNumbersOf.nd rfl (Or.inl rfl) (pe_lst pa_nil))
      (pss_cons (ps_for PassesOwn.never rfl (pi_list (pv 0)) (pg_tup rfl (pgs_cons (pg_name (i := 2) scNumbersOf.nd rfl (Or.inl rfl)) (pgs_cons (pg_name (i := 3) scNumbersOf.nd rfl (Or.inl rfl)) pgs_nil)))
      (pss_one (ps_aug (i := 1) scNumbersOf.nd rfl (Or.inl rfl) (pe_listRg rfl (by rfl) T.n_list (prg_2 (by rfl) T.n_range (pv 2) (pe_op op_add (pv 3) pe_int))) iop_ext)))
      (pss_one (ps_ret (pe_callB (cr_sortedSet rfl) (by rfl) T.n_sorted (by decide +kernel) (pa_cons (pe_callTy (cr_setI rfl) (by rfl) T.n_set (by decide +kernel) (pa_cons (pv 1) pa_nil)) pa_nil)))))), ?_⟩
    obtain ⟨bs, ha, hbs⟩ := ha
    refine ⟨(show 0 ≤ sizeLine by decide), fun r hr0 => ?_⟩
    have s0 := Same.new (o := .lst []) hr0
    have har : a ≠ r := ne_of_none ha hr0
    refine ⟨_, rfl, a, rfl, ⟨_, SqL.of (s0 _ _ ha)⟩, for_list (K := K) (a := a) (xs := bs.map V.ref)
      (fun i σ H' => ∃ v2 v3, σ = [some (.ref a), some (.ref r), v2, v3] ∧ Kp [r] (upd H r (.lst [])) H' ∧ H' r = some (.lst ((ex (rs.take i)).map V.int)))
      ⟨none, none, rfl, .refl _ _, upd_same⟩ (fun i σ H' _ h => ?_) ?_ ?_⟩
    · obtain ⟨_, _, _, k, _⟩ := h
      exact SqL.of (k _ _ (s0 _ _ ha) (by simpa using har))
    · rintro i y σ H' hi ⟨v2, v3, rfl, k, hrl⟩
      rw [List.getElem?_map] at hi
      cases e : bs[i]? with
      | none =>
        rw [e] at hi
        cases hi
      | some z =>
        rw [e] at hi
        obtain rfl : V.ref z = y := Option.some.inj hi
        obtain ⟨⟨x1, x2⟩, e1, e2⟩ := paired_get' hbs i z e
        have tk : Tups H H' := (Same.tups s0).trans (k.tups fun x hx o e => by
          rw [List.mem_singleton.mp hx, upd_same] at e
          cases e
          rfl)
        have hz1 : H' z = some (.tup [.int x1, .int x2]) := tk _ _ e2
        have hx : x1 ≤ x2 := hup (x1, x2) (List.mem_of_getElem? e1)
        have hin : ∀ k, x1 ≤ k → k ≤ x2 → 0 ≤ k ∧ k ≤ 1000000 := fun k h1 h2 => hb k (List.mem_flatMap.mpr ⟨_, List.mem_of_getElem? e1, (mem_upto k (x1, x2)).mpr ⟨h1, h2⟩⟩)
        have hi1 := hin x1 (Int.le_refl _) hx
        have hi2 := hin x2 hx (Int.le_refl _)
        refine ⟨z, _, rfl, sqT_of hz1, rfl, _, _, rfl, _, _, rfl, rfl, ?_⟩
        refine ⟨_, rfl, _, rfl, _, rfl, _, _, rfl, rfl, _, _, rfl, rfl, RgOk.of_le hi1.1 (by omega) (by omega) (by omega), fun q2 hq2 => ?_⟩
        have eu : rgV x1 (x2 + 1) = (upto (x1, x2)).map V.int := by
          unfold rgV upto
          rw [List.map_map]
          rfl
        rw [eu]
        have etk : ex (rs.take (i + 1)) = ex (rs.take i) ++ upto (x1, x2) := by rw [take_next e1, ex_app, ex_one]
        have hlen : (ex (rs.take (i + 1))).length ≤ (ex rs).length := by
          have : ex rs = ex (rs.take (i + 1)) ++ ex (rs.drop (i + 1)) := by rw [← ex_app, List.take_append_drop]
          rw [this, List.length_append]
          omega
        refine ⟨r, q2, _, _, rfl, rfl, Same.new hq2 _ _ hrl, upd_same, ?_, ?_⟩
        · refine line_ge ?_
          rw [List.length_map, List.length_map, ← List.length_append, ← etk]
          omega
        · refine ⟨some (.int x1), some (.int x2), rfl, (k.trans (Kp.new hq2)).trans (Kp.put (.head _)), ?_⟩
          rw [upd_same, etk, List.map_append]
    · rintro σ H' ⟨v2, v3, rfl, k, hrl⟩
      rw [List.length_map, hbs.length, List.take_length] at hrl
      refine ⟨_, rfl, r, ex rs, rfl, SqL.of hrl, by omega, fun p c hp hc => ?_⟩
      refine ⟨p, _, c, rfl, upd_same, by omega, fun out t hs hm hlen ht => ?_⟩
      obtain rfl : out = sd (ex rs) := srt_ext hs (srt_sd _) fun k => (hm k).trans (decide_eq_true_iff.trans (mem_sd k _).symm)
      have sF : Same H H' := fun b u e => k b u (s0 b u e) (by
        rw [List.mem_singleton]
        exact ne_of_none e hr0)
      have sG := sF.trans (Same.new (o := SetO w p (fun j => decide (j ∈ ex rs)) c) hp)
      exact q t _ (sG.free ht) (sG.trans (Same.new ht)) upd_same
end
end Gt
set_option Elab.async false
set_option linter.all false
set_option maxRecDepth 100000
set_option maxHeartbeats 4000000
/-! Ranges 2: what is told, what lacks. -/
namespace Gt
open PySem PySem.Spec PyProof.Rows L2
def TdAt (H : Hp) (a : Addr) (T : List (List (Int × Int))) : Prop := ∃ as : List Addr, H a = some (.lst (as.map V.ref)) ∧ Paired (RgsAt H) as T
/-- tuples and lists stay -/
def Ls (H H' : Hp) : Prop := ∀ b o, H b = some o → (isTup o = true ∨ ∃ xs, o = .lst xs) → H' b = some o
theorem Ls.tups {H H' : Hp} (f : Ls H H') : Tups H H' := fun b xs e => f b _ e (.inl rfl)
theorem Same.ls {H H' : Hp} (s : Same H H') : Ls H H' := fun b o e _ => s b o e
theorem RgsAt.mono {H H' : Hp} {a : Addr} {rs : List (Int × Int)} (s : Ls H H') (h : RgsAt H a rs) : RgsAt H' a rs := by
  obtain ⟨bs, h1, h2⟩ := h
  exact ⟨bs, s _ _ h1 (.inr ⟨_, rfl⟩), h2.mono s.tups⟩
/-- another list changes -/
theorem RgsAt.put {H : Hp} {a D : Addr} {rs : List (Int × Int)} {xs ys : List V} (h : RgsAt H a rs) (n : a ≠ D) (e : H D = some (.lst xs)) : RgsAt (upd H D (.lst ys)) a rs := by
  obtain ⟨bs, h1, h2⟩ := h
  refine ⟨bs, by rw [upd_ne n]; exact h1, h2.mono fun b zs hb => ?_⟩
  rw [upd_ne fun z => by rw [z, e] at hb; cases hb]
  exact hb
theorem TdAt.mono {H H' : Hp} {a : Addr} {T : List (List (Int × Int))} (s : Ls H H') (h : TdAt H a T) : TdAt H' a T := by
  obtain ⟨as, h1, h2⟩ := h
  exact ⟨as, s _ _ h1 (.inr ⟨_, rfl⟩), Paired.mapP h2 fun _ _ z => z.mono s⟩
theorem Kp.ls {S : List Addr} {H H' : Hp} (k : Kp S H H') (h : ∀ b ∈ S, ∀ o, H b = some o → isTup o = false ∧ ∀ xs, o ≠ .lst xs) : Ls H H' := fun b o e p => k b o e fun m => by
  have := h b m o e
  rcases p with p | ⟨xs, p⟩
  · rw [this.1] at p
    cases p
  · exact this.2 xs p
def rowD (M : List ME) (s : Nat) : List Int := (M.filter fun e => decide (e.1.1 = (s : Int))).map (·.1.2)
def toldD (M : List ME) : List (List (Int × Int)) := (List.range 8).map fun s => rg (sd (rowD M s))
theorem rowD_len (M : List ME) (s : Nat) : (rowD M s).length ≤ M.length := by
  unfold rowD
  rw [List.length_map]
  exact List.length_filter_le ..
def lackRow (MR TR : List (List (Int × Int))) (s : Nat) : List (Int × Int) := ((sd (ex (TR.getD s []))).filter (outOf (MR.getD s []))).map fun n => ((s : Int), n)
def lackN (MR TR : List (List (Int × Int))) (i : Nat) : List (Int × Int) := (List.range i).flatMap (lackRow MR TR)
def lackD (MR TR : List (List (Int × Int))) : List (Int × Int) := lackN MR TR 8
theorem lackN_succ (MR TR : List (List (Int × Int))) (i : Nat) : lackN MR TR (i + 1) = lackN MR TR i ++ lackRow MR TR i := by
  unfold lackN
  rw [List.range_succ, List.flatMap_append]
  simp
def OcsAt (H : Hp) (a : Addr) (xss : List (List Int)) : Prop := ∃ as : List Addr, H a = some (.lst (as.map V.ref)) ∧ Paired (fun b (xs : List Int) => H b = some (.lst (xs.map V.int))) as xss
def dueO (M : List ME) (L : List (Int × Int)) : List (List Int) := L.map fun k => msgO k.1 k.2 ((getM M k).getD [])
def spTold (P : Program) (w : World) (K : PySem.W.Frag) : Sp := fun vs H Q _ => ∃ (p d m : Addr) (pr : Int) (l : List CE) (M : List ME), vs = [.ref p] ∧ RpAt P w K H p d m pr l M ∧ (∀ e ∈ M, 0 ≤ e.1.1 ∧ e.1.1 < 8) ∧ M.length < 64 ∧ ∀ r H', H r = none → Same H H' → TdAt H' r (toldD M) → Q (.ref r) H'
def spOutside : Sp := fun vs H Q _ => ∃ (a : Addr) (n : Int) (rs : List (Int × Int)), vs = [.int n, .ref a] ∧ RgsAt H a rs ∧ Q (.bl (outOf rs n)) H
/-- what is small enough to be numbers again -/
def OkR (rs : List (Int × Int)) : Prop := Up rs ∧ (ex rs).length < 64 ∧ ∀ k ∈ ex rs, 0 ≤ k ∧ k ≤ 1000000
def spLacking : Sp := fun vs H Q _ => ∃ (a b : Addr) (MR TR : List (List (Int × Int))), vs = [.ref a, .ref b] ∧ TdAt H a MR ∧ TdAt H b TR ∧ MR.length = 8 ∧ TR.length = 8 ∧ (∀ rs ∈ TR, OkR rs) ∧ ∀ r H', H r = none → Same H H' → RgsAt H' r (lackD MR TR) → Q (.ref r) H'
def spAnswer (P : Program) (w : World) (K : PySem.W.Frag) : Sp := fun vs H Q _ => ∃ (p d m b : Addr) (pr : Int) (l : List CE) (M : List ME) (TR : List (List (Int × Int))), vs = [.ref p, .ref b] ∧ RpAt P w K H p d m pr l M ∧ (∀ e ∈ M, (0 ≤ e.1.1 ∧ e.1.1 < 8) ∧ 0 ≤ e.1.2 ∧ e.1.2 ≤ 100) ∧ M.length < 64 ∧
  TdAt H b TR ∧ TR.length = 8 ∧ (∀ k ∈ lackD TR (toldD M), ∃ cs, getM M k = some cs ∧ (∀ c ∈ cs, okC c) ∧ cs.length ≤ 1000) ∧ ∀ r H', H r = none → Same H H' → OcsAt H' r (dueO M (lackD TR (toldD M))) → Q (.ref r) H'
theorem paired_set {α β : Type} {R : α → β → Prop} : ∀ {l : List α} {m : List β}, Paired R l m → ∀ (i : Nat) (b : β), (∀ a, l[i]? = some a → R a b) → Paired R l (m.set i b)
  | _, _, .nil, _, _, _ => .nil
  | _, _, .cons r t, 0, b, h => .cons (h _ rfl) t
  | _, _, .cons r t, i + 1, b, h => .cons r (paired_set t i b fun a e => h a (by simpa using e))
theorem paired_of {α β : Type} {R : α → β → Prop} : ∀ {l : List α} {m : List β}, l.length = m.length → (∀ (i : Nat) (a : α) (b : β), l[i]? = some a → m[i]? = some b → R a b) → Paired R l m
  | [], [], _, _ => .nil
  | a :: l, b :: m, h, r => .cons (r 0 a b rfl rfl) (paired_of (by simpa using h) fun i x y e1 e2 => r (i + 1) x y (by simpa using e1) (by simpa using e2))
theorem nodup_ix {α : Type} {l : List α} (h : l.Nodup) {i j : Nat} {a : α} (h1 : l[i]? = some a) (h2 : l[j]? = some a) : i = j := by
  obtain ⟨hi, e1⟩ := List.getElem?_eq_some_iff.mp h1
  obtain ⟨hj, e2⟩ := List.getElem?_eq_some_iff.mp h2
  have q := List.pairwise_iff_getElem.mp h
  rcases Nat.lt_trichotomy i j with c | c | c
  · exact absurd (e1.trans e2.symm) (q i j hi hj c)
  · exact c
  · exact absurd (e2.trans e1.symm) (q j i hj hi c)
theorem okR_getD {TR : List (List (Int × Int))} (hok : ∀ rs ∈ TR, OkR rs) (s : Nat) : OkR (TR.getD s []) := by
  rw [List.getD_eq_getElem?_getD]
  cases e : TR[s]? with
  | none => exact ⟨(fun _ z => nomatch z), (show 0 < 64 by decide), fun _ z => nomatch z⟩
  | some x => exact hok x (List.mem_of_getElem? e)
theorem lackRow_len {MR TR : List (List (Int × Int))} (hok : ∀ rs ∈ TR, OkR rs) (s : Nat) : (lackRow MR TR s).length ≤ 63 := by
  unfold lackRow
  rw [List.length_map]
  have h1 := List.length_filter_le (outOf (MR.getD s [])) (sd (ex (TR.getD s [])))
  have h2 := sd_len (ex (TR.getD s []))
  have h3 := (okR_getD hok s).2.1
  omega
theorem lackN_len {MR TR : List (List (Int × Int))} (hok : ∀ rs ∈ TR, OkR rs) (i : Nat) : (lackN MR TR i).length ≤ 63 * i := by
  induction i with
  | zero => exact Nat.le_refl _
  | succ i ih =>
    rw [lackN_succ, List.length_append]
    have := lackRow_len (MR := MR) hok i
    omega
theorem okR_told {M : List ME} (h : ∀ e ∈ M, (0 ≤ e.1.1 ∧ e.1.1 < 8) ∧ 0 ≤ e.1.2 ∧ e.1.2 ≤ 100) (hz : M.length < 64) : ∀ rs ∈ toldD M, OkR rs := by
  intro rs hrs
  obtain ⟨s, _, rfl⟩ := List.mem_map.mp hrs
  refine ⟨up_rg _, ?_, fun k hk => ?_⟩
  · rw [ex_rg]
    have := sd_len (rowD M s)
    have := rowD_len M s
    omega
  · rw [ex_rg, mem_sd] at hk
    obtain ⟨e, he, rfl⟩ := List.mem_map.mp hk
    have := h e ((List.mem_filter.mp he).1)
    omega
section
variable {P : Program} {w : World} {K : PySem.W.Frag} {mg : Str → Option Value} {base : Heap}
theorem scOutside : FnScope ["number", "ranges", "first", "last"] ["number", "ranges"] (defScope sOutside) := ⟨rfl, rfl, rfl, by decide +kernel, rfl, by decide +kernel, by decide +kernel⟩
theorem k_outside (T : Tx K mg) : C8.Cal P w K mg base 1 "outside" spOutside [] := by
  refine calOf T.d_outside T.g_outside scOutside (fun _ F => F.binds fun _ _ _ _ _ _ us hl => match us, hl with | [_, _], _ => rfl) (fun vs H Q E h => ?_) (fun cdv A outer s H vs Q E hr h => ?_)
  · obtain ⟨a, n, rs, rfl, _⟩ := h
    rfl
  · obtain ⟨a, n, rs, rfl, ⟨bs, ha, hbs⟩, q⟩ := h
    refine ⟨_, (pss_cons (ps_for PassesOwn.never rfl (pi_list (pv 1)) (pg_tup rfl (pgs_cons (pg_name (i := 2) scOutside.nd rfl (Or.inl rfl)) (pgs_cons (pg_name (i := 3) scOutside.nd rfl (Or.inl rfl)) pgs_nil)))
      (pss_one (ps_if (pt_chain op_le op_le (pv 2) (pv 0) (pv 3)) (pss_one (ps_ret pe_bl)) pss_nil)))
      (pss_one (ps_ret pe_bl))), ?_⟩
    refine ⟨_, rfl, a, rfl, ⟨_, SqL.of ha⟩, for_list (K := K) (a := a) (xs := bs.map V.ref)
      (fun i σ H' => (∃ v2 v3, σ = [some (.int n), some (.ref a), v2, v3]) ∧ H' = H ∧ outOf (rs.take i) n = true)
      ⟨⟨none, none, rfl⟩, rfl, rfl⟩ (fun i σ H' _ h => by rw [h.2.1]; exact SqL.of ha) ?_ ?_⟩
    · rintro i y σ H' hi ⟨⟨v2, v3, rfl⟩, rfl, ho⟩
      rw [List.getElem?_map] at hi
      cases e : bs[i]? with
      | none =>
        rw [e] at hi
        cases hi
      | some z =>
        rw [e] at hi
        obtain rfl : V.ref z = y := Option.some.inj hi
        obtain ⟨⟨x1, x2⟩, e1, e2⟩ := paired_get' hbs i z e
        have e2 : H' z = some (.tup [.int x1, .int x2]) := e2
        refine ⟨z, _, rfl, sqT_of e2, rfl, _, _, rfl, _, _, rfl, rfl, ?_⟩
        have eo : ∀ b : Bool, (!(decide (x1 ≤ n) && decide (n ≤ x2))) = b → outOf (rs.take (i + 1)) n = b := by
          intro b hb
          unfold outOf at ho ⊢
          rw [take_next e1, List.all_append, ho, Bool.true_and, List.all_cons, List.all_nil, Bool.and_true]
          exact hb
        refine ⟨_, rfl, _, rfl, _, _, rfl, rfl, _, rfl, iteB _ (fun c => ⟨_, rfl, _, _, rfl, rfl, _, rfl, iteB _ (fun c2 => ?_) fun c2 => ?_⟩) fun c => ⟨_, rfl, iteF ?_⟩⟩
        · show Q (.bl false) H'
          have h1 := eo false (by rw [c, c2]; rfl)
          have h2 : outOf rs n = false := by
            cases h3 : outOf rs n
            · rfl
            · unfold outOf at h1 h3
              rw [← List.take_append_drop (i + 1) rs, List.all_append, h1] at h3
              cases h3
          rw [← h2]
          exact q
        · exact ⟨⟨some (.int x1), some (.int x2), rfl⟩, rfl, eo true (by rw [c, c2]; rfl)⟩
        · exact ⟨⟨some (.int x1), some (.int x2), rfl⟩, rfl, eo true (by rw [c]; rfl)⟩
    · rintro σ H' ⟨⟨v2, v3, rfl⟩, rfl, ho⟩
      rw [List.length_map, hbs.length, List.take_length] at ho
      rw [ho] at q
      exact q
theorem scTold : FnScope ["replica", "rows", "sender", "number", "row"] ["replica"] (defScope sTold) := ⟨rfl, rfl, rfl, by decide +kernel, rfl, by decide +kernel, by decide +kernel⟩
theorem k_told (T : Tx K mg) : C8.Cal P w K mg base 2 "told" (spTold P w K) [] := by
  have k_ranges_of : C8.Cal P w K mg base 1 "ranges_of" spRanges [] := k_ranges_of T
  refine calOf T.d_told T.g_told scTold (fun _ F => F.binds fun _ _ _ _ _ _ us hl => match us, hl with | [_], _ => rfl) (fun vs H Q E h => ?_) (fun cdv A outer s H vs Q E hr h => ?_)
  · obtain ⟨p, d, m, pr, l, M, rfl, _⟩ := h
    rfl
  · obtain ⟨p, d, m, pr, l, M, rfl, hR, hM, hz, q⟩ := h
    refine ⟨_, (pss_cons (by exact (ps_setLcD (i := 1) (own := [("sender", 2)]) (g := gName 2) rfl scTold.nd rfl rfl (sw_true rfl rfl rfl (by decide +kernel)) (pi_range1 (by rfl) T.n_range (pa_cons (C8.pe_gc rfl T.i_PEERS) pa_nil)) (blkOk_by (own := [("sender", 2)]) (N := ["replica", "rows", "sender", "number", "row"]) (sc := defScope sTold) (by decide +kernel)) (fun _ _ _ _ _ => (pg_name (i := 2) scTold.nd rfl (Or.inl rfl))) (fun _ _ _ _ _ => pts_nil) (fun _ _ _ _ _ => (pe_lst pa_nil))))
      (pss_cons (ps_lock (ps_for PassesOwn.never rfl (pi_keys (pe_fld (pv 0) rfl)) (pg_tup rfl (pgs_cons (pg_name (i := 2) scTold.nd rfl (Or.inl rfl)) (pgs_cons (pg_name (i := 3) scTold.nd rfl (Or.inl rfl)) pgs_nil)))
      (pss_one (ps_expr (pe_bm PySem.F.plainAttrs_list PySem.F.slot_list_append PySem.F.type_list_append mt_append (pe_ix ix_list (pv 1) (pv 2) (fun _ _ => rfl)) (pa_cons (pv 3) pa_nil))))))
      (pss_one (ps_ret (by exact (pe_lcD (own := [("row", 4)]) (g := gName 4) rfl scTold.nd (pi_list (pv 1)) (blkOk_by (own := [("row", 4)]) (N := ["replica", "rows", "sender", "number", "row"]) (sc := defScope sTold) (by decide +kernel)) (fun _ _ _ _ _ => (pg_name (i := 4) scTold.nd rfl (Or.inl rfl))) (fun _ _ _ _ _ => pts_nil) (fun _ _ _ _ _ => (C8.pe_c k_ranges_of hr (by decide) rfl (pa_cons (pv 4) pa_nil))))))))), ?_⟩
    obtain ⟨⟨dx, ck, md, st, ro, pe, hp, hs⟩, hc, kvs, hm, hkv⟩ := hR
    have hpm : p ≠ m := by
      rintro rfl
      rw [hp] at hm
      cases hm
    refine ⟨8, rfl, by decide, by decide, fun D hD => lc_it (walk_range (lo := 0) (n := (8 : Int).toNat))
      (fun j H' => ∃ as : List Addr, as.length = j ∧ as.Nodup ∧ H' D = some (.lst (as.map V.ref)) ∧ (∀ a ∈ as, H' a = some (.lst []) ∧ H a = none ∧ a ≠ D) ∧ Same H H')
      ⟨[], rfl, .nil, upd_same, (fun _ z => nomatch z), Same.new hD⟩ (fun _ _ _ _ => trivial) ?_ ?_⟩
    · rintro j y H2 H3 hj ⟨as, hl, hn, hDl, ha, s1⟩ ⟨rfl, rfl⟩
      have hj : j < 8 := hj
      refine ⟨rfl, (show 0 ≤ sizeLine by decide), fun b hb => ⟨_, Same.new hb _ _ hDl, ?_, as ++ [b], ?_, ?_, ?_, fun x hx => ?_, ?_⟩⟩
      · rw [List.length_map, hl]
        exact Nat.lt_of_lt_of_le hj (show 8 ≤ sizeLine by decide)
      · rw [List.length_append, hl]
        rfl
      · refine List.nodup_append.mpr ⟨hn, by simp, fun x hx y hy e => ?_⟩
        rw [List.mem_singleton.mp hy] at e
        subst e
        have := (ha x hx).1
        rw [hb] at this
        cases this
      · rw [upd_same, List.map_append]
        rfl
      · have hbD : b ≠ D := (ne_of_none hDl hb).symm
        rcases List.mem_append.mp hx with hx | hx
        · obtain ⟨h1, h2, h3⟩ := ha x hx
          exact ⟨by rw [upd_ne h3]; exact Same.new hb _ _ h1, h2, h3⟩
        · rw [List.mem_singleton.mp hx]
          exact ⟨by rw [upd_ne hbD, upd_same], s1.free hb, hbD⟩
      · exact Same.upd (s1.trans (Same.new hb)) hD
    · rintro H1 ⟨as, hl, hn, hDl, ha, s1⟩
      have hl : as.length = 8 := hl
      have hmas : m ∉ as := fun h => by
        rw [(ha m h).2.1] at hm
        cases hm
      have hDm : D ≠ m := (ne_of_none hm hD).symm
      have hDas : D ∉ as := fun h => (ha D h).2.2 rfl
      refine ⟨m, .dT kvs, s1 _ _ hm, trivial, fun od => ?_⟩
      have k1 : Kp (m :: as) H1 (upd H1 m (.frz od (.dT kvs))) := Kp.put (.head _)
      refine ⟨_, rfl, p, _, dx, _, _, rfl, (by rw [upd_ne hpm]; exact s1 _ _ hp), T.c_Replica, T.a_Replica_messages, rfl, m, od, rfl, .inr ⟨kvs, upd_same, for_it walk_keysT
        (fun i σ H' => (∃ v2 v3, σ = [some (.ref p), some (.ref D), v2, v3, none]) ∧ H' m = some (.frz od (.dT kvs)) ∧ H' D = some (.lst (as.map V.ref)) ∧ (∀ s a, as[s]? = some a → H' a = some (.lst ((rowD (M.take i) s).map V.int))) ∧ Kp (m :: as) H1 H')
        ⟨⟨none, none, rfl⟩, upd_same, by rw [upd_ne hDm]; exact hDl, fun s a e => ?_, k1⟩ (fun i σ H' _ h => h.2.1) ?_ ?_⟩⟩
      · have hma := List.mem_of_getElem? e
        rw [upd_ne (fun z : a = m => hmas (by rw [← z]; exact hma))]
        exact (ha a hma).1
      · rintro i y σ H' H'' hi ⟨⟨v2, v3, rfl⟩, hm', hD', hrows, k⟩ ⟨rfl, ky, v, q0, e1, rfl, hq0⟩
        obtain ⟨e, e2, e3, _⟩ := paired_get' hkv i _ e1
        have e3 : ky = mk e.1 := e3
        subst e3
        have hq0 : H'' q0 = some (.tup [.int e.1.1, .int e.1.2]) := hq0
        have heM := hM e (List.mem_of_getElem? e2)
        obtain ⟨a, hsa⟩ : ∃ a, as[e.1.1.toNat]? = some a := ⟨_, List.getElem?_eq_getElem (by omega)⟩
        have hra := hrows _ _ hsa
        have haa := List.mem_of_getElem? hsa
        refine ⟨q0, _, rfl, sqT_of hq0, rfl, _, _, rfl, _, _, rfl, rfl, ?_⟩
        have hat : atI (as.map V.ref) e.1.1 = some (V.ref a) := by
          have := atI_nat (xs := as.map V.ref) (j := e.1.1.toNat) (v := V.ref a) (by rw [List.getElem?_map, hsa]; rfl)
          rwa [Int.toNat_of_nonneg heM.1] at this
        have hMi : (M.take i).length ≤ M.length := List.length_take_le' _ _
        have hrl := rowD_len (M.take i) e.1.1.toNat
        refine ⟨_, rfl, _, rfl, D, _, _, _, rfl, rfl, SqL.of hD', hat, .inl ⟨rfl, _, SqL.of hra⟩, _, rfl, a, _, _, rfl, rfl, hra, ?_, ?_⟩
        · rw [List.length_map]
          exact Nat.lt_of_lt_of_le (show _ < 64 by omega) (show 64 ≤ sizeLine by decide)
        · refine ⟨⟨some (.int e.1.1), some (.int e.1.2), rfl⟩, ?_, ?_, fun s a' hs => ?_, k.trans (Kp.put (.tail _ haa))⟩
          · rw [upd_ne (fun z : m = a => hmas (by rw [z]; exact haa))]
            exact hm'
          · rw [upd_ne (fun z : D = a => hDas (by rw [z]; exact haa))]
            exact hD'
          · have er : rowD (M.take (i + 1)) s = rowD (M.take i) s ++ (if e.1.1 = (s : Int) then [e.1.2] else []) := by
              unfold rowD
              rw [take_next e2, List.filter_append, List.map_append]
              by_cases z : e.1.1 = (s : Int)
              · rw [if_pos z, List.filter_cons_of_pos (by simpa using z)]
                rfl
              · rw [if_neg z, List.filter_cons_of_neg (by simpa using z)]
                rfl
            rw [er]
            by_cases z : a' = a
            · subst z
              have hs1 : s < as.length := (List.getElem?_eq_some_iff.mp hs).1
              have es : s = e.1.1.toNat := by
                exact nodup_ix hn hs hsa
              rw [upd_same, if_pos (by omega), List.map_append, es]
              rfl
            · rw [upd_ne z, if_neg, List.append_nil]
              · exact hrows s a' hs
              · intro h
                rw [show e.1.1.toNat = s by omega, hs] at hsa
                exact z (Option.some.inj hsa)
      · rintro σ H' ⟨⟨v2, v3, rfl⟩, hm', hD', hrows, k⟩
        rw [hkv.length, List.take_length] at hrows
        have sF : Same H (upd H' m (.dT kvs)) := fun b u e => by
          by_cases hb : b = m
          · rw [hb, upd_same, ← hm, ← hb, e]
          · rw [upd_ne hb]
            refine k _ _ (s1 _ _ e) fun z => ?_
            rcases List.mem_cons.mp z with z | z
            · exact hb z
            · rw [(ha b z).2.1] at e
              cases e
        have hDF : upd H' m (.dT kvs) D = some (.lst (as.map V.ref)) := by rw [upd_ne hDm]; exact hD'
        have hrF : ∀ s a, as[s]? = some a → upd H' m (.dT kvs) a = some (.lst ((rowD M s).map V.int)) := fun s a e => by
          rw [upd_ne (fun z : a = m => hmas (by rw [← z]; exact List.mem_of_getElem? e))]
          exact hrows s a e
        refine ⟨hm', ?_⟩
        generalize upd H' m (.dT kvs) = HF at *
        refine ⟨_, rfl, D, rfl, ⟨_, SqL.of hDF⟩, fun D2 hD2 => lc_it (walk_list (K := K) (a := D) (xs := as.map V.ref))
          (fun j H' => ∃ rs : List Addr, H' D2 = some (.lst (rs.map V.ref)) ∧ Paired (fun r x => RgsAt H' r x ∧ r ≠ D2) rs ((toldD M).take j) ∧ Same HF H')
          ⟨[], upd_same, .nil, Same.new hD2⟩ (fun i H' _ h => ?_) ?_ ?_⟩
        · obtain ⟨_, _, _, s3⟩ := h
          exact SqL.of (s3 _ _ hDF)
        · rintro j y H2 H3 hj ⟨rs, h1, h2, s3⟩ ⟨rfl, hy⟩
          rw [List.getElem?_map] at hy
          cases e : as[j]? with
          | none =>
            rw [e] at hy
            cases hy
          | some a =>
            rw [e] at hy
            obtain rfl : V.ref a = y := Option.some.inj hy
            have hj8 : j < 8 := by rw [← hl]; exact (List.getElem?_eq_some_iff.mp e).1
            have hrl := rowD_len M j
            refine ⟨rfl, ?_⟩
            refine ⟨_, rfl, a, rowD M j, rfl, s3 _ _ (hrF j a e), by omega, fun r H4 hr4 s4 hrg => ?_⟩
            have hrD : r ≠ D2 := (ne_of_none h1 hr4).symm
            have e4 := s4 _ _ h1
            have hlen : rs.length = j := by
              rw [h2.length, List.length_take]
              show min j 8 = j
              omega
            refine ⟨_, e4, by rw [List.length_map, hlen]; exact Nat.lt_of_lt_of_le hj8 (show 8 ≤ sizeLine by decide), rs ++ [r], by rw [upd_same, List.map_append]; rfl, ?_, Same.upd (s3.trans s4) hD2⟩
            have et : (toldD M)[j]? = some (rg (sd (rowD M j))) := by
              unfold toldD
              rw [List.getElem?_map, List.getElem?_range hj8]
              rfl
            rw [take_next et]
            exact paired_snoc (Paired.mapP h2 fun _ _ z => ⟨(z.1.mono (Same.ls s4)).put z.2 e4, z.2⟩) ⟨hrg.put hrD e4, hrD⟩
        · rintro H4 ⟨rs, h1, h2, s3⟩
          rw [List.length_map, hl, show (toldD M).take 8 = toldD M from List.take_of_length_le (Nat.le_of_eq (by simp [toldD]))] at h2
          refine q D2 H4 (sF.free hD2) (sF.trans s3) ⟨rs, h1, Paired.mapP h2 fun _ _ z => z.1⟩
theorem scLacking : FnScope ["mine", "theirs", "found", "sender", "number"] ["mine", "theirs"] (defScope sLacking) := ⟨rfl, rfl, rfl, by decide +kernel, rfl, by decide +kernel, by decide +kernel⟩
theorem k_lacking (T : Tx K mg) : C8.Cal P w K mg base 2 "lacking" spLacking [] := by
  have k_numbers_of : C8.Cal P w K mg base 1 "numbers_of" spNumbers [] := k_numbers_of T
  have k_outside : C8.Cal P w K mg base 1 "outside" spOutside [] := k_outside T
  refine calOf T.d_lacking T.g_lacking scLacking (fun _ F => F.binds fun _ _ _ _ _ _ us hl => match us, hl with | [_, _], _ => rfl) (fun vs H Q E h => ?_) (fun cdv A outer s H vs Q E hr h => ?_)
  · obtain ⟨a, b, MR, TR, rfl, _⟩ := h
    rfl
  · obtain ⟨a, b, MR, TR, rfl, hMR, hTR, hl1, hl2, hok, q⟩ := h
    refine ⟨_, (pss_cons (ps_set (i := 2) scLacking.nd rfl (Or.inl rfl) (pe_lst pa_nil))
      (pss_cons (ps_for PassesOwn.never rfl (pi_range1 (by rfl) T.n_range (pa_cons (C8.pe_gc rfl T.i_PEERS) pa_nil)) (pg_name (i := 3) scLacking.nd rfl (Or.inl rfl))
      (pss_one (ps_for PassesOwn.never rfl (pi_list (C8.pe_c k_numbers_of hr (by decide) rfl (pa_cons (pe_ix ix_list (pv 1) (pv 3) (fun _ _ => rfl)) pa_nil))) (pg_name (i := 4) scLacking.nd rfl (Or.inl rfl))
      (pss_one (ps_if (pt_val (C8.pe_c k_outside hr (by decide) rfl (pa_cons (pv 4) (pa_cons (pe_ix ix_list (pv 0) (pv 3) (fun _ _ => rfl)) pa_nil)))) (pss_one (ps_expr (pe_bm PySem.F.plainAttrs_list PySem.F.slot_list_append PySem.F.type_list_append mt_append (pv 2) (pa_cons (pe_tup (pa_cons (pv 3) (pa_cons (pv 4) pa_nil))) pa_nil)))) pss_nil)))))
      (pss_one (ps_ret (pv 2))))), ?_⟩
    have hok2 := okR_getD hok
    have hlen := lackN_len (MR := MR) hok
    obtain ⟨as, ha, has⟩ := hMR
    obtain ⟨bs0, hb, hbs⟩ := hTR
    refine ⟨(show 0 ≤ sizeLine by decide), fun r hr0 => ⟨8, rfl, by decide, by decide, for_range (lo := 0) (n := (8 : Int).toNat)
      (fun i σ H' => (∃ v3 v4, σ = [some (.ref a), some (.ref b), some (.ref r), v3, v4]) ∧ Same H H' ∧ ∃ bs : List Addr, H' r = some (.lst (bs.map V.ref)) ∧ PairsAt H' bs (lackN MR TR i))
      ⟨⟨none, none, rfl⟩, Same.new hr0, [], upd_same, .nil⟩ ?_ ?_⟩⟩
    · rintro i σ H' hi ⟨⟨v3, v4, rfl⟩, s1, bs, hr1, hp1⟩
      have hi : i < 8 := hi
      have e0 : (0 : Int) + (i : Int) = (i : Int) := Int.zero_add _
      rw [e0]
      obtain ⟨ma, hma, hmr⟩ := paired_get has i (MR.getD i []) (by rw [List.getD_eq_getElem?_getD, List.getElem?_eq_getElem (by omega)]; rfl)
      obtain ⟨ta, hta, htr⟩ := paired_get hbs i (TR.getD i []) (by rw [List.getD_eq_getElem?_getD, List.getElem?_eq_getElem (by omega)]; rfl)
      obtain ⟨o1, o2, o3⟩ := hok2 i
      refine ⟨_, rfl, _, rfl, b, _, _, _, rfl, rfl, SqL.of (s1 _ _ hb), atI_nat (by rw [List.getElem?_map, hta]; rfl), ta, _, rfl, htr.mono (Same.ls s1), o1, o2, o3, fun l H2 hl s2 h2 => ?_⟩
      have hlr : l ≠ r := (ne_of_none hr1 hl).symm
      refine ⟨l, rfl, ⟨_, SqL.of h2⟩, for_list (K := K) (a := l) (xs := (sd (ex (TR.getD i []))).map V.int)
        (fun j σ H' => (∃ v4, σ = [some (.ref a), some (.ref b), some (.ref r), some (.int (i : Int)), v4]) ∧ Same H H' ∧ H' l = some (.lst ((sd (ex (TR.getD i []))).map V.int)) ∧ ∃ bs : List Addr, H' r = some (.lst (bs.map V.ref)) ∧
          PairsAt H' bs (lackN MR TR i ++ (((sd (ex (TR.getD i []))).take j).filter (outOf (MR.getD i []))).map fun n => ((i : Int), n)))
        ⟨⟨v4, rfl⟩, s1.trans s2, h2, bs, s2 _ _ hr1, by rw [List.take_zero, List.filter_nil, List.map_nil, List.append_nil]; exact hp1.mono (Same.tups s2)⟩ (fun j σ H' _ h => SqL.of h.2.2.1) ?_ ?_⟩
      · rintro j y σ H3 hj ⟨⟨v4, rfl⟩, s3, hl3, bs, hr3, hp3⟩
        rw [List.getElem?_map] at hj
        cases e : (sd (ex (TR.getD i [])))[j]? with
        | none =>
          rw [e] at hj
          cases hj
        | some n =>
          rw [e] at hj
          obtain rfl : V.int n = y := Option.some.inj hj
          refine ⟨_, rfl, _, rfl, _, rfl, a, _, _, _, rfl, rfl, SqL.of (s3 _ _ ha), atI_nat (by rw [List.getElem?_map, hma]; rfl), ma, n, _, rfl, hmr.mono (Same.ls s3), _, rfl, iteB _ (fun c => ?_) fun c => ?_⟩
          · have hbl : bs.length ≤ 63 * 8 + 64 := by
              rw [hp3.length, List.length_append, List.length_map]
              have h1 := hlen i
              have h2 := List.length_filter_le (outOf (MR.getD i [])) ((sd (ex (TR.getD i []))).take j)
              have h3 := List.length_take_le' j (sd (ex (TR.getD i [])))
              have h4 := sd_len (ex (TR.getD i []))
              omega
            refine ⟨_, rfl, .inl ⟨rfl, _, SqL.of hr3⟩, _, rfl, _, rfl, (show 2 ≤ sizeLine by decide), fun b3 hb3 => ?_⟩
            have sb := Same.new (o := .tup [V.int (i : Int), V.int n]) hb3
            refine ⟨r, _, _, rfl, rfl, sb _ _ hr3, by rw [List.length_map]; exact Nat.lt_of_le_of_lt hbl (by decide), ?_⟩
            refine ⟨⟨some (.int n), rfl⟩, Same.upd (s3.trans sb) hr0, by rw [upd_ne hlr]; exact sb _ _ hl3, bs ++ [b3], by rw [upd_same, List.map_append]; rfl, ?_⟩
            have tr : Tups (upd H3 b3 (.tup [.int (i : Int), .int n])) (upd (upd H3 b3 (.tup [.int (i : Int), .int n])) r (.lst (bs.map V.ref ++ [.ref b3]))) := (Kp.put (S := [r]) (.head _)).tups fun x hx o e => by
              rw [List.mem_singleton.mp hx, sb _ _ hr3] at e
              cases e
              rfl
            rw [take_next e, List.filter_append, List.filter_cons_of_pos c, List.filter_nil, List.map_append, ← List.append_assoc]
            exact paired_snoc ((hp3.mono (Same.tups sb)).mono tr) (tr _ _ upd_same)
          · refine ⟨⟨some (.int n), rfl⟩, s3, hl3, bs, hr3, ?_⟩
            rw [take_next e, List.filter_append, List.filter_cons_of_neg (by rw [c]; exact fun z => nomatch z), List.filter_nil, List.append_nil]
            exact hp3
      · rintro σ H3 ⟨⟨v4, rfl⟩, s3, hl3, bs, hr3, hp3⟩
        rw [List.length_map, List.take_length] at hp3
        refine ⟨⟨some (.int (i : Int)), v4, rfl⟩, s3, bs, hr3, ?_⟩
        rw [lackN_succ]
        exact hp3
    · rintro σ H' ⟨⟨v3, v4, rfl⟩, s1, bs, hr1, hp1⟩
      exact ⟨_, rfl, q r H' hr0 s1 ⟨bs, hr1, hp1⟩⟩
theorem scAnswer : FnScope ["replica", "theirs", "sender", "number"] ["replica", "theirs"] (defScope sAnswer) := ⟨rfl, rfl, rfl, by decide +kernel, rfl, by decide +kernel, by decide +kernel⟩
theorem k_answer (T : Tx K mg) : C8.Cal P w K mg base 7 "answer" (spAnswer P w K) [] := by
  have k_lacking : C8.Cal P w K mg base 2 "lacking" spLacking [] := k_lacking T
  have k_told : C8.Cal P w K mg base 2 "told" (spTold P w K) [] := k_told T
  have k_Replica_copy_of : C8.Met P w K mg base 6 (He.ga K "Replica") "copy_of" (spCopy P w K) [] := k_Replica_copy_of T
  refine calOf T.d_answer T.g_answer scAnswer (fun _ F => F.binds fun _ _ _ _ _ _ us hl => match us, hl with | [_, _], _ => rfl) (fun vs H Q E h => ?_) (fun cdv A outer s H vs Q E hr h => ?_)
  · obtain ⟨p, d, m, b, pr, l, M, TR, rfl, _⟩ := h
    rfl
  · obtain ⟨p, d, m, b, pr, l, M, TR, rfl, hR, hM, hz, hTR, hl, hcs, q⟩ := h
    refine ⟨_, (pss_one (ps_ret (by exact (pe_lcD (own := [("sender", 2), ("number", 3)]) (g := gTup K 2 (gCons (gName 2) (gCons (gName 3) gNil))) rfl scAnswer.nd (pi_list (C8.pe_c k_lacking hr (by decide) rfl (pa_cons (pv 1) (pa_cons (C8.pe_c k_told hr (by decide) rfl (pa_cons (pv 0) pa_nil)) pa_nil)))) (blkOk_by (own := [("sender", 2), ("number", 3)]) (N := ["replica", "theirs", "sender", "number"]) (sc := defScope sAnswer) (by decide +kernel)) (fun _ _ _ _ _ => (pg_tup rfl (pgs_cons (pg_name (i := 2) scAnswer.nd rfl (Or.inl rfl)) (pgs_cons (pg_name (i := 3) scAnswer.nd rfl (Or.inl rfl)) pgs_nil)))) (fun _ _ _ _ _ => pts_nil) (fun _ _ _ _ _ => (C8.pe_mt k_Replica_copy_of hr (by decide) (pv 0) (pa_cons (pv 2) (pa_cons (pv 3) pa_nil)))))))), ?_⟩
    have hM2 : ∀ e ∈ M, 0 ≤ e.1.1 ∧ e.1.1 < 8 := fun e he => (hM e he).1
    refine ⟨_, rfl, _, rfl, p, d, m, pr, l, M, rfl, hR, hM2, hz, fun t H1 ht s1 hT => ?_⟩
    refine ⟨b, t, TR, toldD M, rfl, hTR.mono (Same.ls s1), hT, hl, by simp [toldD], okR_told hM hz, fun r H2 hr2 s2 hrg => ?_⟩
    obtain ⟨bs, hr3, hps⟩ := hrg
    have s12 := s1.trans s2
    refine ⟨r, rfl, ⟨_, SqL.of hr3⟩, fun D hD => lc_it (walk_list (K := K) (a := r) (xs := bs.map V.ref))
      (fun j H' => ∃ os : List Addr, H' D = some (.lst (os.map V.ref)) ∧ Paired (fun o (xs : List Int) => H' o = some (.lst (xs.map V.int)) ∧ o ≠ D) os ((dueO M (lackD TR (toldD M))).take j) ∧ Same H2 H')
      ⟨[], upd_same, .nil, Same.new hD⟩ (fun i H' _ h => ?_) ?_ ?_⟩
    · obtain ⟨_, _, _, s3⟩ := h
      exact SqL.of (s3 _ _ hr3)
    · rintro j y H3 H4 hj ⟨os, h1, h2, s3⟩ ⟨rfl, hy⟩
      rw [List.getElem?_map] at hy
      cases e : bs[j]? with
      | none =>
        rw [e] at hy
        cases hy
      | some z =>
        rw [e] at hy
        obtain rfl : V.ref z = y := Option.some.inj hy
        obtain ⟨k, e1, e2⟩ := paired_get' hps j z e
        have e2 : H2 z = some (.tup [.int k.1, .int k.2]) := e2
        obtain ⟨cs, hg, ok, hcl⟩ := hcs k (List.mem_of_getElem? e1)
        have sH : Same H H4 := s12.trans s3
        have hR4 := hR.same sH
        obtain ⟨⟨dx, ck, md, st, ro, pe, hp, hs⟩, _, _⟩ := hR
        refine ⟨z, _, rfl, sqT_of (s3 _ _ e2), rfl, _, _, rfl, _, _, rfl, rfl, rfl, ?_⟩
        refine ⟨_, rfl, p, dx, _, rfl, sH _ _ hp, rfl, _, rfl, _, rfl, ?_⟩
        refine ⟨p, d, m, pr, k.1, k.2, l, M, cs, rfl, hR4, hg, ok, hcl, fun o H5 ho s5 h5 => ?_⟩
        have hoD : o ≠ D := (ne_of_none h1 ho).symm
        have hj2 : j < bs.length := (List.getElem?_eq_some_iff.mp e).1
        have hlen : os.length ≤ bs.length := by
          rw [h2.length, List.length_take, hps.length, dueO, List.length_map]
          omega
        have hbl : bs.length ≤ 63 * 8 := by
          rw [hps.length]
          exact lackN_len (okR_told hM hz) 8
        refine ⟨_, s5 _ _ h1, ?_, os ++ [o], by rw [upd_same, List.map_append]; rfl, ?_, Same.upd (s3.trans s5) hD⟩
        · rw [List.length_map]
          exact Nat.lt_of_le_of_lt (Nat.le_trans hlen hbl) (by decide)
        have et : (dueO M (lackD TR (toldD M)))[j]? = some (msgO k.1 k.2 cs) := by
          unfold dueO
          rw [List.getElem?_map, e1]
          show some (msgO k.1 k.2 ((getM M k).getD [])) = _
          rw [hg]
          rfl
        rw [take_next et]
        exact paired_snoc (Paired.mapP h2 fun _ _ z => ⟨by rw [upd_ne z.2]; exact s5 _ _ z.1, z.2⟩) ⟨by rw [upd_ne hoD]; exact h5, hoD⟩
    · rintro H4 ⟨os, h1, h2, s3⟩
      rw [List.length_map, hps.length, show (dueO M (lackD TR (toldD M))).take (lackD TR (toldD M)).length = dueO M (lackD TR (toldD M)) from List.take_of_length_le (Nat.le_of_eq (by rw [dueO, List.length_map]))] at h2
      exact q D H4 (s12.free hD) (s12.trans s3) ⟨os, h1, Paired.mapP h2 fun _ _ z => z.1⟩
end
end Gt
set_option Elab.async false
set_option linter.all false
set_option maxRecDepth 100000
set_option maxHeartbeats 4000000
/-! Ranges 3: bring. -/
namespace Gt
open PySem PySem.Spec PyProof.Rows L2
theorem getM_none {l : List ME} {k : MK} : getM l k = none ↔ ∀ e ∈ l, e.1 ≠ k := by
  induction l with
  | nil => exact ⟨(fun _ _ z => nomatch z), fun _ => rfl⟩
  | cons e l ih =>
    rw [getM_cons]
    by_cases q : e.1 = k
    · rw [if_pos q]
      exact ⟨(fun z => nomatch z), fun h => absurd q (h e (.head _))⟩
    · rw [if_neg q, ih]
      exact ⟨fun h x hx => by
        rcases List.mem_cons.mp hx with rfl | hx
        · exact q
        · exact h x hx, fun h x hx => h x (.tail _ hx)⟩
theorem getM_mem {l : List ME} {k : MK} {cs : List Ch} (h : getM l k = some cs) : (k, cs) ∈ l := by
  induction l with
  | nil => cases h
  | cons e l ih =>
    rw [getM_cons] at h
    by_cases q : e.1 = k
    · rw [if_pos q] at h
      cases h
      cases q
      exact .head _
    · rw [if_neg q] at h
      exact .tail _ (ih h)
def chg (M : List ME) (k : MK) : List Ch := (getM M k).getD []
def spBring (P : Program) (w : World) (K : PySem.W.Frag) : Sp := fun vs H Q _ => ∃ (p0 d0 m0 p1 d1 m1 : Addr) (pr0 pr1 : Int) (l0 l1 : List CE) (M0 M1 : List ME), vs = [.ref p0, .ref p1] ∧ RpAt P w K H p0 d0 m0 pr0 l0 M0 ∧ RpAt P w K H p1 d1 m1 pr1 l1 M1 ∧ d0 ≠ m0 ∧ (∀ b ∈ [p1, d1, m1], b ∉ [p0, d0, m0]) ∧
  (∀ e ∈ M0, (0 ≤ e.1.1 ∧ e.1.1 < 8) ∧ 0 ≤ e.1.2 ∧ e.1.2 ≤ 100) ∧ M0.length < 64 ∧ (∀ e ∈ M1, (0 ≤ e.1.1 ∧ e.1.1 < 8) ∧ 0 ≤ e.1.2 ∧ e.1.2 ≤ 100) ∧ M1.length < 64 ∧
  (∀ k ∈ lackD (toldD M0) (toldD M1), ∃ cs, getM M1 k = some cs ∧ (∀ c ∈ cs, okC c) ∧ cs.length ≤ 1000) ∧ (∀ k ∈ lackD (toldD M0) (toldD M1), getM M0 k = none) ∧ (lackD (toldD M0) (toldD M1)).Nodup ∧ (lackD (toldD M0) (toldD M1)).length ≤ 100 ∧
  l0.length + ((lackD (toldD M0) (toldD M1)).flatMap (chg M1)).length ≤ 1000 ∧
  ∀ H', Kp [p0, d0, m0] H H' → RpAt P w K H' p0 d0 m0 pr0 (((lackD (toldD M0) (toldD M1)).flatMap (chg M1)).foldl stepC l0) (M0 ++ (lackD (toldD M0) (toldD M1)).map fun k => (k, chg M1 k)) → Q (.int ((lackD (toldD M0) (toldD M1)).length : Int)) H'
section
variable {P : Program} {w : World} {K : PySem.W.Frag} {mg : Str → Option Value} {base : Heap}
theorem scBring : FnScope ["replica", "other", "messages", "octets"] ["replica", "other"] (defScope sBring) := ⟨rfl, rfl, rfl, by decide +kernel, rfl, by decide +kernel, by decide +kernel⟩
theorem k_bring (T : Tx K mg) : C8.Cal P w K mg base 8 "bring" (spBring P w K) [] := by
  have k_answer : C8.Cal P w K mg base 7 "answer" (spAnswer P w K) [] := k_answer T
  have k_told : C8.Cal P w K mg base 2 "told" (spTold P w K) [] := k_told T
  have k_Replica_receive : C8.Met P w K mg base 7 (He.ga K "Replica") "receive" (spRecv P w K) [] := k_Replica_receive T
  refine calOf T.d_bring T.g_bring scBring (fun _ F => F.binds fun _ _ _ _ _ _ us hl => match us, hl with | [_, _], _ => rfl) (fun vs H Q E h => ?_) (fun cdv A outer s H vs Q E hr h => ?_)
  · obtain ⟨p0, d0, m0, p1, d1, m1, pr0, pr1, l0, l1, M0, M1, rfl, _⟩ := h
    rfl
  · obtain ⟨p0, d0, m0, p1, d1, m1, pr0, pr1, l0, l1, M0, M1, rfl, hR0, hR1, hdm, hdis, hM0, hz0, hM1, hz1, hL, hnew, hnd, hll, hlen, q⟩ := h
    refine ⟨_, (pss_cons (ps_set (i := 2) scBring.nd rfl (Or.inl rfl) (C8.pe_c k_answer hr (by decide) rfl (pa_cons (pv 1) (pa_cons (C8.pe_c k_told hr (by decide) rfl (pa_cons (pv 0) pa_nil)) pa_nil))))
      (pss_cons (ps_for PassesOwn.never rfl (pi_list (pv 2)) (pg_name (i := 3) scBring.nd rfl (Or.inl rfl))
      (pss_one (ps_expr (C8.pe_mt k_Replica_receive hr (by decide) (pv 0) (pa_cons (pv 3) pa_nil)))))
      (pss_one (ps_ret (pe_callB call_len_seq (by rfl) T.n_len (by decide +kernel) (pa_cons (pv 2) pa_nil)))))), ?_⟩
    refine ⟨_, rfl, _, rfl, p0, d0, m0, pr0, l0, M0, rfl, hR0, fun e he => (hM0 e he).1, hz0, fun t H1 ht s1 hT => ?_⟩
    refine ⟨p1, d1, m1, t, pr1, l1, M1, toldD M0, rfl, hR1.same s1, hM1, hz1, hT, by simp [toldD], hL, fun r H2 hr2 s2 hoc => ?_⟩
    generalize hLe : lackD (toldD M0) (toldD M1) = L at *
    have s12 := s1.trans s2
    obtain ⟨os, hr3, hos⟩ := hoc
    have hR2 := hR0.same s12
    have hol : os.length = L.length := by rw [hos.length, dueO, List.length_map]
    refine ⟨_, rfl, r, rfl, ⟨_, SqL.of hr3⟩, for_list (K := K) (a := r) (xs := os.map V.ref)
      (fun i σ H' => (∃ v3, σ = [some (.ref p0), some (.ref p1), some (.ref r), v3]) ∧ Kp [p0, d0, m0] H2 H' ∧ RpAt P w K H' p0 d0 m0 pr0 (((L.take i).flatMap (chg M1)).foldl stepC l0) (M0 ++ (L.take i).map fun k => (k, chg M1 k)))
      ⟨⟨none, rfl⟩, .refl _ _, by rw [List.take_zero, List.map_nil, List.append_nil]; exact hR2⟩ (fun i σ H' _ h => SqL.of ((h.2.1.fix hR2.prts) _ _ hr3 rfl)) ?_ ?_⟩
    · rintro i y σ H' hi ⟨⟨v3, rfl⟩, k, hR⟩
      rw [List.getElem?_map] at hi
      cases e : os[i]? with
      | none =>
        rw [e] at hi
        cases hi
      | some z =>
        rw [e] at hi
        obtain rfl : V.ref z = y := Option.some.inj hi
        obtain ⟨xs, e1, e2⟩ := paired_get' hos i z e
        have e1' := e1
        unfold dueO at e1'
        rw [List.getElem?_map] at e1'
        cases e3 : L[i]? with
        | none =>
          rw [e3] at e1'
          cases e1'
        | some kk =>
          rw [e3] at e1'
          obtain rfl : msgO kk.1 kk.2 ((getM M1 kk).getD []) = xs := Option.some.inj e1'
          have hkL := List.mem_of_getElem? e3
          obtain ⟨cs, hg, ok, hcl⟩ := hL kk hkL
          have hec : chg M1 kk = cs := by rw [chg, hg]; rfl
          have hcs2 : (getM M1 kk).getD [] = cs := hec
          rw [hcs2] at e2
          have f := k.fix hR2.prts
          have hk : (0 ≤ kk.1 ∧ kk.1 < 8) ∧ 0 ≤ kk.2 ∧ kk.2 ≤ 100 := hM1 _ (getM_mem hg)
          have hiL : i < L.length := (List.getElem?_eq_some_iff.mp e3).1
          have hsum : ((L.take i).flatMap (chg M1)).length + cs.length ≤ (L.flatMap (chg M1)).length := by
            have : L.flatMap (chg M1) = (L.take (i + 1)).flatMap (chg M1) ++ (L.drop (i + 1)).flatMap (chg M1) := by rw [← List.flatMap_append, List.take_append_drop]
            rw [this, take_next e3, List.flatMap_append, List.length_append, List.length_append]
            simp only [List.flatMap_cons, List.flatMap_nil, List.append_nil, hec]
            omega
          have hcl2 := cells_len ((L.take i).flatMap (chg M1)) l0
          have hti : (L.take i).length ≤ L.length := List.length_take_le' _ _
          obtain ⟨⟨dx, ck, md, st, ro, pe, hp, hst⟩, hc2, hm2⟩ := hR
          refine ⟨_, rfl, p0, dx, _, rfl, hp, rfl, _, rfl, ?_⟩
          refine ⟨p0, d0, m0, z, pr0, kk.1, kk.2, _, _, cs, rfl, ⟨⟨dx, ck, md, st, ro, pe, hp, hst⟩, hc2, hm2⟩, hdm, ?_, f _ _ e2 rfl, hk.1, ⟨hk.2.1, by have := hk.2.2; omega⟩, ok, ?_, by omega, fun H3 k3 hR3 => ?_⟩
          · rw [getM_none]
            intro x hx
            rcases List.mem_append.mp hx with hx | hx
            · exact getM_none.mp (hnew kk hkL) x hx
            · obtain ⟨k2, hk2, rfl⟩ := List.mem_map.mp hx
              intro e7
              have e7 : k2 = kk := e7
              obtain ⟨j, hj, e5⟩ := List.getElem_of_mem hk2
              have hji : j < i := by
                rw [List.length_take] at hj
                omega
              have e6 : L[j]? = some k2 := by
                rw [List.getElem_take] at e5
                rw [← e5]
                exact List.getElem?_eq_getElem (by omega)
              rw [e7] at e6
              have := nodup_ix hnd e6 e3
              omega
          · rw [List.length_append, List.length_map]
            omega
          · refine ⟨⟨some (.ref z), rfl⟩, k.trans k3, ?_⟩
            rw [take_next e3, List.flatMap_append, List.foldl_append, List.map_append, ← List.append_assoc]
            simp only [List.flatMap_cons, List.flatMap_nil, List.append_nil, List.map_cons, List.map_nil, hec]
            exact hR3
    · rintro σ H' ⟨⟨v3, rfl⟩, k, hR⟩
      rw [List.length_map, hol, List.take_length] at hR
      have hr4 := (k.fix hR2.prts) _ _ hr3 rfl
      refine ⟨_, rfl, r, _, rfl, .inl (SqL.of hr4), ?_⟩
      rw [List.length_map, hol]
      exact q H' ((Kp.of s12).trans k) hR
end
end Gt
set_option Elab.async false
set_option linter.all false
set_option maxRecDepth 100000
set_option maxHeartbeats 4000000
/-! The law's helpers 1: draws. -/
namespace Gt
open PySem PySem.Spec PyProof.Rows L2
/-- the box of draws at x -/
def BoxAt (H : Hp) (x : Addr) : Prop := ∃ (b : Addr) (ns : List Int) (i : Nat), H x = some (.lst [.ref b, .int (i : Int)]) ∧ H b = some (.lst (ns.map V.int)) ∧ b ≠ x ∧ ns ≠ []
def notBox (o : HO) : Prop := ∀ r i, o ≠ .lst [.ref r, .int i]
theorem BoxAt.keep {H H' : Hp} {x : Addr} (h : BoxAt H x) (k : Kp [x] H H') {b : Addr} {o : HO} (e : H b = some o) (n : notBox o) : H' b = some o := by
  refine k b o e fun m => ?_
  obtain ⟨c, ns, i, h1, _⟩ := h
  rw [List.mem_singleton.mp m, h1] at e
  exact n c i (Option.some.inj e).symm
theorem BoxAt.tups {H H' : Hp} {x : Addr} (h : BoxAt H x) (k : Kp [x] H H') : Tups H H' := fun b xs e => h.keep k e fun _ _ z => nomatch z
theorem BoxAt.same {H H' : Hp} {x : Addr} (h : BoxAt H x) (s : Same H H') : BoxAt H' x := by
  obtain ⟨b, ns, i, h1, h2, h3⟩ := h
  exact ⟨b, ns, i, s _ _ h1, s _ _ h2, h3⟩
theorem BoxAt.some {H : Hp} {x : Addr} (h : BoxAt H x) : H x ≠ none := by
  obtain ⟨b, ns, i, h1, h2, h3⟩ := h
  rw [h1]
  exact fun z => nomatch z
theorem nb_refs (as : List Addr) : notBox (.lst (as.map V.ref)) := by
  intro r i z
  have z := HO.lst.inj z
  match as, z with
  | [_, _], z => cases z
theorem nb_ints (ns : List Int) : notBox (.lst (ns.map V.int)) := by
  intro r i z
  have z := HO.lst.inj z
  match ns, z with
  | _ :: _, z => cases z
theorem BoxAt.ne {H : Hp} {x a : Addr} {o : HO} (h : BoxAt H x) (e : H a = .some o) (n : notBox o) : a ≠ x := by
  rintro rfl
  obtain ⟨c, ns, i, h1, _⟩ := h
  rw [h1] at e
  exact n c i (Option.some.inj e).symm
theorem big_pos {z : Int} (h : decide (10 ^ (18 : Int).toNat ≤ z) = true) : 0 < z := by
  have h := of_decide_eq_true h
  have : (0 : Int) < 10 ^ (18 : Int).toNat := by decide
  omega
theorem app_int1 {H : Hp} {r : Addr} {ns : List Int} {z c : Int} {n : Nat} (h : ns.length ≤ n) : ∃ ms : List Int, upd H r (.lst (ns.map V.int ++ [V.int z])) r = some (.lst (ms.map V.int)) ∧ ms.length ≤ n + 1 ∧ ((0 < c ∧ ms = []) ∨ 1 ≤ ms.length) ∧ (0 < n + 1 → 1 ≤ ms.length) := by
  have e : (ns ++ [z]).length = ns.length + 1 := by rw [List.length_append, List.length_singleton]
  refine ⟨ns ++ [z], ?_, by omega, .inr (by omega), fun _ => by omega⟩
  rw [upd_same, List.map_append]
  rfl
theorem app_int2 {H : Hp} {r : Addr} {ns : List Int} {z : Int} {n : Nat} (h : ns.length ≤ n) (h2 : n ≤ ns.length) : ∃ ms : List Int, upd H r (.lst (ns.map V.int ++ [V.int z])) r = some (.lst (ms.map V.int)) ∧ ms.length ≤ n + 1 ∧ n + 1 ≤ ms.length := by
  have e : (ns ++ [z]).length = ns.length + 1 := by rw [List.length_append, List.length_singleton]
  refine ⟨ns ++ [z], ?_, by omega, by omega⟩
  rw [upd_same, List.map_append]
  rfl
theorem sqL_same {K : PySem.W.Frag} {H H' : Hp} {a : Addr} {xs : List V} (h : SqL K H a xs) (s : Same H H') : SqL K H' a xs := by
  rcases h with (h | ⟨o, h⟩) | h
  · exact .inl (.inl (s _ _ h))
  · exact .inl (.inr ⟨o, s _ _ h⟩)
  · exact .inr h
def spCell (K : PySem.W.Frag) : Sp := fun vs H Q _ => ∃ (a : Addr) (ns : List Int) (k : Nat), vs = [.ref a, .int (k : Int)] ∧ SqL K H a (ns.map V.int) ∧ ∀ c, Q (.int c) H
def spRow : Sp := fun vs H Q _ => ∃ (c k : Int), vs = [.int c, .int k, .int 12] ∧ ∀ (r : Addr) (ns : List Int) (H' : Hp), H r = none → Same H H' → H' r = some (.lst (ns.map V.int)) → ns.length ≤ 60 → 1 ≤ ns.length → Q (.ref r) H'
def spBox (K : PySem.W.Frag) : Sp := fun vs H Q _ => ∃ (a : Addr) (ns : List Int), vs = [.ref a, .int 0, .int 40] ∧ SqL K H a (ns.map V.int) ∧ ∀ x H', H x = none → Same H H' → BoxAt H' x → Q (.ref x) H'
def spDraw : Sp := fun vs H Q _ => ∃ (x : Addr) (m : Int), vs = [.ref x, .int m] ∧ BoxAt H x ∧ 0 < m ∧ ∀ d H', 0 ≤ d → d < m → Kp [x] H H' → BoxAt H' x → Q (.int d) H'
def spPick : Sp := fun vs H Q _ => ∃ (x a : Addr) (xs : List V), vs = [.ref x, .ref a] ∧ BoxAt H x ∧ H a = some (.lst xs) ∧ notBox (.lst xs) ∧ xs ≠ [] ∧ ∀ v H', v ∈ xs → Kp [x] H H' → BoxAt H' x → Q v H'
def spField : Sp := fun vs H Q _ => ∃ (x : Addr), vs = [.ref x] ∧ BoxAt H x ∧ ∀ (l : List Nat) (H' : Hp), okL l → 1 ≤ l.length ∧ l.length ≤ 8 → Kp [x] H H' → BoxAt H' x → Q (.str (SX.S l)) H'
def spWorthL : Sp := fun vs H Q _ => ∃ (x nl n0 n1 : Addr), vs = [.ref x, .ref nl] ∧ BoxAt H x ∧ H nl = some (.lst [.ref n0, .ref n1]) ∧ NmAt H n0 0 0 ∧ NmAt H n1 1 0 ∧ ∀ v u H', WoAt H' v u → okW u → Kp [x] H H' → BoxAt H' x → Q v H'
section
variable {P : Program} {w : World} {K : PySem.W.Frag} {mg : Str → Option Value} {base : Heap}
theorem scLawCell : FnScope ["_law_script", "_law_k"] ["_law_script", "_law_k"] (defScope sLawCell) := ⟨rfl, rfl, rfl, by decide +kernel, rfl, by decide +kernel, by decide +kernel⟩
theorem k__law_cell (T : Tx K mg) : C8.Cal P w K mg base 1 "_law_cell" (spCell K) [] := by
  refine calOf T.d__law_cell T.g__law_cell scLawCell (fun _ F => F.binds fun _ _ _ _ _ _ us hl => match us, hl with | [_, _], _ => rfl) (fun vs H Q E h => ?_) (fun cdv A outer s H vs Q E hr h => ?_)
  · obtain ⟨a, ns, k, rfl, _⟩ := h
    rfl
  · obtain ⟨a, ns, k, rfl, ha, q⟩ := h
    refine ⟨_, (pss_cons (ps_if (pt_cmpR op_lt (pv 1) (pe_callB call_len_seq (by rfl) T.n_len (by decide +kernel) (pa_cons (pv 0) pa_nil)) (nomark _)) (pss_one (ps_ret (pe_ix ix_list (pv 0) (pv 1) (fun _ _ => rfl)))) pss_nil)
      (pss_one (ps_ret pe_int))), ?_⟩
    refine ⟨_, rfl, _, rfl, a, _, rfl, .inl ha, _, _, rfl, rfl, _, rfl, iteB _ (fun c => ?_) fun c => q 0⟩
    have c := of_decide_eq_true c
    rw [List.length_map] at c
    have hk : k < ns.length := by omega
    refine ⟨_, rfl, _, rfl, a, _, _, _, rfl, rfl, ha, atI_nat (v := V.int ns[k]) (by rw [List.getElem?_map, List.getElem?_eq_getElem hk]; rfl), q _⟩
theorem scLawRow : FnScope ["_law_cell_here", "_law_k", "_law_many", "_law_row_here", "_law_turn", "_law_seed"] ["_law_cell_here", "_law_k", "_law_many"] (defScope sLawRow) := ⟨rfl, rfl, rfl, by decide +kernel, rfl, by decide +kernel, by decide +kernel⟩
theorem k__law_row (T : Tx K mg) : C8.Cal P w K mg base 1 "_law_row" spRow [] := by
  refine calOf T.d__law_row T.g__law_row scLawRow (fun _ F => F.binds fun _ _ _ _ _ _ us hl => match us, hl with | [_, _, _], _ => rfl) (fun vs H Q E h => ?_) (fun cdv A outer s H vs Q E hr h => ?_)
  · obtain ⟨c, k, rfl, _⟩ := h
    rfl
  · obtain ⟨c, k, rfl, q⟩ := h
    refine ⟨_, (pss_cons (ps_set (i := 3) scLawRow.nd rfl (Or.inl rfl) (pe_lst pa_nil))
      (pss_cons (ps_if (pt_cmpR op_lt (pv 0) pe_int (nomark _)) (pss_one (ps_set (i := 0) scLawRow.nd rfl (Or.inl rfl) (pe_op op_sub pe_int (pe_op op_mul pe_int (pv 0))))) pss_nil)
      (pss_cons (ps_if (pt_cmpR op_ge (pv 0) (pe_op op_pow pe_int pe_int) (nomark _)) (pss_cons (ps_for PassesOwn.never rfl (pi_range1 (by rfl) T.n_range (pa_cons pe_int pa_nil)) (pg_name (i := 4) scLawRow.nd rfl (Or.inl rfl))
      (pss_one (ps_if (PW.pt (pw_and (pt_cmpR op_gt (pv 0) pe_int (nomark _)) (pw_and1 (pt_cmpR op_lt (pe_callB call_len_seq (by rfl) T.n_len (by decide +kernel) (pa_cons (pv 3) pa_nil)) (pv 2) (nomark _))))) (pss_cons (ps_expr (pe_bm PySem.F.plainAttrs_list PySem.F.slot_list_append PySem.F.type_list_append mt_append (pv 3) (pa_cons (pe_op op_mod (pe_callTy call_int1 (by rfl) T.n_int (by decide +kernel) (pa_cons (pv 0) pa_nil)) pe_int) pa_nil)))
      (pss_one (ps_set (i := 0) scLawRow.nd rfl (Or.inl rfl) (pe_op op_fdiv (pv 0) pe_int)))) pss_nil)))
      (pss_one (ps_ret (pv 3)))) pss_nil)
      (pss_cons (ps_set (i := 5) scLawRow.nd rfl (Or.inl rfl) (pe_op op_mod (pe_callTy call_int1 (by rfl) T.n_int (by decide +kernel) (pa_cons (pe_op op_add (pe_op op_add (pe_op op_mul (pv 0) pe_int) (pe_op op_mul (pv 1) pe_int)) pe_int) pa_nil)) pe_int))
      (pss_cons (ps_for PassesOwn.never rfl (pi_range1 (by rfl) T.n_range (pa_cons (pv 2) pa_nil)) (pg_name (i := 4) scLawRow.nd rfl (Or.inl rfl))
      (pss_cons (ps_set (i := 5) scLawRow.nd rfl (Or.inl rfl) (pe_op op_mod (pe_callTy call_int1 (by rfl) T.n_int (by decide +kernel) (pa_cons (pe_op op_add (pe_op op_add (pe_op op_mul (pv 5) pe_int) (pe_op op_mul pe_int (pv 4))) pe_int) pa_nil)) pe_int))
      (pss_one (ps_expr (pe_bm PySem.F.plainAttrs_list PySem.F.slot_list_append PySem.F.type_list_append mt_append (pv 3) (pa_cons (pe_op op_mod (pe_callTy call_int1 (by rfl) T.n_int (by decide +kernel) (pa_cons (pe_op op_fdiv (pv 5) pe_int) pa_nil)) pe_int) pa_nil))))))
      (pss_one (ps_ret (pv 3)))))))), ?_⟩
    refine ⟨(show 0 ≤ sizeLine by decide), fun r hr0 => ?_⟩
    have fin : ∀ (n : Nat) (H' : Hp), n ≤ 60 → Kp [r] (upd H r (.lst [])) H' → (∃ ns : List Int, H' r = some (.lst (ns.map V.int)) ∧ ns.length ≤ n ∧ 1 ≤ ns.length) → Q (.ref r) H' := fun n H' hn k ⟨ns, h1, h2, h3⟩ =>
      q r ns H' hr0 (fun b u e => k b u (Same.new hr0 b u e) (by rw [List.mem_singleton]; exact ne_of_none e hr0)) h1 (by omega) h3
    refine ⟨_, rfl, _, _, rfl, rfl, _, rfl, iteB _ (fun _ => ⟨_, rfl, _, _, rfl, rfl, .inl (by decide), _, _, rfl, rfl, ?_⟩) fun _ => ?_⟩
    all_goals
      refine ⟨_, rfl, _, _, rfl, rfl, ⟨by decide, by decide, by decide⟩, _, _, rfl, rfl, _, rfl, iteB _ (fun hbig => ?_) fun _ => ?_⟩
      · refine ⟨60, rfl, by decide, by decide, for_range (lo := 0) (n := (60 : Int).toNat)
          (fun i σ H' => ∃ c', (∃ v, σ = [some (.int c'), some (.int k), some (.int 12), some (.ref r), v, none]) ∧ Kp [r] (upd H r (.lst [])) H' ∧ ∃ ns : List Int, H' r = some (.lst (ns.map V.int)) ∧ ns.length ≤ i ∧ ((0 < c' ∧ ns = []) ∨ 1 ≤ ns.length) ∧ (0 < i → 1 ≤ ns.length))
          ⟨_, ⟨none, rfl⟩, .refl _ _, [], upd_same, Nat.le_refl _, .inl ⟨big_pos hbig, rfl⟩, fun z => absurd z (Nat.lt_irrefl 0)⟩ ?_ ?_⟩
        · rintro i σ H' hi ⟨c', ⟨v, rfl⟩, k1, ns, h1, h2, h3, h4⟩
          have hi : i < 60 := hi
          refine ⟨_, rfl, _, _, rfl, rfl, _, rfl, iteB _ (fun _ => ⟨_, rfl, r, _, rfl, .inl (SqL.of h1), _, rfl, _, _, rfl, rfl, _, rfl, iteB _ (fun _ => ?_) fun hn12 => ?_⟩) fun hc0 => iteF ?_⟩
          · refine ⟨_, rfl, .inl ⟨rfl, _, SqL.of h1⟩, _, rfl, .inl ⟨_, rfl, _, _, rfl, rfl, (show (0 : Int) < 1000 by decide), r, _, _, rfl, rfl, h1, ?_, ?_⟩⟩
            · rw [List.length_map]
              exact Nat.lt_of_le_of_lt (show _ ≤ 60 by omega) (by decide)
            · refine ⟨_, rfl, _, _, rfl, rfl, ⟨by decide, by decide⟩, _, ⟨some (.int (0 + (i : Int))), rfl⟩, k1.trans (Kp.put (.head _)), app_int1 h2⟩
          · have hn12 := of_decide_eq_false hn12
            rw [List.length_map] at hn12
            exact ⟨c', ⟨some (.int (0 + (i : Int))), rfl⟩, k1, ns, h1, by omega, .inr (by omega), fun _ => by omega⟩
          · have hc0 := of_decide_eq_false hc0
            have h5 : 1 ≤ ns.length := by
              rcases h3 with ⟨z, _⟩ | z
              · exact absurd z hc0
              · exact z
            exact ⟨c', ⟨some (.int (0 + (i : Int))), rfl⟩, k1, ns, h1, by omega, .inr h5, fun _ => h5⟩
        · rintro σ H' ⟨c', ⟨v, rfl⟩, k1, ns, h1, h2, _, h4⟩
          exact ⟨_, rfl, fin 60 H' (Nat.le_refl _) k1 ⟨ns, h1, h2, h4 (by decide)⟩⟩
      · refine ⟨_, rfl, _, _, rfl, rfl, .inr (by decide), _, rfl, _, _, rfl, rfl, .inr (by decide), _, _, rfl, rfl, _, _, rfl, rfl, .inl ⟨_, rfl, _, _, rfl, rfl, (show (0 : Int) < 2147483647 by decide), ?_⟩⟩
        refine ⟨_, rfl, _, rfl, by decide, by decide, for_range (lo := 0) (n := (12 : Int).toNat)
          (fun i σ H' => (∃ c' v sd, σ = [some (.int c'), some (.int k), some (.int 12), some (.ref r), v, some (.int sd)]) ∧ Kp [r] (upd H r (.lst [])) H' ∧ ∃ ns : List Int, H' r = some (.lst (ns.map V.int)) ∧ ns.length ≤ i ∧ i ≤ ns.length)
          ⟨⟨_, none, _, rfl⟩, .refl _ _, [], upd_same, Nat.le_refl _, Nat.le_refl _⟩ ?_ ?_⟩
        · rintro i σ H' hi ⟨⟨c', v, sd, rfl⟩, k1, ns, h1, h2, h3⟩
          have hi : i < 12 := hi
          refine ⟨_, rfl, _, _, rfl, rfl, .inr (by decide), _, rfl, _, _, rfl, rfl, .inl (by decide), _, _, rfl, rfl, _, _, rfl, rfl, .inl ⟨_, rfl, _, _, rfl, rfl, (show (0 : Int) < 2147483647 by decide), ?_⟩⟩
          refine ⟨_, rfl, .inl ⟨rfl, _, SqL.of h1⟩, _, rfl, _, _, rfl, rfl, ⟨by decide, by decide⟩, .inl ⟨_, rfl, _, _, rfl, rfl, (show (0 : Int) < 1000 by decide), r, _, _, rfl, rfl, h1, ?_, ?_⟩⟩
          · rw [List.length_map]
            exact Nat.lt_of_le_of_lt (show _ ≤ 60 by omega) (by decide)
          · refine ⟨⟨c', some (.int (0 + (i : Int))), _, rfl⟩, k1.trans (Kp.put (.head _)), app_int2 h2 h3⟩
        · rintro σ H' ⟨⟨c', v, sd, rfl⟩, k1, ns, h1, h2, h3⟩
          exact ⟨_, rfl, fin 12 H' (by decide) k1 ⟨ns, h1, h2, Nat.le_trans (by decide) h3⟩⟩
theorem scLawBox : FnScope ["_law_script", "_law_first", "_law_last", "_law_row_here", "_law_k"] ["_law_script", "_law_first", "_law_last"] (defScope sLawBox) := ⟨rfl, rfl, rfl, by decide +kernel, rfl, by decide +kernel, by decide +kernel⟩
theorem k__law_box (T : Tx K mg) : C8.Cal P w K mg base 2 "_law_box" (spBox K) [] := by
  have k__law_cell : C8.Cal P w K mg base 1 "_law_cell" (spCell K) [] := k__law_cell T
  have k__law_row : C8.Cal P w K mg base 1 "_law_row" spRow [] := k__law_row T
  refine calOf T.d__law_box T.g__law_box scLawBox (fun _ F => F.binds fun _ _ _ _ _ _ us hl => match us, hl with | [_, _, _], _ => rfl) (fun vs H Q E h => ?_) (fun cdv A outer s H vs Q E hr h => ?_)
  · obtain ⟨a, ns, rfl, _⟩ := h
    rfl
  · obtain ⟨a, ns, rfl, ha, q⟩ := h
    refine ⟨_, (pss_cons (ps_set (i := 3) scLawBox.nd rfl (Or.inl rfl) (pe_lst pa_nil))
      (pss_cons (ps_for PassesOwn.never rfl (pi_range2 (by rfl) T.n_range (pa_cons (pv 1) (pa_cons (pv 2) pa_nil))) (pg_name (i := 4) scLawBox.nd rfl (Or.inl rfl))
      (pss_one (ps_set (i := 3) scLawBox.nd rfl (Or.inl rfl) (pe_op op_cat (pv 3) (C8.pe_c k__law_row hr (by decide) rfl (pa_cons (C8.pe_c k__law_cell hr (by decide) rfl (pa_cons (pv 0) (pa_cons (pv 4) pa_nil))) (pa_cons (pv 4) (pa_cons pe_int pa_nil))))))))
      (pss_one (ps_ret (pe_lst (pa_cons (pv 3) (pa_cons pe_int pa_nil))))))), ?_⟩
    refine ⟨(show 0 ≤ sizeLine by decide), fun r0 hr0 => ?_⟩
    refine ⟨_, rfl, _, rfl, 0, 40, rfl, by decide, for_range (lo := 0) (n := ((40 : Int) - 0).toNat)
      (fun i σ H' => (∃ r v, σ = [some (.ref a), some (.int 0), some (.int 40), some (.ref r), v] ∧ H r = none ∧ ∃ ns : List Int, H' r = some (.lst (ns.map V.int)) ∧ ns.length ≤ 60 * i ∧ i ≤ ns.length) ∧ Same H H')
      ⟨⟨r0, none, rfl, hr0, [], upd_same, Nat.le_refl _, Nat.le_refl _⟩, Same.new hr0⟩ ?_ ?_⟩
    · rintro i σ H' hi ⟨⟨r, v, rfl, hr1, ms, h1, h2, h5⟩, s1⟩
      have hi : i < 40 := hi
      have e0 : (0 : Int) + (i : Int) = (i : Int) := Int.zero_add _
      rw [e0]
      refine ⟨_, rfl, _, rfl, _, rfl, a, ns, i, rfl, sqL_same ha s1, fun c => ?_⟩
      refine ⟨_, rfl, c, i, rfl, fun r2 ns2 H2 hr2 s2 h3 h4 h6 => ?_⟩
      refine ⟨r, r2, _, _, rfl, rfl, s2 _ _ h1, h3, line_ge (by rw [List.length_map, List.length_map]; omega), fun r3 hr3 => ?_⟩
      refine ⟨⟨r3, some (.int (i : Int)), rfl, (s1.trans s2).free hr3, ms ++ ns2, ?_, ?_, ?_⟩, (s1.trans s2).trans (Same.new hr3)⟩
      · rw [upd_same, List.map_append]
      · rw [List.length_append]
        omega
      · rw [List.length_append]
        omega
    · rintro σ H' ⟨⟨r, v, rfl, hr1, ms, h1, h2, h5⟩, s1⟩
      refine ⟨_, rfl, (show 2 ≤ sizeLine by decide), fun x hx => ?_⟩
      exact q x _ (s1.free hx) (s1.trans (Same.new hx)) ⟨r, ms, 0, upd_same, Same.new hx _ _ h1, ne_of_none h1 hx, fun z => by
        rw [z] at h5
        exact absurd h5 (by decide)⟩
theorem scLawDraw : FnScope ["_law_box_here", "_law_many", "_law_at"] ["_law_box_here", "_law_many"] (defScope sLawDraw) := ⟨rfl, rfl, rfl, by decide +kernel, rfl, by decide +kernel, by decide +kernel⟩
theorem k__law_draw (T : Tx K mg) : C8.Cal P w K mg base 1 "_law_draw" spDraw [] := by
  refine calOf T.d__law_draw T.g__law_draw scLawDraw (fun _ F => F.binds fun _ _ _ _ _ _ us hl => match us, hl with | [_, _], _ => rfl) (fun vs H Q E h => ?_) (fun cdv A outer s H vs Q E hr h => ?_)
  · obtain ⟨x, m, rfl, _⟩ := h
    rfl
  · obtain ⟨x, m, rfl, ⟨b, ns, i, hx, hb, hne⟩, hm, q⟩ := h
    refine ⟨_, (pss_cons (ps_set (i := 2) scLawDraw.nd rfl (Or.inl rfl) (pe_ix ix_list (pv 0) pe_int (fun _ _ => rfl)))
      (pss_cons (ps_asg (pe_op op_add (pv 2) pe_int) (pg_sub (pv 0) pe_int set_list))
      (pss_cons (ps_if (pt_cmpR op_lt (pv 2) (pe_callB call_len_seq (by rfl) T.n_len (by decide +kernel) (pa_cons (pe_ix ix_list (pv 0) pe_int (fun _ _ => rfl)) pa_nil)) (nomark _)) (pss_one (ps_ret (pe_op op_mod (pe_callTy call_int1 (by rfl) T.n_int (by decide +kernel) (pa_cons (pe_ix ix_list (pe_ix ix_list (pv 0) pe_int (fun _ _ => rfl)) (pv 2) (fun _ _ => rfl)) pa_nil)) (pv 1)))) pss_nil)
      (pss_one (ps_ret (pe_op op_mod (pe_callTy call_int1 (by rfl) T.n_int (by decide +kernel) (pa_cons (pe_op op_add (pe_op op_mul (pv 2) pe_int) pe_int) pa_nil)) (pv 1))))))), ?_⟩
    refine ⟨_, rfl, x, _, _, _, rfl, rfl, SqL.of hx, atI_nat (j := 1) rfl, ?_⟩
    refine ⟨_, rfl, _, _, rfl, rfl, _, rfl, x, _, _, _, rfl, rfl, hx, rfl, ?_⟩
    have k1 : Kp [x] H (upd H x (.lst [.ref b, .int ((i : Int) + 1)])) := Kp.put (.head _)
    have hb1 : upd H x (.lst [.ref b, .int ((i : Int) + 1)]) b = some (.lst (ns.map V.int)) := by rw [upd_ne hne.1]; exact hb
    have hB : BoxAt (upd H x (.lst [.ref b, .int ((i : Int) + 1)])) x := ⟨b, ns, i + 1, upd_same, hb1, hne⟩
    have hd : ∀ z : Int, 0 ≤ z % m ∧ z % m < m := fun z => ⟨Int.emod_nonneg _ (by omega), Int.emod_lt_of_pos _ hm⟩
    refine ⟨_, rfl, _, rfl, x, _, _, _, rfl, rfl, SqL.of upd_same, atI_nat (j := 0) rfl, b, _, rfl, .inl (SqL.of hb1), _, _, rfl, rfl, _, rfl, iteB _ (fun c => ?_) fun c => ?_⟩
    · have c := of_decide_eq_true c
      rw [List.length_map] at c
      have hk : i < ns.length := by omega
      refine ⟨_, rfl, x, _, _, _, rfl, rfl, SqL.of upd_same, atI_nat (j := 0) rfl, _, rfl, b, _, _, _, rfl, rfl, SqL.of hb1, atI_nat (v := V.int ns[i]) (by rw [List.getElem?_map, List.getElem?_eq_getElem hk]; rfl), .inl ⟨_, rfl, _, rfl, _, _, rfl, rfl, hm, ?_⟩⟩
      exact q _ _ (hd _).1 (hd _).2 k1 hB
    · refine ⟨_, rfl, _, _, rfl, rfl, .inr (by decide), _, _, rfl, rfl, .inl ⟨_, rfl, _, rfl, _, _, rfl, rfl, hm, ?_⟩⟩
      exact q _ _ (hd _).1 (hd _).2 k1 hB
theorem scLawPick : FnScope ["_law_box_here", "_law_row_here"] ["_law_box_here", "_law_row_here"] (defScope sLawPick) := ⟨rfl, rfl, rfl, by decide +kernel, rfl, by decide +kernel, by decide +kernel⟩
theorem k__law_pick (T : Tx K mg) : C8.Cal P w K mg base 2 "_law_pick" spPick [] := by
  have k__law_draw : C8.Cal P w K mg base 1 "_law_draw" spDraw [] := k__law_draw T
  refine calOf T.d__law_pick T.g__law_pick scLawPick (fun _ F => F.binds fun _ _ _ _ _ _ us hl => match us, hl with | [_, _], _ => rfl) (fun vs H Q E h => ?_) (fun cdv A outer s H vs Q E hr h => ?_)
  · obtain ⟨x, a, xs, rfl, _⟩ := h
    rfl
  · obtain ⟨x, a, xs, rfl, hB, ha, hn, hne, q⟩ := h
    refine ⟨_, (pss_one (ps_ret (pe_ix ix_list (pv 1) (pe_op op_mod (pe_callTy call_int1 (by rfl) T.n_int (by decide +kernel) (pa_cons (C8.pe_c k__law_draw hr (by decide) rfl (pa_cons (pv 0) (pa_cons pe_int pa_nil))) pa_nil)) (pe_callB call_len_seq (by rfl) T.n_len (by decide +kernel) (pa_cons (pv 1) pa_nil))) (fun _ _ => rfl)))), ?_⟩
    refine ⟨_, rfl, _, rfl, x, 900, rfl, hB, by decide, fun d H1 hd1 hd2 k1 hB1 => .inl ⟨_, rfl, ?_⟩⟩
    have ha1 := hB.keep k1 ha hn
    have hpos : 0 < xs.length := List.length_pos_iff.mpr hne
    refine ⟨_, rfl, a, _, rfl, .inl (SqL.of ha1), _, _, rfl, rfl, (show (0 : Int) < (xs.length : Int) by omega), ?_⟩
    have h1 : 0 ≤ d % (xs.length : Int) := Int.emod_nonneg _ (by omega)
    have h2 : d % (xs.length : Int) < (xs.length : Int) := Int.emod_lt_of_pos _ (by omega)
    have hlt : (d % (xs.length : Int)).toNat < xs.length := by omega
    refine ⟨a, _, _, xs[(d % (xs.length : Int)).toNat], rfl, rfl, SqL.of ha1, ?_, q _ H1 (List.getElem_mem hlt) k1 hB1⟩
    have := atI_nat (List.getElem?_eq_getElem hlt)
    rwa [Int.toNat_of_nonneg h1] at this
theorem scLawField : FnScope ["_law_box_here"] ["_law_box_here"] (defScope sLawField) := ⟨rfl, rfl, rfl, by decide +kernel, rfl, by decide +kernel, by decide +kernel⟩
theorem k__law_field (T : Tx K mg) : C8.Cal P w K mg base 2 "_law_field" spField [] := by
  have k__law_draw : C8.Cal P w K mg base 1 "_law_draw" spDraw [] := k__law_draw T
  refine calOf T.d__law_field T.g__law_field scLawField (fun _ F => F.binds fun _ _ _ _ _ _ us hl => match us, hl with | [_], _ => rfl) (fun vs H Q E h => ?_) (fun cdv A outer s H vs Q E hr h => ?_)
  · obtain ⟨x, rfl, _⟩ := h
    rfl
  · obtain ⟨x, rfl, hB, q⟩ := h
    refine ⟨_, (pss_one (ps_ret (pe_ix ix_list (pe_lst (pa_cons pe_str (pa_cons pe_str (pa_cons pe_str (pa_cons pe_str pa_nil))))) (C8.pe_c k__law_draw hr (by decide) rfl (pa_cons (pv 0) (pa_cons pe_int pa_nil))) (fun _ _ => rfl)))), ?_⟩
    refine ⟨(show 4 ≤ sizeLine by decide), fun t ht => ?_⟩
    have hB0 := hB.same (Same.new (o := .lst [V.str "a", V.str "b", V.str "next", V.str "z"]) ht)
    refine ⟨_, rfl, x, 4, rfl, hB0, by decide, fun d H1 hd1 hd2 k1 hB1 => ?_⟩
    have ht1 := hB0.keep k1 (upd_same (H := H) (a := t) (o := .lst [V.str "a", V.str "b", V.str "next", V.str "z"])) (fun r i z => nomatch z)
    have k0 : Kp [x] H H1 := (Kp.new ht).trans k1
    rcases (by omega : d = 0 ∨ d = 1 ∨ d = 2 ∨ d = 3) with rfl | rfl | rfl | rfl
    · exact ⟨t, _, _, _, rfl, rfl, SqL.of ht1, atI_nat (j := 0) rfl, q [97] H1 (by unfold okL; decide) (by decide) k0 hB1⟩
    · exact ⟨t, _, _, _, rfl, rfl, SqL.of ht1, atI_nat (j := 1) rfl, q [98] H1 (by unfold okL; decide) (by decide) k0 hB1⟩
    · exact ⟨t, _, _, _, rfl, rfl, SqL.of ht1, atI_nat (j := 2) rfl, q [110, 101, 120, 116] H1 (by unfold okL; decide) (by decide) k0 hB1⟩
    · exact ⟨t, _, _, _, rfl, rfl, SqL.of ht1, atI_nat (j := 3) rfl, q [122] H1 (by unfold okL; decide) (by decide) k0 hB1⟩
theorem scLawWorth : FnScope ["_law_box_here", "_law_names", "_law_kind"] ["_law_box_here", "_law_names"] (defScope sLawWorth) := ⟨rfl, rfl, rfl, by decide +kernel, rfl, by decide +kernel, by decide +kernel⟩
theorem k__law_worth (T : Tx K mg) : C8.Cal P w K mg base 3 "_law_worth" spWorthL [] := by
  have k__law_draw : C8.Cal P w K mg base 1 "_law_draw" spDraw [] := k__law_draw T
  have k__law_pick : C8.Cal P w K mg base 2 "_law_pick" spPick [] := k__law_pick T
  refine calOf T.d__law_worth T.g__law_worth scLawWorth (fun _ F => F.binds fun _ _ _ _ _ _ us hl => match us, hl with | [_, _], _ => rfl) (fun vs H Q E h => ?_) (fun cdv A outer s H vs Q E hr h => ?_)
  · obtain ⟨x, nl, n0, n1, rfl, _⟩ := h
    rfl
  · obtain ⟨x, nl, n0, n1, rfl, hB, hnl, hn0, hn1, q⟩ := h
    refine ⟨_, (pss_cons (ps_set (i := 2) scLawWorth.nd rfl (Or.inl rfl) (C8.pe_c k__law_draw hr (by decide) rfl (pa_cons (pv 0) (pa_cons pe_int pa_nil))))
      (pss_cons (ps_if (pt_cmpR op_lt (pv 2) pe_int (nomark _)) (pss_one (ps_ret (pe_tup (pa_cons pe_str (pa_cons (C8.pe_c k__law_pick hr (by decide) rfl (pa_cons (pv 0) (pa_cons (pv 1) pa_nil))) pa_nil))))) pss_nil)
      (pss_cons (ps_if (pt_cmpR op_eq (pv 2) pe_int (nomark _)) (pss_one (ps_ret pe_non)) pss_nil)
      (pss_cons (ps_if (pt_cmpR op_eq (pv 2) pe_int (nomark _)) (pss_one (ps_ret (pe_ix ix_list (pe_lst (pa_cons pe_str (pa_cons pe_str (pa_cons pe_str (pa_cons pe_str pa_nil))))) (C8.pe_c k__law_draw hr (by decide) rfl (pa_cons (pv 0) (pa_cons pe_int pa_nil))) (fun _ _ => rfl)))) pss_nil)
      (pss_one (ps_ret (pe_op op_sub (C8.pe_c k__law_draw hr (by decide) rfl (pa_cons (pv 0) (pa_cons pe_int pa_nil))) pe_int))))))), ?_⟩
    refine ⟨_, rfl, x, 7, rfl, hB, by decide, fun d H1 hd1 hd2 k1 hB1 => ?_⟩
    have hnb : notBox (.lst [V.ref n0, V.ref n1]) := nb_refs [n0, n1]
    have hnl1 := hB.keep k1 hnl hnb
    refine ⟨_, rfl, _, _, rfl, rfl, _, rfl, iteB _ (fun _ => ?_) fun _ => ?_⟩
    · refine ⟨_, rfl, _, rfl, x, nl, _, rfl, hB1, hnl1, hnb, (fun z => nomatch z), fun v H2 hv k2 hB2 => ?_⟩
      refine ⟨(show 2 ≤ sizeLine by decide), fun t ht => ?_⟩
      have tu : Tups H H2 := (hB.tups k1).trans (hB1.tups k2)
      have k3 := (k1.trans k2).trans (Kp.new (o := .tup [V.str "ref", v]) ht)
      have hB3 := hB2.same (Same.new (o := .tup [V.str "ref", v]) ht)
      have sb := Same.new (o := .tup [V.str "ref", v]) ht
      rcases List.mem_cons.mp hv with rfl | hv
      · exact q _ (.rf 0 0) _ ⟨t, n0, rfl, upd_same, sb _ _ (tu _ _ hn0)⟩ ⟨by decide, by decide⟩ k3 hB3
      · rcases List.mem_cons.mp hv with rfl | hv
        · exact q _ (.rf 1 0) _ ⟨t, n1, rfl, upd_same, sb _ _ (tu _ _ hn1)⟩ ⟨by decide, by decide⟩ k3 hB3
        · cases hv
    · refine ⟨_, rfl, rfl, _, rfl, iteB _ (fun _ => ?_) fun _ => ?_⟩
      · exact q _ .non H1 rfl trivial k1 hB1
      · refine ⟨_, rfl, rfl, _, rfl, iteB _ (fun _ => ?_) fun _ => ?_⟩
        · refine ⟨(show 4 ≤ sizeLine by decide), fun t ht => ?_⟩
          have hB0 := hB1.same (Same.new (o := .lst [V.str "", V.str "a", V.str "zb", V.str "sea"]) ht)
          refine ⟨_, rfl, x, 4, rfl, hB0, by decide, fun e H2 he1 he2 k2 hB2 => ?_⟩
          have ht1 := hB0.keep k2 (upd_same (H := H1) (a := t) (o := .lst [V.str "", V.str "a", V.str "zb", V.str "sea"])) (fun r i z => nomatch z)
          have k0 : Kp [x] H H2 := (k1.trans (Kp.new ht)).trans k2
          rcases (by omega : e = 0 ∨ e = 1 ∨ e = 2 ∨ e = 3) with rfl | rfl | rfl | rfl
          · exact ⟨t, _, _, _, rfl, rfl, SqL.of ht1, atI_nat (j := 0) rfl, q _ (.txt []) H2 rfl (by unfold okW okL; decide) k0 hB2⟩
          · exact ⟨t, _, _, _, rfl, rfl, SqL.of ht1, atI_nat (j := 1) rfl, q _ (.txt [97]) H2 rfl (by unfold okW okL; decide) k0 hB2⟩
          · exact ⟨t, _, _, _, rfl, rfl, SqL.of ht1, atI_nat (j := 2) rfl, q _ (.txt [122, 98]) H2 rfl (by unfold okW okL; decide) k0 hB2⟩
          · exact ⟨t, _, _, _, rfl, rfl, SqL.of ht1, atI_nat (j := 3) rfl, q _ (.txt [115, 101, 97]) H2 rfl (by unfold okW okL; decide) k0 hB2⟩
        · refine ⟨_, rfl, x, 9, rfl, hB1, by decide, fun e H2 he1 he2 k2 hB2 => ?_⟩
          refine ⟨_, _, rfl, rfl, ?_⟩
          exact q _ (.num (e - 4)) H2 rfl (show -1000000 ≤ e - 4 ∧ e - 4 ≤ 1000000 by omega) (k1.trans k2) hB2
end
end Gt
set_option Elab.async false
set_option linter.all false
set_option maxRecDepth 100000
set_option maxHeartbeats 4000000
/-! Math 3: data small enough for repr and ==. -/
namespace Gt
open PySem PySem.Spec PyProof.Rows L2
/-- small data -/
structure Sm (k n : Nat) (d : PyData) : Prop where
  sh : d.showable = true
  nd : d.hasDict = false
  lf : d.leavesShort 13 = true
  cl : d.canLay0 = true
  dp : d.depth ≤ k
  wt : d.weight ≤ n
theorem Sm.fit {k n : Nat} {d : PyData} (h : Sm k n d) (hk : k ≤ 60) (hn : n ≤ 2 ^ 20) : Fit d := ⟨h.sh, h.nd, h.lf, Nat.le_trans h.wt hn, Nat.le_trans h.dp hk⟩
theorem Sm.shaped {k n : Nat} {d : PyData} (h : Sm k n d) (hk : k ≤ 60) : SeqAt.shaped d = true := by
  unfold SeqAt.shaped
  rw [h.cl, Bool.true_and]
  exact decide_eq_true (by have := h.dp; omega)
theorem Sm.mono {k n k' n' : Nat} {d : PyData} (h : Sm k n d) (hk : k ≤ k') (hn : n ≤ n') : Sm k' n' d := ⟨h.sh, h.nd, h.lf, h.cl, Nat.le_trans h.dp hk, Nat.le_trans h.wt hn⟩
theorem sm_int {i : Int} (h : i.natAbs < 10 ^ 12) : Sm 0 40 (.int i) := by
  have hl : i.natAbs ≠ 0 → i.natAbs.log2 < 40 := fun z => (Nat.log2_lt z).mpr (Nat.lt_of_lt_of_le h (by decide))
  refine ⟨?_, by simp only [PyData.hasDict], ?_, by simp only [PyData.canLay0], ?_, ?_⟩
  · simp only [PyData.showable]
    refine decide_eq_true ?_
    by_cases z : i.natAbs = 0
    · rw [z]; decide
    · have := hl z; omega
  · simp only [PyData.leavesShort]
    exact decide_eq_true (PyData.shown_int_le h)
  · simp only [PyData.depth]; exact Nat.le_refl _
  · simp only [PyData.weight]
    split
    · omega
    · rename_i z
      have := hl (by
        intro e
        apply z
        simp
        omega)
      omega
theorem sm_non : Sm 0 40 .none := ⟨by simp only [PyData.showable], by simp only [PyData.hasDict], by simp only [PyData.leavesShort], by simp only [PyData.canLay0], by simp only [PyData.depth]; exact Nat.zero_le _, by simp only [PyData.weight]; omega⟩
theorem sm_str {l : List Nat} (h : okL l) (hl : l.length ≤ 40) : Sm 0 40 (.str (SX.S l)) := by
  refine ⟨by simp only [PyData.showable], by simp only [PyData.hasDict], ?_, ?_, by simp only [PyData.depth]; exact Nat.zero_le _, ?_⟩
  · simp only [PyData.leavesShort]
    rw [List.all_eq_true]
    intro c hc
    have := h c (by simpa using hc)
    exact decide_eq_true (by omega)
  · simp only [PyData.canLay0]
    unfold PyData.strOk
    simp only [Array.all_eq_true]
    intro i hi
    have hi2 : i < l.length := by simpa using hi
    have e : (SX.S l).cps[i] = l[i] := by simp
    rw [e]
    have := h _ (List.getElem_mem hi2)
    exact decide_eq_true (by omega)
  · simp only [PyData.weight]
    have : (SX.S l).cps.size = l.length := SX.S_len l
    omega
theorem sm_all {k n : Nat} : ∀ {ds : List PyData}, (∀ d ∈ ds, Sm k n d) → PyData.showableAll ds = true ∧ PyData.hasDictAll ds = false ∧ PyData.leavesShortAll 13 ds = true ∧ PyData.canLayAll0 ds = true ∧ PyData.depthAll ds ≤ k ∧ PyData.weightAll ds ≤ (n + 1) * ds.length
  | [], _ => ⟨by simp only [PyData.showableAll], by simp only [PyData.hasDictAll], by simp only [PyData.leavesShortAll], by simp only [PyData.canLayAll0], by simp only [PyData.depthAll]; exact Nat.zero_le _, by simp only [PyData.weightAll]; exact Nat.zero_le _⟩
  | d :: ds, h => by
    obtain ⟨h1, h2, h3, h4, h5, h6⟩ := sm_all fun x hx => h x (.tail _ hx)
    have q := h d (.head _)
    refine ⟨by simp only [PyData.showableAll, q.sh, h1, Bool.and_self], by simp only [PyData.hasDictAll, q.nd, h2, Bool.or_self], by simp only [PyData.leavesShortAll, q.lf, h3, Bool.and_self], by simp only [PyData.canLayAll0, q.cl, h4, Bool.and_self], ?_, ?_⟩
    · simp only [PyData.depthAll]
      exact Nat.max_le.mpr ⟨q.dp, h5⟩
    · simp only [PyData.weightAll]
      rw [List.length_cons, Nat.mul_succ]
      have := q.wt
      omega
theorem sm_list {k n m : Nat} {ds : List PyData} (h : ∀ d ∈ ds, Sm k n d) (hm : (n + 1) * ds.length ≤ m) : Sm (k + 1) m (.list ds) := by
  obtain ⟨h1, h2, h3, h4, h5, h6⟩ := sm_all h
  exact ⟨by simp only [PyData.showable]; exact h1, by simp only [PyData.hasDict]; exact h2, by simp only [PyData.leavesShort]; exact h3, by simp only [PyData.canLay0]; exact h4, by simp only [PyData.depth]; omega, by simp only [PyData.weight]; omega⟩
theorem sm_tup {k n m : Nat} {ds : List PyData} (h : ∀ d ∈ ds, Sm k n d) (hm : (n + 1) * ds.length ≤ m) : Sm (k + 1) m (.tuple ds) := by
  obtain ⟨h1, h2, h3, h4, h5, h6⟩ := sm_all h
  exact ⟨by simp only [PyData.showable]; exact h1, by simp only [PyData.hasDict]; exact h2, by simp only [PyData.leavesShort]; exact h3, by simp only [PyData.canLay0]; exact h4, by simp only [PyData.depth]; omega, by simp only [PyData.weight]; omega⟩
/-! ### the kinds of data -/
def prD (p : Int × Int) : PyData := .tuple [.int p.1, .int p.2]
def rgsD (rs : List (Int × Int)) : PyData := .list (rs.map prD)
def tdD (T : List (List (Int × Int))) : PyData := .list (T.map rgsD)
def intsD (ns : List Int) : PyData := .list (ns.map .int)
def ocsD (xss : List (List Int)) : PyData := .list (xss.map intsD)
abbrev Bd (i : Int) : Prop := i.natAbs < 10 ^ 12
theorem sm_pr {p : Int × Int} (h1 : Bd p.1) (h2 : Bd p.2) : Sm 1 82 (prD p) := sm_tup (k := 0) (n := 40) (fun d hd => by
  rcases List.mem_cons.mp hd with rfl | hd
  · exact sm_int h1
  · rw [List.mem_singleton.mp hd]
    exact sm_int h2) (show 41 * 2 ≤ 82 by decide)
theorem sm_rgs {rs : List (Int × Int)} (h : ∀ p ∈ rs, Bd p.1 ∧ Bd p.2) {L : Nat} (hl : rs.length ≤ L) : Sm 2 (83 * L) (rgsD rs) := sm_list (k := 1) (n := 82) (fun d hd => by
  obtain ⟨p, hp, rfl⟩ := List.mem_map.mp hd
  exact sm_pr (h p hp).1 (h p hp).2) (by rw [List.length_map]; exact Nat.mul_le_mul_left _ hl)
theorem sm_td {T : List (List (Int × Int))} (h : ∀ rs ∈ T, (∀ p ∈ rs, Bd p.1 ∧ Bd p.2) ∧ rs.length ≤ 64) (hl : T.length ≤ 8) : Sm 3 42504 (tdD T) := sm_list (k := 2) (n := 83 * 64) (fun d hd => by
  obtain ⟨rs, hr, rfl⟩ := List.mem_map.mp hd
  exact sm_rgs (h rs hr).1 (h rs hr).2) (by rw [List.length_map]; exact Nat.mul_le_mul_left _ hl)
theorem sm_ints {ns : List Int} (h : ∀ i ∈ ns, Bd i) {L : Nat} (hl : ns.length ≤ L) : Sm 1 (41 * L) (intsD ns) := sm_list (k := 0) (n := 40) (fun d hd => by
  obtain ⟨p, hp, rfl⟩ := List.mem_map.mp hd
  exact sm_int (h p hp)) (by rw [List.length_map]; exact Nat.mul_le_mul_left _ hl)
theorem sm_ocs {xss : List (List Int)} (h : ∀ xs ∈ xss, (∀ i ∈ xs, Bd i) ∧ xs.length ≤ 200) (hl : xss.length ≤ 40) : Sm 2 328040 (ocsD xss) := sm_list (k := 1) (n := 41 * 200) (fun d hd => by
  obtain ⟨xs, hr, rfl⟩ := List.mem_map.mp hd
  exact sm_ints (h xs hr).1 (h xs hr).2) (by rw [List.length_map]; exact Nat.mul_le_mul_left _ hl)
theorem sm_wo {u : Wo} (h : okW u) : Sm 2 206 (woD u) := by
  cases u with
  | non => exact sm_non.mono (by decide) (by decide)
  | num i =>
    have h : -1000000 ≤ i ∧ i ≤ 1000000 := h
    exact (sm_int (by omega)).mono (by decide) (by decide)
  | txt l => exact (sm_str h.1 (by have := h.2; omega)).mono (by decide) (by decide)
  | rf p c =>
    have h : (0 ≤ p ∧ p < 8) ∧ 0 ≤ c ∧ c ≤ 4294967295 := h
    refine sm_tup (k := 1) (n := 82) (fun d hd => ?_) (show 83 * 2 ≤ 206 by decide)
    rcases List.mem_cons.mp hd with rfl | hd
    · exact (sm_str (l := [114, 101, 102]) (by unfold okL; decide) (by decide)).mono (by decide) (by decide)
    · rw [List.mem_singleton.mp hd]
      exact sm_pr (p := (p, c)) (by show p.natAbs < _; omega) (by show c.natAbs < _; omega)
theorem sm_ch {c : Ch} (h : okC c) : Sm 3 828 (chD c) := by
  refine sm_tup (k := 2) (n := 206) (fun d hd => ?_) (show 207 * 4 ≤ 828 by decide)
  have h1 := h.ck
  have h2 := h.pr
  have h3 := h.np
  have h4 := h.nc
  rcases List.mem_cons.mp hd with rfl | hd
  · exact (sm_pr (p := (c.ck, c.pr)) (by show c.ck.natAbs < _; omega) (by show c.pr.natAbs < _; omega)).mono (by decide) (by decide)
  rcases List.mem_cons.mp hd with rfl | hd
  · exact (sm_pr (p := (c.np, c.nc)) (by show c.np.natAbs < _; omega) (by show c.nc.natAbs < _; omega)).mono (by decide) (by decide)
  rcases List.mem_cons.mp hd with rfl | hd
  · exact (sm_str h.fd (by have := h.fl; omega)).mono (by decide) (by decide)
  rw [List.mem_singleton.mp hd]
  exact sm_wo h.wo
/-! ### in the heap -/
section
variable {K : PySem.W.Frag} {H : Hp}
theorem dpAll_of {α : Type} {f : α → PyData} {R : Addr → α → Prop} (r : ∀ a x, R a x → Dp K H (.ref a) (f x)) : ∀ {as : List Addr} {xs : List α}, Paired R as xs → DpAll K H (as.map V.ref) (xs.map f)
  | _, _, .nil => .nil
  | _, _, .cons a t => .cons (r _ _ a) (dpAll_of r t)
theorem pr_dp {a : Addr} {p : Int × Int} (h : H a = some (.tup [.int p.1, .int p.2])) : Dp K H (.ref a) (prD p) := nm_dp h
theorem rgs_dp {a : Addr} {rs : List (Int × Int)} (h : RgsAt H a rs) : Dp K H (.ref a) (rgsD rs) := let ⟨_, h1, h2⟩ := h; .lst (SqL.of h1) (dpAll_of (fun _ _ z => pr_dp z) h2)
theorem td_dp {a : Addr} {T : List (List (Int × Int))} (h : TdAt H a T) : Dp K H (.ref a) (tdD T) := let ⟨_, h1, h2⟩ := h; .lst (SqL.of h1) (dpAll_of (fun _ _ z => rgs_dp z) h2)
theorem intsAll (ns : List Int) : DpAll K H (ns.map V.int) (ns.map PyData.int) := by
  induction ns with
  | nil => exact .nil
  | cons n ns ih => exact .cons (.int n) ih
theorem ints_dp {a : Addr} {ns : List Int} (h : H a = some (.lst (ns.map V.int))) : Dp K H (.ref a) (intsD ns) := .lst (SqL.of h) (intsAll ns)
theorem ocs_dp {a : Addr} {xss : List (List Int)} (h : OcsAt H a xss) : Dp K H (.ref a) (ocsD xss) := let ⟨_, h1, h2⟩ := h; .lst (SqL.of h1) (dpAll_of (fun _ _ z => ints_dp z) h2)
end
theorem eqv_self {k n : Nat} {d : PyData} (h : Sm k n d) : PyData.eqv d d = true := SeqAt.eqv_refl d h.cl
theorem eqv_pr (a b : Int × Int) : PyData.eqv (prD a) (prD b) = decide (a = b) := by
  show PyData.eqv (.tuple [.int a.1, .int a.2]) (.tuple [.int b.1, .int b.2]) = _
  simp only [PyData.eqv, PyData.eqvAll, Bool.and_true]
  obtain ⟨a1, a2⟩ := a
  obtain ⟨b1, b2⟩ := b
  show ((a1 == b1) && (a2 == b2)) = _
  by_cases h1 : a1 = b1
  · by_cases h2 : a2 = b2
    · simp [h1, h2]
    · simp [h2]
  · simp [h1]
theorem any_pr (l : List (Int × Int)) (k : Int × Int) : ((l.map prD).any fun z => PyData.eqv z (prD k)) = decide (k ∈ l) := by
  induction l with
  | nil => rfl
  | cons x l ih =>
    rw [List.map_cons, List.any_cons, eqv_pr, ih]
    by_cases h : x = k
    · simp [h]
    · have h2 : ¬ k = x := fun z => h z.symm
      simp [h, h2]
/-! ### what is told, by the keys -/
def rowK (ks : List (Int × Int)) (s : Nat) : List Int := (ks.filter fun k => decide (k.1 = (s : Int))).map (·.2)
def toldK (ks : List (Int × Int)) : List (List (Int × Int)) := (List.range 8).map fun s => rg (sd (rowK ks s))
theorem rowD_keys (M : List ME) (s : Nat) : rowD M s = rowK (M.map (·.1)) s := by
  unfold rowD rowK
  induction M with
  | nil => rfl
  | cons e M ih =>
    rw [List.map_cons]
    by_cases h : e.1.1 = (s : Int)
    · rw [List.filter_cons_of_pos (by simpa using h), List.filter_cons_of_pos (by simpa using h), List.map_cons, List.map_cons, ih]
    · rw [List.filter_cons_of_neg (by simpa using h), List.filter_cons_of_neg (by simpa using h), ih]
theorem toldD_keys (M : List ME) : toldD M = toldK (M.map (·.1)) := by
  unfold toldD toldK
  simp only [rowD_keys]
theorem rowK_len (ks : List (Int × Int)) (s : Nat) : (rowK ks s).length ≤ ks.length := by
  unfold rowK
  rw [List.length_map]
  exact List.length_filter_le ..
theorem mem_rowK (ks : List (Int × Int)) (s : Nat) (n : Int) : n ∈ rowK ks s ↔ ((s : Int), n) ∈ ks := by
  unfold rowK
  rw [List.mem_map]
  constructor
  · rintro ⟨⟨a, b⟩, h, rfl⟩
    obtain ⟨h1, h2⟩ := List.mem_filter.mp h
    have h2 : a = (s : Int) := of_decide_eq_true h2
    rw [← h2]
    exact h1
  · intro h
    exact ⟨_, List.mem_filter.mpr ⟨h, decide_eq_true rfl⟩, rfl⟩
end Gt
set_option Elab.async false
set_option linter.all false
set_option maxRecDepth 100000
set_option maxHeartbeats 4000000
/-! The law's helpers 2. -/
namespace Gt
open PySem PySem.Spec PyProof.Rows L2
def scTold_ : Scope := { kind := .function, names := [(".0", .local), ("_law_sender", .cell), ("_law_ranges", .globalImplicit), ("_law_keys", .cell)], isGenerator := false, isCoroutine := false }
def spSame (K : PySem.W.Frag) : Sp := fun vs H Q _ => ∃ (x y : V) (d : PyData), vs = [x, y] ∧ (isRef x = true ∨ isInt x = true) ∧ (isRef y = true ∨ isInt y = true) ∧ Dp K H x d ∧ Dp K H y d ∧ Fit d ∧ Q (.bl true) H
def spCells (P : Program) (w : World) : Sp := fun vs H Q _ => ∃ (a : Addr) (as : List Addr) (cs : List Ch), vs = [.ref a] ∧ H a = some (.lst (as.map V.ref)) ∧ ChsAt H as cs ∧ cs.length ≤ 1000 ∧ ∀ r H', H r = none → Same H H' → ClAt P w H' r (cs.foldl stepC []) → Q (.ref r) H'
def spRowOf : Sp := fun vs H Q _ => ∃ (x : Addr), vs = [.ref x] ∧ BoxAt H x ∧ ∀ H', Kp [x] H H' → BoxAt H' x → Q (.bl true) H'
def spToldL : Sp := fun vs H Q _ => ∃ (a : Addr) (ks : List (Int × Int)), vs = [.ref a] ∧ RgsAt H a ks ∧ ks.length < 64 ∧ ∀ r H', H r = none → Same H H' → TdAt H' r (toldK ks) → Q (.ref r) H'
def spHas (P : Program) (w : World) (K : PySem.W.Frag) : Sp := fun vs H Q _ => ∃ (p d m f a : Addr) (pr : Int) (l : List CE) (MR M : List ME) (ks : List (Int × Int)), vs = [.ref p, .ref f, .ref a] ∧ RpAt P w K H p d m pr l MR ∧ MsAt H f M ∧ RgsAt H a ks ∧ MR.map (·.1) = ks ∧ l = (ks.flatMap (chg M)).foldl stepC [] ∧
  (∀ k ∈ ks, (0 ≤ k.1 ∧ k.1 < 8) ∧ 0 ≤ k.2 ∧ k.2 ≤ 100) ∧ (∀ k ∈ ks, ∃ cs, getM M k = some cs ∧ (∀ c ∈ cs, okC c) ∧ cs.length ≤ 3) ∧ ks.length ≤ 40 ∧ ∀ H', Same H H' → Q (.bl true) H'
theorem cl_put {P : Program} {w : World} {H : Hp} {d : Addr} {l : List CE} {c : Ch} {kvs : List (CK × V)} (hcel : CelAt P w H d kvs) (hp : Paired (CvAt H) kvs l) (hn : newC l c = true) {sa t : Addr} {v : V} (h2 : NmAt H sa c.ck c.pr) (h4 : WoAt H v c.wo)
    (ht : H t = some (.tup [.ref sa, v])) {o : HO} (ho : CelAt P w (upd H d o) d (putK kvs (ckOf c) (.ref t))) (hno : ∀ xs, o ≠ .tup xs) : ClAt P w (upd H d o) d (stepC l c) := by
  have hdt : ∀ u, H d = some u → isTup u = false := fun u e => by
    obtain ⟨o1, w1, w2⟩ := hcel.there
    rw [w1] at e
    cases e
    cases u with
    | tup xs => exact absurd rfl (w2 xs)
    | _ => rfl
  have tU : Tups H (upd H d o) := (Kp.put (S := [d]) (.head _)).tups fun z m u e => hdt u (by rw [← List.mem_singleton.mp m]; exact e)
  refine ⟨_, ho, ?_⟩
  rw [stepC, hn, if_pos rfl]
  exact cv_put (Paired.mapP hp fun _ _ z => z.mono tU) ⟨rfl, t, sa, v, rfl, tU _ _ ht, h2.mono tU, h4.mono tU⟩
theorem paired_app {α β : Type} {R : α → β → Prop} : ∀ {l : List α} {m : List β} {l' : List α} {m' : List β}, Paired R l m → Paired R l' m' → Paired R (l ++ l') (m ++ m')
  | _, _, _, _, .nil, q => q
  | _, _, _, _, .cons r t, q => .cons r (paired_app t q)
theorem Kp.updF {S : List Addr} {H H' : Hp} (k : Kp S H H') {D : Addr} {o : HO} (n : H D = none) : Kp S H (upd H' D o) := fun b u e m => by
  rw [upd_ne (ne_of_none e n)]
  exact k b u e m
def ceD (e : CE) : PyData := .tuple [.tuple [.int e.2.1.1, .int e.2.1.2], woD e.2.2]
theorem cv_dp {K : PySem.W.Frag} {H : Hp} : ∀ {kvs : List (CK × V)} {l : List CE}, Paired (CvAt H) kvs l → DpAll K H (kvs.map (·.2)) (l.map ceD)
  | _, _, .nil => .nil
  | kv :: _, e :: _, .cons r t => by
    obtain ⟨_, a, s, v, h1, h2, h3, h4⟩ := r
    rw [List.map_cons, List.map_cons, h1]
    exact .cons (.tup (sqT_of h2) (.cons (nm_dp h3) (.cons (wo_dp h4) .nil))) (cv_dp t)
theorem cv_keys {H : Hp} : ∀ {kvs : List (CK × V)} {l : List CE}, Paired (CvAt H) kvs l → kvs.map (·.1) = l.map (·.1)
  | _, _, .nil => rfl
  | _, _, .cons r t => by rw [List.map_cons, List.map_cons, r.1, cv_keys t]
abbrev okE (e : CE) : Prop := (Bd e.2.1.1 ∧ Bd e.2.1.2) ∧ okW e.2.2
theorem okE_put {l : List CE} {k : CK} {v : (Int × Int) × Wo} (h : ∀ e ∈ l, okE e) (hv : okE (k, v)) : ∀ e ∈ putE l k v, okE e := by
  intro e he
  unfold putE at he
  split at he
  · obtain ⟨x, hx, rfl⟩ := List.mem_map.mp he
    split
    · exact hv
    · exact h x hx
  · rcases List.mem_append.mp he with he | he
    · exact h e he
    · rw [List.mem_singleton.mp he]
      exact hv
theorem okE_fold : ∀ (cs : List Ch) (l : List CE), (∀ c ∈ cs, okC c) → (∀ e ∈ l, okE e) → ∀ e ∈ cs.foldl stepC l, okE e
  | [], l, _, h => h
  | c :: cs, l, hc, h => by
    rw [List.foldl_cons]
    refine okE_fold cs _ (fun x hx => hc x (.tail _ hx)) ?_
    have q := hc c (.head _)
    have h1 := q.ck
    have h2 := q.pr
    unfold stepC
    split
    · exact okE_put h ⟨⟨by show c.ck.natAbs < _; omega, by show c.pr.natAbs < _; omega⟩, q.wo⟩
    · exact h
theorem sm_ce {e : CE} (h : okE e) : Sm 3 414 (ceD e) := sm_tup (k := 2) (n := 206) (fun d hd => by
  rcases List.mem_cons.mp hd with rfl | hd
  · exact (sm_pr (p := e.2.1) h.1.1 h.1.2).mono (by decide) (by decide)
  · rw [List.mem_singleton.mp hd]
    exact sm_wo h.2) (show 207 * 2 ≤ 414 by decide)
theorem rowK_take {ks : List (Int × Int)} {i : Nat} {k : Int × Int} (h : ks[i]? = some k) (s : Nat) : rowK (ks.take (i + 1)) s = rowK (ks.take i) s ++ (if k.1 = (s : Int) then [k.2] else []) := by
  unfold rowK
  rw [take_next h, List.filter_append, List.map_append]
  by_cases z : k.1 = (s : Int)
  · rw [if_pos z, List.filter_cons_of_pos (by simpa using z)]
    rfl
  · rw [if_neg z, List.filter_cons_of_neg (by simpa using z)]
    rfl
theorem bd_told {ks : List (Int × Int)} (hb : ∀ k ∈ ks, (0 ≤ k.1 ∧ k.1 < 8) ∧ 0 ≤ k.2 ∧ k.2 ≤ 100) (hz : ks.length < 64) : ∀ rs ∈ toldK ks, (∀ p ∈ rs, Bd p.1 ∧ Bd p.2) ∧ rs.length ≤ 64 := by
  intro rs hrs
  obtain ⟨s, _, rfl⟩ := List.mem_map.mp hrs
  have hm : ∀ i, i ∈ sd (rowK ks s) → Bd i := fun i hi => by
    have := (hb _ ((mem_rowK ks s i).mp ((mem_sd i _).mp hi))).2
    show i.natAbs < _
    have h1 : 0 ≤ i := this.1
    have h2 : i ≤ 100 := this.2
    omega
  refine ⟨fun p hp => ⟨hm _ (rg_mem _ p hp).1, hm _ (rg_mem _ p hp).2⟩, ?_⟩
  have h1 := rg_len (sd (rowK ks s))
  have h2 := sd_len (rowK ks s)
  have h3 := rowK_len ks s
  omega
theorem chg_sum {M : List ME} : ∀ {ks : List (Int × Int)}, (∀ k ∈ ks, ∃ cs, getM M k = some cs ∧ (∀ c ∈ cs, okC c) ∧ cs.length ≤ 3) → (ks.flatMap (chg M)).length ≤ 3 * ks.length ∧ ∀ c ∈ ks.flatMap (chg M), okC c
  | [], _ => ⟨Nat.le_refl _, fun _ z => nomatch z⟩
  | k :: ks, h => by
    obtain ⟨h1, h2⟩ := chg_sum fun x hx => h x (.tail _ hx)
    obtain ⟨cs, e1, e2, e3⟩ := h k (.head _)
    have ec : chg M k = cs := by rw [chg, e1]; rfl
    rw [List.flatMap_cons, ec]
    refine ⟨by rw [List.length_append, List.length_cons]; omega, fun c hc => ?_⟩
    rcases List.mem_append.mp hc with hc | hc
    · exact e2 c hc
    · exact h2 c hc
section
variable {P : Program} {w : World} {K : PySem.W.Frag} {mg : Str → Option Value} {base : Heap}
theorem scLawSame : FnScope ["_law_one", "_law_other"] ["_law_one", "_law_other"] (defScope sLawSame) := ⟨rfl, rfl, rfl, by decide +kernel, rfl, by decide +kernel, by decide +kernel⟩
theorem k__law_same (T : Tx K mg) : CalG P w K mg base 1 "_law_same" (spSame K) := by
  refine calG T.d__law_same T.g__law_same scLawSame (fun _ F => F.binds fun _ _ _ _ _ _ us hl => match us, hl with | [_, _], _ => rfl) (fun vs H Q E h => ?_) (fun cdv A outer s H vs Q E hG hr h => ?_)
  · obtain ⟨x, y, d, rfl, _⟩ := h
    rfl
  · obtain ⟨x, y, d, rfl, hx, hy, dx, dy, ft, q⟩ := h
    have hu64 := hu64_of hr
    refine ⟨_, (pss_one (ps_ret (pe_cmpR op_eq (pe_callB (cr_repr hG hu64) (by rfl) T.n_repr (by decide +kernel) (pa_cons (pv 0) pa_nil)) (pe_callB (cr_repr hG hu64) (by rfl) T.n_repr (by decide +kernel) (pa_cons (pv 1) pa_nil)) (nomark _)))), ?_⟩
    refine ⟨_, rfl, x, d, rfl, hx, dx, ft, _, rfl, y, d, rfl, hy, dy, ft, rfl, ?_⟩
    rw [decide_eq_true rfl]
    exact q
theorem scLawCells : FnScope ["_law_changes", "_law_cells_here", "_law_change", "_law_key"] ["_law_changes"] (defScope sLawCells) := ⟨rfl, rfl, rfl, by decide +kernel, rfl, by decide +kernel, by decide +kernel⟩
theorem k__law_cells (T : Tx K mg) : C8.Cal P w K mg base 1 "_law_cells" (spCells P w) [] := by
  refine calOf T.d__law_cells T.g__law_cells scLawCells (fun _ F => F.binds fun _ _ _ _ _ _ us hl => match us, hl with | [_], _ => rfl) (fun vs H Q E h => ?_) (fun cdv A outer s H vs Q E hr h => ?_)
  · obtain ⟨a, as, cs, rfl, _⟩ := h
    rfl
  · obtain ⟨a, as, cs, rfl, ha, has, hz, q⟩ := h
    have hu9 := hu9_of hr
    have hu0 := hu0_of hr
    refine ⟨_, (pss_cons (ps_set (i := 1) scLawCells.nd rfl (Or.inl rfl) pe_dnewT)
      (pss_cons (ps_for PassesOwn.never rfl (pi_list (pv 0)) (pg_name (i := 2) scLawCells.nd rfl (Or.inl rfl))
      (pss_cons (ps_set (i := 3) scLawCells.nd rfl (Or.inl rfl) (pe_tup (pa_cons (pe_ix ix_tup (pv 2) pe_int (fun _ _ => rfl)) (pa_cons (pe_ix ix_tup (pv 2) pe_int (fun _ _ => rfl)) pa_nil))))
      (pss_one (ps_if (PW.pt (pw_or (pt_cmp (pc_cnotin hu9 (pv 3) (pv 1))) (pw_or1 (pt_cmpR (op_gtP hu0) (pe_ix ix_tup (pv 2) pe_int (fun _ _ => rfl)) (pe_ix ix_tup (pe_cget hu9 (pv 1) (pv 3) (fun _ _ => rfl)) pe_int (fun _ _ => rfl)) (nomark _))))) (pss_one (ps_cput hu9 (pv 1) (pv 3) (pe_tup (pa_cons (pe_ix ix_tup (pv 2) pe_int (fun _ _ => rfl)) (pa_cons (pe_ix ix_tup (pv 2) pe_int (fun _ _ => rfl)) pa_nil))) rfl)) pss_nil))))
      (pss_one (ps_ret (pv 1))))), ?_⟩
    refine fun r hr0 => ?_
    have s0 := Same.new (o := .dT []) hr0
    have har : a ≠ r := ne_of_none ha hr0
    refine ⟨_, rfl, a, rfl, ⟨_, SqL.of (s0 _ _ ha)⟩, for_list (K := K) (a := a) (xs := as.map V.ref)
      (fun i σ H' => (∃ v2 v3, σ = [some (.ref a), some (.ref r), v2, v3]) ∧ Kp [r] (upd H r (.dT [])) H' ∧ ClAt P w H' r ((cs.take i).foldl stepC []))
      ⟨⟨none, none, rfl⟩, .refl _ _, [], CelAt.new upd_same, .nil⟩ (fun i σ H' _ h => SqL.of (h.2.1 _ _ (s0 _ _ ha) (by simpa using har))) ?_ ?_⟩
    · rintro i y σ H' hi ⟨⟨v2, v3, rfl⟩, k, kvs, hcel, hp⟩
      rw [List.getElem?_map] at hi
      cases e : as[i]? with
      | none =>
        rw [e] at hi
        cases hi
      | some z =>
        rw [e] at hi
        obtain rfl : V.ref z = y := Option.some.inj hi
        have tk : Tups H H' := (Same.tups s0).trans (k.tups fun x hx o e => by
          rw [List.mem_singleton.mp hx, upd_same] at e
          cases e
          rfl)
        obtain ⟨c, hc1, hch⟩ := paired_get' has i z e
        obtain ⟨sa, na, wv, h1, h2, h3, h4⟩ := hch.mono tk
        have hi2 : i < cs.length := (List.getElem?_eq_some_iff.mp hc1).1
        have hstep : (cs.take (i + 1)).foldl stepC [] = stepC ((cs.take i).foldl stepC []) c := by
          rw [take_next hc1, List.foldl_append]
          rfl
        have hlen : kvs.length ≤ 1000 := by
          rw [hp.length]
          have := cells_len (cs.take i) []
          have := List.length_take_le' i cs
          simp only [List.length_nil] at *
          omega
        refine ⟨_, rfl, z, _, _, _, rfl, rfl, sqT_of h1, atI_nat (j := 1) rfl, _, rfl, z, _, _, _, rfl, rfl, sqT_of h1, atI_nat (j := 2) rfl, (show 2 ≤ sizeLine by decide), fun b hb => ?_⟩
        have sb := Same.new (o := .tup [V.ref na, V.str (SX.S c.fd)]) hb
        have hcel1 := hcel.mono (Same.tups sb) fun o e => sb _ _ e
        have hp1 := Paired.mapP hp fun _ _ z => z.mono (Same.tups sb)
        have hkey : KeyAt (upd H' b (.tup [.ref na, .str (SX.S c.fd)])) b (ckOf c) := ⟨na, upd_same, sb _ _ h3⟩
        have h1b := sb _ _ h1
        have h2b := h2.mono (Same.tups sb)
        have h4b := h4.mono (Same.tups sb)
        have kb := k.trans (Kp.of sb)
        generalize upd H' b (.tup [.ref na, .str (SX.S c.fd)]) = Hb at *
        have put : newC ((cs.take i).foldl stepC []) c = true → ∀ (t : Addr) (o : HO), Hb t = none → CelAt P w (upd (upd Hb t (.tup [.ref sa, wv])) r o) r (putK kvs (ckOf c) (.ref t)) → (∀ xs, o ≠ .tup xs) →
            Kp [r] (upd H r (.dT [])) (upd (upd Hb t (.tup [.ref sa, wv])) r o) ∧ ClAt P w (upd (upd Hb t (.tup [.ref sa, wv])) r o) r ((cs.take (i + 1)).foldl stepC []) := by
          intro hn t o ht ho hno
          have st := Same.new (o := .tup [V.ref sa, wv]) ht
          refine ⟨(kb.trans (Kp.of st)).trans (Kp.put (.head _)), ?_⟩
          rw [hstep]
          exact cl_put (hcel1.mono (Same.tups st) fun o e => st _ _ e) (Paired.mapP hp1 fun _ _ z => z.mono (Same.tups st)) hn (h2b.mono (Same.tups st)) (h4b.mono (Same.tups st)) upd_same ho hno
        rcases cv_get (k := ckOf c) hp1 with ⟨e1, e2⟩ | ⟨t0, s1, v0, o0, e1, e2, g1, g2, g3⟩
        · have hn : newC ((cs.take i).foldl stepC []) c = true := by rw [newC, e2]
          refine ⟨_, rfl, _, rfl, r, b, kvs, ckOf c, rfl, rfl, hcel1, hkey, true, by rw [e1]; rfl, iteT (iteT ?_)⟩
          refine ⟨_, rfl, z, _, _, _, rfl, rfl, sqT_of h1b, atI_nat (j := 0) rfl, _, rfl, z, _, _, _, rfl, rfl, sqT_of h1b, atI_nat (j := 3) rfl, (show 2 ≤ sizeLine by decide), fun t ht => ?_⟩
          have st := Same.new (o := .tup [V.ref sa, wv]) ht
          refine ⟨_, rfl, _, rfl, r, b, kvs, ckOf c, rfl, rfl, hcel1.mono (Same.tups st) fun o e => st _ _ e, hkey.mono (Same.tups st), hlen, fun o ho hno => ?_⟩
          exact ⟨⟨some (.ref z), some (.ref b), rfl⟩, put hn t o ht ho hno⟩
        · have hn0 : newC ((cs.take i).foldl stepC []) c = gtP c.ck c.pr o0.1.1 o0.1.2 := by rw [newC, e2]
          refine ⟨_, rfl, _, rfl, r, b, kvs, ckOf c, rfl, rfl, hcel1, hkey, false, by rw [e1]; rfl, iteF ?_⟩
          refine ⟨_, rfl, z, _, _, _, rfl, rfl, sqT_of h1b, atI_nat (j := 0) rfl, _, rfl, _, rfl, r, b, kvs, ckOf c, _, rfl, rfl, hcel1, hkey, e1, t0, _, _, _, rfl, rfl, sqT_of g1, atI_nat (j := 0) rfl, sa, s1, _, _, _, _, rfl, rfl, sqT_of h2b, sqT_of g2, _, rfl, iteB _ (fun hg => ?_) fun hg => ?_⟩
          · have hn : newC ((cs.take i).foldl stepC []) c = true := by rw [hn0, hg]
            refine ⟨_, rfl, z, _, _, _, rfl, rfl, sqT_of h1b, atI_nat (j := 0) rfl, _, rfl, z, _, _, _, rfl, rfl, sqT_of h1b, atI_nat (j := 3) rfl, (show 2 ≤ sizeLine by decide), fun t ht => ?_⟩
            have st := Same.new (o := .tup [V.ref sa, wv]) ht
            refine ⟨_, rfl, _, rfl, r, b, kvs, ckOf c, rfl, rfl, hcel1.mono (Same.tups st) fun o e => st _ _ e, hkey.mono (Same.tups st), hlen, fun o ho hno => ?_⟩
            exact ⟨⟨some (.ref z), some (.ref b), rfl⟩, put hn t o ht ho hno⟩
          · refine ⟨⟨some (.ref z), some (.ref b), rfl⟩, kb, ?_⟩
            rw [hstep, stepC, hn0, hg, if_neg (fun e => nomatch e)]
            exact ⟨kvs, hcel1, hp1⟩
    · rintro σ H' ⟨⟨v2, v3, rfl⟩, k, hcl⟩
      rw [List.length_map, has.length, List.take_length] at hcl
      refine ⟨_, rfl, q r H' hr0 (fun b u e => k b u (s0 b u e) (by rw [List.mem_singleton]; exact ne_of_none e hr0)) hcl⟩
theorem scLawTold : FnScope ["_law_keys", "_law_key", "_law_sender"] ["_law_keys"] (defScope sLawTold) := ⟨rfl, rfl, rfl, by decide +kernel, rfl, by decide +kernel, by decide +kernel⟩
theorem k__law_told (T : Tx K mg) : C8.Cal P w K mg base 2 "_law_told" spToldL [] := by
  have k__law_ranges : C8.Cal P w K mg base 1 "_law_ranges" spRanges [] := k__law_ranges T
  refine calOf T.d__law_told T.g__law_told scLawTold (fun _ F => F.binds fun _ _ _ _ _ _ us hl => match us, hl with | [_], _ => rfl) (fun vs H Q E h => ?_) (fun cdv A outer s H vs Q E hr h => ?_)
  · obtain ⟨a, ks, rfl, _⟩ := h
    rfl
  · obtain ⟨a, ks, rfl, ha, hz, q⟩ := h
    refine ⟨_, (pss_one (ps_ret (by exact (pe_lcD (own := [("_law_sender", 2)]) (g := gName 2) rfl scLawTold.nd (pi_range1 (by rfl) T.n_range (pa_cons pe_int pa_nil)) (blkOk_by (own := [("_law_sender", 2)]) (N := ["_law_keys", "_law_key", "_law_sender"]) (sc := defScope sLawTold) (by decide +kernel)) (fun _ _ _ _ _ => (pg_name (i := 2) scLawTold.nd rfl (Or.inr rfl))) (fun _ _ _ _ _ => pts_nil) (fun _ _ _ _ _ => (C8.pe_c k__law_ranges hr (by decide) rfl (pa_cons (by exact (pe_lcD (own := [("_law_key", 1)]) (g := gName 1) rfl scLawTold.nd (pi_list (pv 0)) (blkOk_by (own := [("_law_key", 1)]) (N := ["_law_keys", "_law_key", "_law_sender"]) (sc := scTold_) (by decide +kernel)) (fun _ _ _ _ _ => (pg_name (i := 1) scLawTold.nd rfl (Or.inl rfl))) (fun _ _ _ _ _ => (pts_one (pt_cmpR op_eq (pe_ix ix_tup (pv 1) pe_int (fun _ _ => rfl)) (pv 2) (nomark _)))) (fun _ _ _ _ _ => (pe_ix ix_tup (pv 1) pe_int (fun _ _ => rfl))))) pa_nil))))))), ?_⟩
    obtain ⟨bs, ha, hbs⟩ := ha
    refine ⟨8, rfl, by decide, by decide, fun D hD => lc_it (walk_range (lo := 0) (n := (8 : Int).toNat))
      (fun j H' => ∃ rs : List Addr, H' D = some (.lst (rs.map V.ref)) ∧ Paired (fun r x => RgsAt H' r x ∧ r ≠ D) rs ((toldK ks).take j) ∧ Same H H')
      ⟨[], upd_same, .nil, Same.new hD⟩ (fun _ _ _ _ => trivial) ?_ ?_⟩
    · rintro j y H2 H3 hj ⟨rs, h1, h2, s3⟩ ⟨rfl, rfl⟩
      have hj8 : j < 8 := hj
      have ha3 := s3 _ _ ha
      refine ⟨rfl, ?_⟩
      refine ⟨_, rfl, a, rfl, ⟨_, SqL.of ha3⟩, fun D2 hD2 => lc_it (walk_list (K := K) (a := a) (xs := bs.map V.ref))
        (fun i H' => H' = upd H3 D2 (.lst ((rowK (ks.take i) j).map V.int))) rfl (fun i H' _ h => by rw [h]; exact SqL.of (Same.new hD2 _ _ ha3)) ?_ ?_⟩
      · rintro i y H4 H5 hi rfl ⟨rfl, hy⟩
        rw [List.getElem?_map] at hy
        cases e : bs[i]? with
        | none =>
          rw [e] at hy
          cases hy
        | some z =>
          rw [e] at hy
          obtain rfl : V.ref z = y := Option.some.inj hy
          obtain ⟨kk, e1, e2⟩ := paired_get' hbs i z e
          have e2 : H z = some (.tup [.int kk.1, .int kk.2]) := e2
          have hz3 := Same.new (o := .lst ((rowK (ks.take i) j).map V.int)) hD2 _ _ (s3 _ _ e2)
          have hrl := rowK_len (ks.take i) j
          have htl := List.length_take_le' i ks
          refine ⟨rfl, ?_⟩
          refine ⟨_, rfl, z, _, _, _, rfl, rfl, sqT_of hz3, atI_nat (j := 0) rfl, _, rfl, rfl, _, rfl, iteB _ (fun c => ?_) fun c => ?_⟩
          · have c := V.int.inj (of_decide_eq_true c)
            have c2 : kk.1 = (j : Int) := by omega
            refine ⟨_, rfl, z, _, _, _, rfl, rfl, sqT_of hz3, atI_nat (j := 1) rfl, _, upd_same, ?_, ?_⟩
            · rw [List.length_map]
              exact Nat.lt_of_lt_of_le (show _ < 64 by omega) (show 64 ≤ sizeLine by decide)
            · rw [upd_upd, rowK_take e1, if_pos c2, List.map_append]
              rfl
          · have c2 : ¬ kk.1 = (j : Int) := fun z => of_decide_eq_false c (congrArg V.int (by omega))
            rw [rowK_take e1, if_neg c2, List.append_nil]
      · rintro H4 rfl
        rw [List.length_map, hbs.length, List.take_length]
        have sD2 := Same.new (o := .lst ((rowK ks j).map V.int)) hD2
        have hrl := rowK_len ks j
        refine ⟨D2, rowK ks j, rfl, upd_same, by omega, fun r H5 hr5 s5 hrg => ?_⟩
        have s35 := sD2.trans s5
        have e5 := s35 _ _ h1
        have hrD : r ≠ D := (ne_of_none (sD2 _ _ h1) hr5).symm
        have hlen : rs.length = j := by
          rw [h2.length, List.length_take]
          show min j 8 = j
          omega
        refine ⟨_, e5, by rw [List.length_map, hlen]; exact Nat.lt_of_lt_of_le hj8 (show 8 ≤ sizeLine by decide), rs ++ [r], by rw [upd_same, List.map_append]; rfl, ?_, Same.upd (s3.trans s35) hD⟩
        have et : (toldK ks)[j]? = some (rg (sd (rowK ks j))) := by
          unfold toldK
          rw [List.getElem?_map, List.getElem?_range hj8]
          rfl
        rw [take_next et]
        exact paired_snoc (Paired.mapP h2 fun _ _ z => ⟨(z.1.mono (Same.ls s35)).put z.2 e5, z.2⟩) ⟨hrg.put hrD e5, hrD⟩
    · rintro H4 ⟨rs, h1, h2, s3⟩
      rw [show (toldK ks).take ((8 : Int).toNat) = toldK ks from List.take_of_length_le (Nat.le_of_eq (by simp [toldK]))] at h2
      exact q D H4 hD s3 ⟨rs, h1, Paired.mapP h2 fun _ _ z => z.1⟩
theorem scLawHas : FnScope ["_law_replica", "_law_messages_here", "_law_keys", "_law_changes", "_law_key"] ["_law_replica", "_law_messages_here", "_law_keys"] (defScope sLawHas) := ⟨rfl, rfl, rfl, by decide +kernel, rfl, by decide +kernel, by decide +kernel⟩
theorem k__law_has (T : Tx K mg) : CalG P w K mg base 3 "_law_has" (spHas P w K) := by
  have k__law_same : CalG P w K mg base 1 "_law_same" (spSame K) := k__law_same T
  have k__law_cells : C8.Cal P w K mg base 1 "_law_cells" (spCells P w) [] := k__law_cells T
  have k__law_told : C8.Cal P w K mg base 2 "_law_told" spToldL [] := k__law_told T
  have k_told : C8.Cal P w K mg base 2 "told" (spTold P w K) [] := k_told T
  refine calG T.d__law_has T.g__law_has scLawHas (fun _ F => F.binds fun _ _ _ _ _ _ us hl => match us, hl with | [_, _, _], _ => rfl) (fun vs H Q E h => ?_) (fun cdv A outer s H vs Q E hG hr h => ?_)
  · obtain ⟨p, d, m, f, a, pr, l, MR, M, ks, rfl, _⟩ := h
    rfl
  · obtain ⟨p, d, m, f, a, pr, l, MR, M, ks, rfl, hR, hM, ha, hk, hl, hb, hc, hz, q⟩ := h
    have hu := hu_of hr
    have hu80 := hu80_of hr
    refine ⟨_, (pss_cons (ps_if (pt_not (pt_val (pe_gc k__law_same hG hr (by decide) rfl (pa_cons (C8.pe_c k_told hr (by decide) rfl (pa_cons (pv 0) pa_nil)) (pa_cons (C8.pe_c k__law_told hr (by decide) rfl (pa_cons (pv 2) pa_nil)) pa_nil))))) (pss_one (ps_ret pe_bl)) pss_nil)
      (pss_cons (ps_set (i := 3) scLawHas.nd rfl (Or.inl rfl) (pe_lst pa_nil))
      (pss_cons (ps_for PassesOwn.never rfl (pi_list (pv 2)) (pg_name (i := 4) scLawHas.nd rfl (Or.inl rfl))
      (pss_one (ps_set (i := 3) scLawHas.nd rfl (Or.inl rfl) (pe_op op_cat (pv 3) (pe_dget hu (pv 1) (pv 4) (fun _ _ => rfl))))))
      (pss_one (ps_ret (pe_cmpR (op_eqC hu80) (pe_fld (pe_fld (pv 0) rfl) rfl) (C8.pe_c k__law_cells hr (by decide) rfl (pa_cons (pv 3) pa_nil)) (nomark _))))))), ?_⟩
    have hMRl : MR.length = ks.length := by rw [← hk, List.length_map]
    have hb2 : ∀ e ∈ MR, 0 ≤ e.1.1 ∧ e.1.1 < 8 := fun e he => (hb e.1 (by rw [← hk]; exact List.mem_map_of_mem he)).1
    refine ⟨_, rfl, p, d, m, pr, l, MR, rfl, hR, hb2, by omega, fun t H1 ht s1 hT => ?_⟩
    refine ⟨_, rfl, a, ks, rfl, ha.mono (Same.ls s1), by omega, fun t2 H2 ht2 s2 hT2 => ?_⟩
    rw [toldD_keys, hk] at hT
    have hfit : Fit (tdD (toldK ks)) := (sm_td (bd_told hb (by omega)) (by simp [toldK])).fit (by decide) (by decide)
    refine ⟨.ref t, .ref t2, tdD (toldK ks), rfl, .inl rfl, .inl rfl, td_dp (hT.mono (Same.ls s2)), td_dp hT2, hfit, true, rfl, iteF ?_⟩
    have s12 := s1.trans s2
    obtain ⟨hsum, hok⟩ := chg_sum hc
    obtain ⟨bs, hal, hbs⟩ := ha
    have ha2 := s12 _ _ hal
    obtain ⟨kvs, hf, hkv⟩ := hM
    refine ⟨(show 0 ≤ sizeLine by decide), fun r0 hr0 => ?_⟩
    refine ⟨_, rfl, a, rfl, ⟨_, SqL.of (Same.new hr0 _ _ ha2)⟩, for_list (K := K) (a := a) (xs := bs.map V.ref)
      (fun i σ H' => (∃ r v4, σ = [some (.ref p), some (.ref f), some (.ref a), some (.ref r), v4] ∧ H2 r = none ∧ ∃ cas : List Addr, H' r = some (.lst (cas.map V.ref)) ∧ ChsAt H' cas ((ks.take i).flatMap (chg M))) ∧ Same H2 H')
      ⟨⟨r0, none, rfl, hr0, [], upd_same, .nil⟩, Same.new hr0⟩ (fun i σ H' _ h => SqL.of (h.2 _ _ ha2)) ?_ ?_⟩
    · rintro i y σ H' hi ⟨⟨r, v4, rfl, hr2, cas, h1, h2⟩, s3⟩
      rw [List.getElem?_map] at hi
      cases e : bs[i]? with
      | none =>
        rw [e] at hi
        cases hi
      | some z =>
        rw [e] at hi
        obtain rfl : V.ref z = y := Option.some.inj hi
        obtain ⟨kk, e1, e2⟩ := paired_get' hbs i z e
        have e2 : H z = some (.tup [.int kk.1, .int kk.2]) := e2
        have sH := s12.trans s3
        obtain ⟨cs, hg, _, hcl⟩ := hc kk (List.mem_of_getElem? e1)
        rcases mv_get (k := kk) hkv with ⟨_, e4⟩ | ⟨la, as, cs', e3, e4, hla, has⟩
        · rw [hg] at e4
          cases e4
        · rw [hg] at e4
          cases e4
          have hec : chg M kk = cs := by rw [chg, hg]; rfl
          have hsum2 : cas.length ≤ 3 * ks.length := by
            rw [h2.length]
            have := (chg_sum (M := M) (ks := ks.take i) fun x hx => hc x (List.mem_of_mem_take hx)).1
            have := List.length_take_le' i ks
            omega
          refine ⟨_, rfl, _, rfl, _, rfl, f, .ref la, rfl, ?_, r, la, _, _, rfl, rfl, h1, sH _ _ hla, line_ge (by rw [List.length_map, List.length_map, has.length]; omega), fun r2 hr3 => ?_⟩
          · rw [← e3]
            exact DGet.t (k := mk kk) (sH _ _ hf) (sH _ _ e2)
          · refine ⟨⟨r2, some (.ref z), rfl, s3.free hr3, cas ++ as, by rw [upd_same, List.map_append], ?_⟩, s3.trans (Same.new hr3)⟩
            rw [take_next e1, List.flatMap_append, List.flatMap_singleton, hec]
            have sn := Same.new (o := .lst (cas.map V.ref ++ as.map V.ref)) hr3
            exact paired_app (h2.mono (Same.tups sn)) (has.mono (Same.tups (sH.trans sn)))
    · rintro σ H' ⟨⟨r, v4, rfl, hr2, cas, h1, h2⟩, s3⟩
      rw [List.length_map, hbs.length, List.take_length] at h2
      have sH := s12.trans s3
      have hR' := hR.same sH
      obtain ⟨⟨dx, ck, md, st, ro, pe, hp, dxs, hs⟩, hcl0, _⟩ := hR'
      refine ⟨_, rfl, p, _, dx, _, _, rfl, hp, T.c_Replica, T.a_Replica_state, rfl, st, _, dxs, _, _, rfl, hs, T.c_State, T.a_State_cells, rfl, ?_⟩
      refine ⟨_, rfl, r, cas, _, rfl, h1, h2, by omega, fun r3 H4 hr3 s4 hcl => ?_⟩
      obtain ⟨kv1, c1, p1⟩ := hcl0.mono (Same.tups s4) fun o e => s4 _ _ e
      rw [← hl] at hcl
      obtain ⟨kv2, c2, p2⟩ := hcl
      refine ⟨d, r3, kv1, kv2, l.map ceD, rfl, rfl, c1, c2, by rw [cv_keys p1, cv_keys p2], cv_dp p1, cv_dp p2, fun x hx => ?_, q H4 (sH.trans s4)⟩
      obtain ⟨e, he, rfl⟩ := List.mem_map.mp hx
      rw [hl] at he
      exact (sm_ce (okE_fold _ [] hok (fun _ z => nomatch z) e he)).shaped (by decide)
theorem scLawRowOf : FnScope ["_law_box_here", "_law_numbers", "_law_k", "_law_due", "_law_kept"] ["_law_box_here"] (defScope sLawRowOf) := ⟨rfl, rfl, rfl, by decide +kernel, rfl, by decide +kernel, by decide +kernel⟩
theorem k__law_row_of (T : Tx K mg) : CalG P w K mg base 2 "_law_row_of" spRowOf := by
  have k__law_same : CalG P w K mg base 1 "_law_same" (spSame K) := k__law_same T
  have k__law_draw : C8.Cal P w K mg base 1 "_law_draw" spDraw [] := k__law_draw T
  have k__law_ranges : C8.Cal P w K mg base 1 "_law_ranges" spRanges [] := k__law_ranges T
  have k_ranges_of : C8.Cal P w K mg base 1 "ranges_of" spRanges [] := k_ranges_of T
  have k_numbers_of : C8.Cal P w K mg base 1 "numbers_of" spNumbers [] := k_numbers_of T
  refine calG T.d__law_row_of T.g__law_row_of scLawRowOf (fun _ F => F.binds fun _ _ _ _ _ _ us hl => match us, hl with | [_], _ => rfl) (fun vs H Q E h => ?_) (fun cdv A outer s H vs Q E hG hr h => ?_)
  · obtain ⟨x, rfl, _⟩ := h
    rfl
  · obtain ⟨x, rfl, hB, q⟩ := h
    have hu64 := hu64_of hr
    refine ⟨_, (pss_cons (by exact (ps_setLcD (i := 1) (own := [("_law_k", 2)]) (g := gName 2) rfl scLawRowOf.nd rfl rfl (sw_true rfl rfl rfl (by decide +kernel)) (pi_range1 (by rfl) T.n_range (pa_cons (C8.pe_c k__law_draw hr (by decide) rfl (pa_cons (pv 0) (pa_cons pe_int pa_nil))) pa_nil)) (blkOk_by (own := [("_law_k", 2)]) (N := ["_law_box_here", "_law_numbers", "_law_k", "_law_due", "_law_kept"]) (sc := defScope sLawRowOf) (by decide +kernel)) (fun _ _ _ _ _ => (pg_name (i := 2) scLawRowOf.nd rfl (Or.inl rfl))) (fun _ _ _ _ _ => pts_nil) (fun _ _ _ _ _ => (pe_op op_add (C8.pe_c k__law_draw hr (by decide) rfl (pa_cons (pv 0) (pa_cons pe_int pa_nil))) (pe_op op_mul pe_int (pe_callTy call_int1 (by rfl) T.n_int (by decide +kernel) (pa_cons (pe_cmpR op_eq (C8.pe_c k__law_draw hr (by decide) rfl (pa_cons (pv 0) (pa_cons pe_int pa_nil))) pe_int (nomark _)) pa_nil)))))))
      (pss_cons (ps_set (i := 3) scLawRowOf.nd rfl (Or.inl rfl) (C8.pe_c k__law_ranges hr (by decide) rfl (pa_cons (pv 1) pa_nil)))
      (pss_cons (ps_set (i := 4) scLawRowOf.nd rfl (Or.inl rfl) (pe_callTy call_list_of (by rfl) T.n_list (by decide +kernel) (pa_cons (pv 1) pa_nil)))
      (pss_cons (ps_if (PW.pt (pw_or (pt_not (pt_val (pe_gc k__law_same hG hr (by decide) rfl (pa_cons (C8.pe_c k_ranges_of hr (by decide) rfl (pa_cons (pv 1) pa_nil)) (pa_cons (pv 3) pa_nil))))) (pw_or1 (pt_cmpR (op_neD hu64) (pv 1) (pv 4) (nomark _))))) (pss_one (ps_ret pe_bl)) pss_nil)
      (pss_one (ps_ret (pe_gc k__law_same hG hr (by decide) rfl (pa_cons (C8.pe_c k_numbers_of hr (by decide) rfl (pa_cons (pv 3) pa_nil)) (pa_cons (pe_callB (cr_sortedSet rfl) (by rfl) T.n_sorted (by decide +kernel) (pa_cons (pe_callTy (cr_setI rfl) (by rfl) T.n_set (by decide +kernel) (pa_cons (pv 1) pa_nil)) pa_nil)) pa_nil))))))))), ?_⟩
    refine ⟨_, rfl, x, 13, rfl, hB, by decide, fun n H1 hn0 hn1 k1 hB1 => ⟨n, rfl, by omega, by omega, fun D hD => ?_⟩⟩
    have hDx : D ≠ x := fun z => hB1.some (by rw [← z]; exact hD)
    have hDn : H D = none := k1.free hD (by simpa using hDx)
    refine lc_it (walk_range (lo := 0) (n := n.toNat))
      (fun i H' => (∃ ns : List Int, H' D = some (.lst (ns.map V.int)) ∧ ns.length = i ∧ ∀ z ∈ ns, 0 ≤ z ∧ z ≤ 200000) ∧ Kp [x] H H' ∧ BoxAt H' x)
      ⟨⟨[], upd_same, rfl, fun _ z => nomatch z⟩, k1.updF hDn, hB1.same (Same.new hD)⟩ (fun _ _ _ _ => trivial) ?_ ?_
    · rintro i y H2 H3 hi ⟨⟨ns, h1, h2, h3⟩, k2, hB2⟩ ⟨rfl, rfl⟩
      have hi13 : i < 13 := by omega
      refine ⟨rfl, ?_⟩
      refine ⟨_, rfl, x, 14, rfl, hB2, by decide, fun d1 H4 a1 a2 k3 hB3 => ?_⟩
      refine ⟨_, rfl, x, 6, rfl, hB3, by decide, fun d2 H5 a3 a4 k4 hB4 => ?_⟩
      refine ⟨rfl, .inr ⟨_, rfl, _, _, rfl, rfl, .inl (by decide), _, _, rfl, rfl, ?_⟩⟩
      have hD5 := hB3.keep k4 (hB2.keep k3 h1 (nb_ints ns)) (nb_ints ns)
      have hz : 0 ≤ (d1 + 100000 * (if decide (V.int d2 = V.int 0) = true then 1 else 0)) ∧ (d1 + 100000 * (if decide (V.int d2 = V.int 0) = true then 1 else 0)) ≤ 200000 := by
        split <;> omega
      obtain ⟨z0, z1⟩ := hz
      refine ⟨_, hD5, ?_, ⟨ns ++ [(d1 + 100000 * (if decide (V.int d2 = V.int 0) = true then 1 else 0))], by rw [upd_same, List.map_append]; rfl, by rw [List.length_append, h2]; rfl, fun q hq => ?_⟩, ((k2.trans k3).trans k4).updF hDn, ?_⟩
      · rw [List.length_map, h2]
        exact Nat.lt_of_lt_of_le hi13 (show 13 ≤ sizeLine by decide)
      · rcases List.mem_append.mp hq with hq | hq
        · exact h3 q hq
        · rw [List.mem_singleton.mp hq]
          exact ⟨z0, z1⟩
      · obtain ⟨b, ms, j, g1, g2, g3⟩ := hB4
        have hbD : b ≠ D ∨ b = D := (Decidable.em (b = D)).symm
        by_cases hbD : b = D
        · refine ⟨b, ns ++ [(d1 + 100000 * (if decide (V.int d2 = V.int 0) = true then 1 else 0))], j, by rw [upd_ne hDx.symm]; exact g1, by rw [hbD, upd_same, List.map_append]; rfl, g3.1, by simp⟩
        · exact ⟨b, ms, j, by rw [upd_ne hDx.symm]; exact g1, by rw [upd_ne hbD]; exact g2, g3⟩
    · rintro H2 ⟨⟨ns, h1, h2, h3⟩, k2, hB2⟩
      have hnl : ns.length < 64 := by omega
      have hbd : ∀ i ∈ sd ns, Bd i := fun i hi => by
        have := h3 i ((mem_sd i ns).mp hi)
        show i.natAbs < _
        omega
      have hbn : ∀ i ∈ ns, Bd i := fun i hi => by
        have := h3 i hi
        show i.natAbs < _
        omega
      have hsl := sd_len ns
      have hfr : Fit (rgsD (rg (sd ns))) := (sm_rgs (L := 64) (fun p hp => ⟨hbd _ (rg_mem _ p hp).1, hbd _ (rg_mem _ p hp).2⟩) (by have := rg_len (sd ns); omega)).fit (by decide) (by decide)
      refine ⟨_, rfl, D, ns, rfl, h1, hnl, fun du H3 hdu s3 hrg => ?_⟩
      refine ⟨_, rfl, D, _, rfl, .inl (SqL.of (s3 _ _ h1)), fun kp hkp => ?_⟩
      have s4 := s3.trans (Same.new (o := .lst (ns.map V.int)) hkp)
      have hrg4 := hrg.mono (Same.ls (Same.new (o := .lst (ns.map V.int)) hkp))
      have hk4 : upd H3 kp (.lst (ns.map V.int)) kp = some (.lst (ns.map V.int)) := upd_same
      refine ⟨_, rfl, D, ns, rfl, s4 _ _ h1, hnl, fun r5 H5 hr5 s5 hrg5 => ?_⟩
      have hsh : SeqAt.shaped (intsD ns) = true := (sm_ints (L := 64) hbn (by omega)).shaped (by decide)
      refine ⟨_, rfl, .ref r5, .ref du, _, rfl, .inl rfl, .inl rfl, rgs_dp hrg5, rgs_dp (hrg4.mono (Same.ls s5)), hfr, true, rfl, iteF ?_⟩
      refine ⟨_, rfl, _, rfl, intsD ns, intsD ns, ints_dp (s5 _ _ (s4 _ _ h1)), ints_dp (s5 _ _ hk4), hsh, hsh, false, by rw [eqv_self (sm_ints (L := 64) hbn (by omega))]; rfl, iteF ?_⟩
      refine ⟨_, rfl, du, rg (sd ns), rfl, hrg4.mono (Same.ls s5), up_rg _, by rw [ex_rg]; omega, fun i hi => ?_, fun r6 H6 hr6 s6 h6 => ?_⟩
      · rw [ex_rg, mem_sd] at hi
        have := h3 i hi
        omega
      · rw [ex_rg, sd_of_srt (srt_sd ns)] at h6
        have sAll := ((s4.trans s5).trans s6)
        refine ⟨_, rfl, D, ns, rfl, SqL.of (sAll _ _ h1), by omega, fun p7 c7 hp7 hc7 => ?_⟩
        refine ⟨p7, _, c7, rfl, upd_same, by omega, fun out t7 hs7 hm7 hl7 ht7 => ?_⟩
        obtain rfl : out = sd ns := srt_ext hs7 (srt_sd ns) fun k => (hm7 k).trans (decide_eq_true_iff.trans (mem_sd k ns).symm)
        have s7 := (Same.new (o := SetO w p7 (fun j => decide (j ∈ ns)) c7) hp7).trans (Same.new (o := .lst ((sd ns).map V.int)) ht7)
        refine ⟨.ref r6, .ref t7, intsD (sd ns), rfl, .inl rfl, .inl rfl, ints_dp (s7 _ _ h6), ints_dp upd_same, (sm_ints (L := 64) hbd (by omega)).fit (by decide) (by decide), ?_⟩
        exact q _ (k2.trans (Kp.of (sAll.trans s7))) (hB2.same (sAll.trans s7))
end
end Gt
set_option Elab.async false
set_option linter.all false
set_option maxRecDepth 100000
set_option maxHeartbeats 4000000
/-! The law's helpers 3: messages, some of their keys. -/
namespace Gt
open PySem PySem.Spec PyProof.Rows L2
/-- all but boxes stays -/
def Bk (H H' : Hp) : Prop := ∀ b o, H b = some o → notBox o → H' b = some o
theorem BoxAt.bk {H H' : Hp} {x : Addr} (h : BoxAt H x) (k : Kp [x] H H') : Bk H H' := fun _ _ e n => h.keep k e n
theorem Bk.tups {H H' : Hp} (k : Bk H H') : Tups H H' := fun b xs e => k b _ e fun _ _ z => nomatch z
theorem MsAt.bk {H H' : Hp} {f : Addr} {M : List ME} (h : MsAt H f M) (k : Bk H H') : MsAt H' f M := by
  obtain ⟨kvs, h1, h2⟩ := h
  refine ⟨kvs, k _ _ h1 (fun _ _ z => nomatch z), Paired.mapP h2 fun _ _ z => ?_⟩
  obtain ⟨h0, la, as, g1, g2, g3⟩ := z
  exact ⟨h0, la, as, g1, k _ _ g2 (nb_refs as), g3.mono k.tups⟩
theorem RgsAt.bk {H H' : Hp} {a : Addr} {rs : List (Int × Int)} (h : RgsAt H a rs) (k : Bk H H') : RgsAt H' a rs := by
  obtain ⟨bs, h1, h2⟩ := h
  exact ⟨bs, k _ _ h1 (nb_refs bs), h2.mono k.tups⟩
structure OkMs (n : Nat) (M : List ME) : Prop where
  nd : (M.map (·.1)).Nodup
  len : M.length ≤ n
  ok : ∀ e ∈ M, ((0 ≤ e.1.1 ∧ e.1.1 < 8) ∧ 1 ≤ e.1.2 ∧ e.1.2 ≤ 8) ∧ (∀ c ∈ e.2, okC c) ∧ e.2.length ≤ 3
theorem seq_ix {i : Int} {n : Nat} (h0 : 0 ≤ i) (h1 : i < (n : Int)) : seqIndex? i n = some i.toNat := by
  simp only [seqIndex?]
  rw [if_neg (show ¬ i < 0 by omega), decide_eq_true h0, decide_eq_true h1]
  rfl
theorem map_erase {α β : Type} (f : α → β) : ∀ (l : List α) (i : Nat), (l.map f).eraseIdx i = (l.eraseIdx i).map f
  | [], _ => rfl
  | _ :: _, 0 => rfl
  | a :: l, i + 1 => by
    rw [List.map_cons, List.eraseIdx_cons_succ, List.eraseIdx_cons_succ, List.map_cons, map_erase f l i]
theorem paired_erase {α β : Type} {R : α → β → Prop} : ∀ {l : List α} {m : List β}, Paired R l m → ∀ i, Paired R (l.eraseIdx i) (m.eraseIdx i)
  | _, _, .nil, _ => .nil
  | _, _, .cons _ t, 0 => t
  | _, _, .cons r t, i + 1 => .cons r (paired_erase t i)
theorem perm_pick {α : Type} {g l : List α} {i : Nat} (h : i < l.length) : (g ++ [l[i]] ++ l.eraseIdx i).Perm (g ++ l) := by
  rw [List.append_assoc]
  refine List.Perm.append_left g ?_
  have e : l = l.take i ++ l[i] :: l.drop (i + 1) := by rw [← List.drop_eq_getElem_cons h, List.take_append_drop]
  rw [List.eraseIdx_eq_take_drop_succ]
  conv => rhs; rw [e]
  show (l[i] :: (l.take i ++ l.drop (i + 1))).Perm _
  exact List.perm_middle.symm
theorem BoxAt.putR {H : Hp} {x D : Addr} {as : List Addr} {o : HO} (h : BoxAt H x) (e : H D = Option.some (.lst (as.map V.ref))) : BoxAt (upd H D o) x := by
  obtain ⟨b, ns, i, h1, h2, h3, h4⟩ := h
  have hD : x ≠ D := fun z => by
    rw [← z, h1] at e
    exact nb_refs as _ _ (Option.some.inj e).symm
  have hb : b ≠ D := fun z => by
    rw [← z, h2] at e
    match ns, as, h4, e with
    | [], _, h4, _ => exact h4 rfl
    | _ :: _, [], _, e => cases e
    | _ :: _, _ :: _, _, e => cases e
  exact ⟨b, ns, i, by rw [upd_ne hD]; exact h1, by rw [upd_ne hb]; exact h2, h3, h4⟩
theorem BoxAt.putT {H : Hp} {x D : Addr} {kvs : List (List Key × V)} {o : HO} (h : BoxAt H x) (e : H D = Option.some (.dT kvs)) : BoxAt (upd H D o) x := by
  obtain ⟨b, ns, i, h1, h2, h3, h4⟩ := h
  have hD : x ≠ D := fun z => by
    rw [← z, h1] at e
    cases e
  have hb : b ≠ D := fun z => by
    rw [← z, h2] at e
    cases e
  exact ⟨b, ns, i, by rw [upd_ne hD]; exact h1, by rw [upd_ne hb]; exact h2, h3, h4⟩
def spMsgs : Sp := fun vs H Q _ => ∃ (x : Addr), vs = [.ref x] ∧ BoxAt H x ∧ ∀ (f : Addr) (M : List ME) (H' : Hp), H f = none → Kp [x] H H' → BoxAt H' x → MsAt H' f M → OkMs 20 M → Q (.ref f) H'
def spSome : Sp := fun vs H Q _ => ∃ (x f : Addr) (M : List ME), vs = [.ref x, .ref f] ∧ BoxAt H x ∧ MsAt H f M ∧ OkMs 20 M ∧ ∀ (r : Addr) (ks : List (Int × Int)) (H' : Hp), H r = none → Kp [x] H H' → BoxAt H' x → RgsAt H' r ks → ks.Nodup → (∀ k ∈ ks, k ∈ M.map (·.1)) → Q (.ref r) H'
section
variable {P : Program} {w : World} {K : PySem.W.Frag} {mg : Str → Option Value} {base : Heap}
theorem scLawMessages : FnScope ["_law_box_here", "_law_found", "_law_clock", "_law_turn", "_law_key", "_law_changes", "_law_k", "_law_name"] ["_law_box_here"] (defScope sLawMessages) := ⟨rfl, rfl, rfl, by decide +kernel, rfl, by decide +kernel, by decide +kernel⟩
theorem k__law_messages (T : Tx K mg) : C8.Cal P w K mg base 4 "_law_messages" spMsgs [] := by
  have k__law_draw : C8.Cal P w K mg base 1 "_law_draw" spDraw [] := k__law_draw T
  have k__law_pick : C8.Cal P w K mg base 2 "_law_pick" spPick [] := k__law_pick T
  have k__law_field : C8.Cal P w K mg base 2 "_law_field" spField [] := k__law_field T
  have k__law_worth : C8.Cal P w K mg base 3 "_law_worth" spWorthL [] := k__law_worth T
  refine calOf T.d__law_messages T.g__law_messages scLawMessages (fun _ F => F.binds fun _ _ _ _ _ _ us hl => match us, hl with | [_], _ => rfl) (fun vs H Q E h => ?_) (fun cdv A outer s H vs Q E hr h => ?_)
  · obtain ⟨x, rfl, _⟩ := h
    rfl
  · obtain ⟨x, rfl, hB, q⟩ := h
    have hu := hu_of hr
    refine ⟨_, (pss_cons (ps_set (i := 1) scLawMessages.nd rfl (Or.inl rfl) pe_dnewT)
      (pss_cons (ps_set (i := 2) scLawMessages.nd rfl (Or.inl rfl) pe_int)
      (pss_cons (ps_for PassesOwn.never rfl (pi_range1 (by rfl) T.n_range (pa_cons pe_int pa_nil)) (pg_name (i := 3) scLawMessages.nd rfl (Or.inl rfl))
      (pss_cons (ps_set (i := 4) scLawMessages.nd rfl (Or.inl rfl) (pe_tup (pa_cons (C8.pe_c k__law_pick hr (by decide) rfl (pa_cons (pv 0) (pa_cons (pe_lst (pa_cons pe_int (pa_cons pe_int (pa_cons pe_int (pa_cons pe_int pa_nil))))) pa_nil))) (pa_cons (pe_op op_add pe_int (C8.pe_c k__law_draw hr (by decide) rfl (pa_cons (pv 0) (pa_cons pe_int pa_nil)))) pa_nil))))
      (pss_one (ps_if (pt_cmp (pc_dnotin hu (pv 4) (pv 1))) (pss_cons (ps_set (i := 5) scLawMessages.nd rfl (Or.inl rfl) (pe_lst pa_nil))
      (pss_cons (ps_for PassesOwn.never rfl (pi_range1 (by rfl) T.n_range (pa_cons (pe_op op_add pe_int (C8.pe_c k__law_draw hr (by decide) rfl (pa_cons (pv 0) (pa_cons pe_int pa_nil)))) pa_nil)) (pg_name (i := 6) scLawMessages.nd rfl (Or.inl rfl))
      (pss_cons (ps_set (i := 2) scLawMessages.nd rfl (Or.inl rfl) (pe_op op_add (pv 2) pe_int))
      (pss_cons (ps_set (i := 7) scLawMessages.nd rfl (Or.inl rfl) (pe_tup (pa_cons (C8.pe_c k__law_draw hr (by decide) rfl (pa_cons (pv 0) (pa_cons pe_int pa_nil))) (pa_cons (C8.pe_c k__law_draw hr (by decide) rfl (pa_cons (pv 0) (pa_cons pe_int pa_nil))) pa_nil))))
      (pss_one (ps_expr (pe_bm PySem.F.plainAttrs_list PySem.F.slot_list_append PySem.F.type_list_append mt_append (pv 5) (pa_cons (pe_tup (pa_cons (pe_tup (pa_cons (pv 2) (pa_cons (pe_ix ix_tup (pv 4) pe_int (fun _ _ => rfl)) pa_nil))) (pa_cons (pv 7) (pa_cons (C8.pe_c k__law_field hr (by decide) rfl (pa_cons (pv 0) pa_nil)) (pa_cons (C8.pe_c k__law_worth hr (by decide) rfl (pa_cons (pv 0) (pa_cons (pe_lst (pa_cons (pe_tup (pa_cons pe_int (pa_cons pe_int pa_nil))) (pa_cons (pe_tup (pa_cons pe_int (pa_cons pe_int pa_nil))) pa_nil))) pa_nil))) pa_nil))))) pa_nil)))))))
      (pss_one (ps_dput hu (pv 1) (pv 4) (pv 5) rfl)))) pss_nil))))
      (pss_one (ps_ret (pv 1)))))), ?_⟩
    refine fun f hf0 => ?_
    have hfx : f ≠ x := fun z => hB.some (by rw [← z]; exact hf0)
    refine ⟨20, rfl, by decide, by decide, for_range (lo := 0) (n := (20 : Int).toNat)
      (fun i σ H' => (∃ ck v3 v4 v5 v6 v7, σ = [some (.ref x), some (.ref f), some (.int ck), v3, v4, v5, v6, v7] ∧ 0 ≤ ck ∧ ck ≤ 3 * (i : Int)) ∧ Kp [x] H H' ∧ BoxAt H' x ∧ ∃ M, MsAt H' f M ∧ OkMs i M)
      ⟨⟨0, none, none, none, none, none, rfl, by decide, by decide⟩, Kp.new hf0, hB.same (Same.new hf0), [], ⟨[], upd_same, .nil⟩, .nil, Nat.le_refl _, fun _ z => nomatch z⟩ ?_ ?_⟩
    · rintro i σ H1 hi ⟨⟨ck, v3, v4, v5, v6, v7, rfl, hc0, hc1⟩, k1, hB1, M, hM, hok⟩
      have hi : i < 20 := hi
      refine ⟨_, rfl, (show 4 ≤ sizeLine by decide), fun t ht => ?_⟩
      have st := Same.new (o := .lst [V.int 0, V.int 1, V.int 5, V.int 7]) ht
      have hnb : notBox (.lst [V.int 0, V.int 1, V.int 5, V.int 7]) := nb_ints [0, 1, 5, 7]
      refine ⟨x, t, _, rfl, hB1.same st, upd_same, hnb, (fun z => nomatch z), fun v H2 hv k2 hB2 => ?_⟩
      have kk1 : ∃ k1 : Int, v = .int k1 ∧ 0 ≤ k1 ∧ k1 < 8 := by
        rcases List.mem_cons.mp hv with rfl | hv
        · exact ⟨0, rfl, by decide, by decide⟩
        rcases List.mem_cons.mp hv with rfl | hv
        · exact ⟨1, rfl, by decide, by decide⟩
        rcases List.mem_cons.mp hv with rfl | hv
        · exact ⟨5, rfl, by decide, by decide⟩
        rcases List.mem_cons.mp hv with rfl | hv
        · exact ⟨7, rfl, by decide, by decide⟩
        · cases hv
      obtain ⟨kp, rfl, kp0, kp1⟩ := kk1
      refine ⟨_, rfl, x, 8, rfl, hB2, by decide, fun kn H3 kn0 kn1 k3 hB3 => ⟨_, _, rfl, rfl, (show 2 ≤ sizeLine by decide), fun kb hkb => ?_⟩⟩
      have sk := Same.new (o := .tup [V.int kp, V.int (1 + kn)]) hkb
      have b13 : Kp [x] H1 (upd H3 kb (.tup [.int kp, .int (1 + kn)])) := (((Kp.of st).trans k2).trans k3).trans (Kp.of sk)
      have hB4 := hB3.same sk
      have hM4 := hM.bk (hB1.bk b13)
      have hkb4 : upd H3 kb (.tup [.int kp, .int (1 + kn)]) kb = some (.tup [.int kp, .int (1 + kn)]) := upd_same
      have k04 := k1.trans b13
      obtain ⟨kvs, hf4, hkv⟩ := hM4
      have hMs4 : MsAt (upd H3 kb (.tup [.int kp, .int (1 + kn)])) f M := ⟨kvs, hf4, hkv⟩
      refine ⟨_, rfl, _, rfl, f, valV kvs (mk (kp, 1 + kn)), rfl, DGet.t (k := mk (kp, 1 + kn)) hf4 hkb4, _, rfl, iteB _ (fun c => ?_) fun c => ?_⟩
      · have hgn : getM M (kp, 1 + kn) = none := by
          rcases mv_get (k := (kp, 1 + kn)) hkv with ⟨_, e⟩ | ⟨_, _, _, e, _⟩
          · exact e
          · rw [e] at c
            cases c
        refine ⟨(show 0 ≤ sizeLine by decide), fun la hla0 => ?_⟩
        have sl := Same.new (o := .lst []) hla0
        have hlx : la ≠ x := fun z => hB4.some (by rw [← z]; exact hla0)
        have hB5 := hB4.same sl
        have hla5 : upd (upd H3 kb (.tup [.int kp, .int (1 + kn)])) la (.lst []) la = some (.lst []) := upd_same
        refine ⟨_, rfl, x, 3, rfl, hB5, by decide, fun d H6 d0 d1 k6 hB6 => ⟨_, _, rfl, rfl, 1 + d, rfl, by omega, by omega, for_range (lo := 0) (n := (1 + d).toNat)
          (fun j σ H' => (∃ ck v6 v7, σ = [some (.ref x), some (.ref f), some (.int ck), some (.int (0 + (i : Int))), some (.ref kb), some (.ref la), v6, v7] ∧ 0 ≤ ck ∧ ck ≤ 3 * (i : Int) + (j : Int)) ∧ Kp [x] (upd H3 kb (.tup [.int kp, .int (1 + kn)])) H' ∧ BoxAt H' x ∧
            ∃ (as : List Addr) (cs : List Ch), H' la = some (.lst (as.map V.ref)) ∧ ChsAt H' as cs ∧ cs.length = j ∧ ∀ c ∈ cs, okC c)
          ⟨⟨ck, v6, v7, rfl, hc0, by omega⟩, (Kp.of sl).trans k6, hB6, [], [], hB5.keep k6 hla5 (nb_refs []), .nil, rfl, fun _ z => nomatch z⟩ ?_ ?_⟩⟩
        · rintro j σ H7 hj ⟨⟨ck, v6, v7, rfl, hc0, hc1⟩, k7, hB7, as, cs, hl7, hcs7, hcl, hcok⟩
          have hj4 : j < 3 := by omega
          refine ⟨_, rfl, _, _, rfl, rfl, ?_⟩
          refine ⟨_, rfl, x, 3, rfl, hB7, by decide, fun np H8 np0 np1 k8 hB8 => ?_⟩
          refine ⟨_, rfl, x, 3, rfl, hB8, by decide, fun nc H9 nc0 nc1 k9 hB9 => ⟨(show 2 ≤ sizeLine by decide), fun nb hnb => ?_⟩⟩
          have sn := Same.new (o := .tup [V.int np, V.int nc]) hnb
          have hBa := hB9.same sn
          have ka : Kp [x] H7 (upd H9 nb (.tup [.int np, .int nc])) := (k8.trans k9).trans (Kp.of sn)
          have hn4 : upd H9 nb (.tup [.int np, .int nc]) nb = some (.tup [.int np, .int nc]) := upd_same
          have hla := hB7.keep ka hl7 (nb_refs as)
          have hkba := hB7.keep ka (hB4.keep k7 hkb4 (fun _ _ z => nomatch z)) (fun _ _ z => nomatch z)
          refine ⟨_, rfl, .inl ⟨rfl, _, SqL.of hla⟩, _, rfl, _, rfl, kb, _, _, _, rfl, rfl, sqT_of hkba, atI_nat (j := 0) rfl, (show 2 ≤ sizeLine by decide), fun sa hsa => ?_⟩
          have ss := Same.new (o := .tup [V.int (ck + 1), V.int kp]) hsa
          have hBb := hBa.same ss
          have hs4 : upd (upd H9 nb (.tup [.int np, .int nc])) sa (.tup [.int (ck + 1), .int kp]) sa = some (.tup [.int (ck + 1), .int kp]) := upd_same
          have hnb2 := ss _ _ hn4
          have kb2 := ka.trans (Kp.of (S := [x]) ss)
          refine ⟨_, rfl, _, rfl, x, rfl, hBb, fun fd Hc fd1 fd2 kc hBc => ?_⟩
          refine ⟨_, rfl, (show 2 ≤ sizeLine by decide), fun t0 ht0 => ⟨(show 2 ≤ sizeLine by decide), fun t1 ht1 => ⟨(show 2 ≤ sizeLine by decide), fun nl hnl => ?_⟩⟩⟩
          have s3 := ((Same.new (o := .tup [V.int 0, V.int 0]) ht0).trans (Same.new (o := .tup [V.int 1, V.int 0]) ht1)).trans (Same.new (o := .lst [V.ref t0, V.ref t1]) hnl)
          refine ⟨x, nl, t0, t1, rfl, hBc.same s3, upd_same, (Same.new hnl) _ _ ((Same.new ht1) _ _ upd_same), (Same.new hnl) _ _ upd_same, fun wv u Hd hwv hu1 kd hBd => ?_⟩
          have hBe := hBc.same s3
          have kce : Kp [x] (upd (upd H9 nb (.tup [.int np, .int nc])) sa (.tup [.int (ck + 1), .int kp])) Hd := (kc.trans (Kp.of s3)).trans kd
          refine ⟨(show 4 ≤ sizeLine by decide), fun cb hcb => ?_⟩
          have sc := Same.new (o := .tup [V.ref sa, V.ref nb, V.str (SX.S fd), wv]) hcb
          have kAll : Kp [x] H7 (upd Hd cb (.tup [.ref sa, .ref nb, .str (SX.S fd), wv])) := (kb2.trans kce).trans (Kp.of sc)
          have tAll := hB7.tups kAll
          have hlaF := hB7.keep kAll hl7 (nb_refs as)
          have hBF := hBd.same sc
          refine ⟨la, _, _, rfl, rfl, hlaF, ?_, ?_⟩
          · rw [List.length_map, hcs7.length, hcl]
            exact Nat.lt_trans hj4 (by decide)
          have tL : Tups (upd Hd cb (.tup [.ref sa, .ref nb, .str (SX.S fd), wv])) (upd (upd Hd cb (.tup [.ref sa, .ref nb, .str (SX.S fd), wv])) la (.lst (as.map V.ref ++ [.ref cb]))) := (Kp.put (S := [la]) (.head _)).tups fun x hx o e => by
            rw [List.mem_singleton.mp hx, hlaF] at e
            cases e
            rfl
          have tsa := (hBb.tups kce).trans (Same.tups sc)
          refine ⟨⟨ck + 1, some (.int (0 + (j : Int))), some (.ref nb), rfl, by omega, by omega⟩, ((k7.trans kAll).updF hla0), hBF.putR hlaF, as ++ [cb], cs ++ [⟨ck + 1, kp, np, nc, fd, u⟩], by rw [upd_same, List.map_append]; rfl, ?_, by rw [List.length_append, hcl]; rfl, fun c hc => ?_⟩
          · refine paired_snoc ((hcs7.mono tAll).mono tL) ⟨sa, nb, wv, tL _ _ upd_same, tL _ _ (tsa _ _ hs4), tL _ _ (tsa _ _ hnb2), (hwv.mono (Same.tups sc)).mono tL⟩
          · rcases List.mem_append.mp hc with hc | hc
            · exact hcok c hc
            · rw [List.mem_singleton.mp hc]
              exact ⟨by show 1 ≤ ck + 1 ∧ ck + 1 ≤ _; omega, ⟨kp0, kp1⟩, by show 0 ≤ np ∧ np < 8; omega, by show 0 ≤ nc ∧ nc ≤ _; omega, fd1, fd2, hu1⟩
        · rintro σ H7 ⟨⟨ck, v6, v7, rfl, hc0, hc1⟩, k7, hB7, as, cs, hl7, hcs7, hcl, hcok⟩
          have hM7 := hMs4.bk (hB4.bk k7)
          obtain ⟨kvs7, hf7, hkv7⟩ := hM7
          have hkb7 := hB4.keep k7 hkb4 (fun _ _ z => nomatch z)
          have hMl := hok.len
          refine ⟨_, rfl, _, rfl, _, rfl, f, _, rfl, DPut.t (k := mk (kp, 1 + kn)) hf7 hkb7 (by rw [hkv7.length]; exact Nat.lt_of_le_of_lt (show _ ≤ 20 by omega) (by decide)), ?_⟩
          have hBF := hB7.putT (o := .dT (putK kvs7 (mk (kp, 1 + kn)) (.ref la))) hf7
          have fF : Fx H7 (upd H7 f (.dT (putK kvs7 (mk (kp, 1 + kn)) (.ref la)))) := (Kp.put (S := [f]) (.head _)).fix fun x hx o e => by
            rw [List.mem_singleton.mp hx, hf7] at e
            cases e
            rfl
          refine ⟨⟨ck, some (.int (0 + (i : Int))), some (.ref kb), some (.ref la), v6, v7, rfl, hc0, by omega⟩, (k04.trans k7).updF hf0, hBF, M ++ [((kp, 1 + kn), cs)], ⟨_, upd_same, ?_⟩, ?_, ?_, fun e he => ?_⟩
          · exact mv_put (Paired.mapP hkv7 fun _ _ z => z.mono fF) hgn ⟨rfl, la, as, rfl, fF _ _ hl7 rfl, hcs7.mono fF.tups⟩
          · rw [List.map_append]
            refine List.nodup_append.mpr ⟨hok.nd, by simp, fun a ha b hb e => ?_⟩
            rw [List.map_singleton, List.mem_singleton] at hb
            obtain ⟨e2, he2, rfl⟩ := List.mem_map.mp ha
            exact getM_none.mp hgn e2 he2 (e.trans hb)
          · rw [List.length_append]
            exact Nat.add_le_add_right hMl 1
          · rcases List.mem_append.mp he with he | he
            · exact hok.ok e he
            · rw [List.mem_singleton.mp he]
              exact ⟨⟨⟨kp0, kp1⟩, by show 1 ≤ 1 + kn ∧ 1 + kn ≤ 8; omega⟩, hcok, by show cs.length ≤ 3; omega⟩
      · refine ⟨⟨ck, some (.int (0 + (i : Int))), some (.ref kb), v5, v6, v7, rfl, hc0, by omega⟩, k04, hB4, M, hMs4, hok.nd, Nat.le_succ_of_le hok.len, hok.ok⟩
    · rintro σ H1 ⟨⟨ck, v3, v4, v5, v6, v7, rfl, hc0, hc1⟩, k1, hB1, M, hM, hok⟩
      exact ⟨_, rfl, q f M H1 hf0 k1 hB1 hM hok⟩
theorem scLawSome : FnScope ["_law_box_here", "_law_messages_here", "_law_keys", "_law_key", "_law_found"] ["_law_box_here", "_law_messages_here"] (defScope sLawSome) := ⟨rfl, rfl, rfl, by decide +kernel, rfl, by decide +kernel, by decide +kernel⟩
theorem k__law_some (T : Tx K mg) : C8.Cal P w K mg base 2 "_law_some" spSome [] := by
  have k__law_draw : C8.Cal P w K mg base 1 "_law_draw" spDraw [] := k__law_draw T
  refine calOf T.d__law_some T.g__law_some scLawSome (fun _ F => F.binds fun _ _ _ _ _ _ us hl => match us, hl with | [_, _], _ => rfl) (fun vs H Q E h => ?_) (fun cdv A outer s H vs Q E hr h => ?_)
  · obtain ⟨x, f, M, rfl, _⟩ := h
    rfl
  · obtain ⟨x, f, M, rfl, hB, hM, hok, q⟩ := h
    refine ⟨_, (pss_cons (by exact (ps_setLcD (i := 2) (own := [("_law_key", 3)]) (g := gName 3) rfl scLawSome.nd rfl rfl (sw_true rfl rfl rfl (by decide +kernel)) (pi_list (pe_callB (cr_sortedDP rfl) (by rfl) T.n_sorted (by decide +kernel) (pa_cons (pv 1) pa_nil))) (blkOk_by (own := [("_law_key", 3)]) (N := ["_law_box_here", "_law_messages_here", "_law_keys", "_law_key", "_law_found"]) (sc := defScope sLawSome) (by decide +kernel)) (fun _ _ _ _ _ => (pg_name (i := 3) scLawSome.nd rfl (Or.inl rfl))) (fun _ _ _ _ _ => (pts_one (pt_cmpR op_eq (C8.pe_c k__law_draw hr (by decide) rfl (pa_cons (pv 0) (pa_cons pe_int pa_nil))) pe_int (nomark _)))) (fun _ _ _ _ _ => (pv 3))))
      (pss_cons (ps_set (i := 4) scLawSome.nd rfl (Or.inl rfl) (pe_lst pa_nil))
      (pss_cons (ps_while PassesOwn.never (pt_truth (pv 2) (by intro _; rfl))
      (pss_one (ps_expr (pe_bm PySem.F.plainAttrs_list PySem.F.slot_list_append PySem.F.type_list_append mt_append (pv 4) (pa_cons (pe_bm PySem.F.plainAttrs_list PySem.F.slot_list_pop PySem.F.type_list_pop mt_popAt (pv 2) (pa_cons (pe_op op_mod (pe_callTy call_int1 (by rfl) T.n_int (by decide +kernel) (pa_cons (C8.pe_c k__law_draw hr (by decide) rfl (pa_cons (pv 0) (pa_cons pe_int pa_nil))) pa_nil)) (pe_callB call_len_seq (by rfl) T.n_len (by decide +kernel) (pa_cons (pv 2) pa_nil))) pa_nil)) pa_nil)))))
      (pss_one (ps_ret (pv 4)))))), ?_⟩
    obtain ⟨kvs, hf, hkv⟩ := hM
    have hkk : kvs.map (·.1) = (M.map (·.1)).map (fun k => [Sum.inl k.1, Sum.inl k.2]) := by
      clear hf q hok
      induction hkv with
      | nil => rfl
      | cons r t ih => rw [List.map_cons, List.map_cons, List.map_cons, ih, r.1]; rfl
    have hl20 := hok.len
    have hbnd : ∀ k ∈ M.map (·.1), (0 ≤ k.1 ∧ k.1 < 64) ∧ 0 ≤ k.2 ∧ k.2 < 64 := fun k hk => by
      obtain ⟨e, he, rfl⟩ := List.mem_map.mp hk
      have := (hok.ok e he).1
      omega
    refine ⟨_, rfl, f, kvs, M.map (·.1), rfl, .inl hf, hkk, by rw [List.length_map]; omega, hbnd, fun bs js p hps hperm hsort hp => ?_⟩
    have sp := Same.new (o := .lst (bs.map V.ref)) hp
    have hps2 := hps.mono (Same.tups sp)
    have hp2 : upd H p (.lst (bs.map V.ref)) p = some (.lst (bs.map V.ref)) := upd_same
    have hB1 := hB.same sp
    have hjl : js.length ≤ 20 := by rw [hperm.length_eq, List.length_map]; exact hl20
    have hjn : js.Nodup := hperm.symm.nodup hok.nd
    have k01 : Kp [x] H (upd H p (.lst (bs.map V.ref))) := Kp.of sp
    generalize upd H p (.lst (bs.map V.ref)) = H1 at *
    refine ⟨p, rfl, ⟨_, SqL.of hp2⟩, fun D hD => ?_⟩
    have hDx : D ≠ x := fun z => hB1.some (by rw [← z]; exact hD)
    refine lc_it (walk_list (K := K) (a := p) (xs := bs.map V.ref))
      (fun j H' => (∃ (cs : List Addr) (ls : List (Int × Int)), H' D = some (.lst (cs.map V.ref)) ∧ PairsAt H' cs ls ∧ ls.Sublist (js.take j)) ∧ Kp [x] H1 H' ∧ BoxAt H' x)
      ⟨⟨[], [], upd_same, .nil, List.nil_sublist _⟩, Kp.new hD, hB1.same (Same.new hD)⟩ (fun i H' _ h => SqL.of (hB1.keep h.2.1 hp2 (nb_refs bs))) ?_ ?_
    · rintro j y H2 H3 hj ⟨⟨cs, ls, h1, h2, h3⟩, k2, hB2⟩ ⟨rfl, hy⟩
      rw [List.getElem?_map] at hy
      cases e : bs[j]? with
      | none =>
        rw [e] at hy
        cases hy
      | some z =>
        rw [e] at hy
        obtain rfl : V.ref z = y := Option.some.inj hy
        obtain ⟨kk, e1, e2⟩ := paired_get' hps2 j z e
        have htl := List.length_take_le' j js
        have hll : ls.length ≤ 20 := by have := h3.length_le; omega
        refine ⟨rfl, ?_⟩
        refine ⟨_, rfl, x, 2, rfl, hB2, by decide, fun d H4 d0 d1 k3 hB3 => ⟨rfl, _, rfl, iteB _ (fun _ => ?_) fun _ => ?_⟩⟩
        · have hD4 := hB2.keep k3 h1 (nb_refs cs)
          have k4 := k2.trans k3
          have tr : Tups H4 (upd H4 D (.lst (cs.map V.ref ++ [.ref z]))) := (Kp.put (S := [D]) (.head _)).tups fun x hx o e => by
            rw [List.mem_singleton.mp hx, hD4] at e
            cases e
            rfl
          refine ⟨_, rfl, _, hD4, ?_, ⟨cs ++ [z], ls ++ [kk], by rw [upd_same, List.map_append]; rfl, ?_, ?_⟩, k4.updF hD, ?_⟩
          · rw [List.length_map, h2.length]
            exact Nat.lt_of_le_of_lt hll (by decide)
          · refine paired_snoc ((h2.mono (hB2.tups k3)).mono tr) ?_
            exact tr _ _ ((hB1.tups k4) _ _ e2)
          · rw [take_next e1]
            exact h3.append (List.Sublist.refl [kk])
          · exact hB3.putR hD4
        · refine ⟨⟨cs, ls, hB2.keep k3 h1 (nb_refs cs), h2.mono (hB2.tups k3), ?_⟩, k2.trans k3, hB3⟩
          rw [take_next e1]
          exact h3.trans (List.sublist_append_left ..)
    · rintro H2 ⟨⟨cs, ls, h1, h2, h3⟩, k2, hB2⟩
      rw [List.length_map, hps2.length, List.take_length] at h3
      have hDn : H D = none := k01.free hD (by simpa using hDx)
      refine ⟨(show 0 ≤ sizeLine by decide), fun r hr0 => ?_⟩
      have hrx : r ≠ x := fun z => hB2.some (by rw [← z]; exact hr0)
      have hrn : H r = none := (k01.trans k2).free hr0 (by simpa using hrx)
      have hrD : D ≠ r := ne_of_none h1 hr0
      have sr := Same.new (o := .lst []) hr0
      have hll : ls.length ≤ 20 := by have := h3.length_le; omega
      refine ⟨fun m σ H' => ∃ (cs fs : List Addr) (ls gs : List (Int × Int)), m = ls.length ∧ σ = [some (.ref x), some (.ref f), some (.ref D), none, some (.ref r)] ∧ H' D = some (.lst (cs.map V.ref)) ∧ PairsAt H' cs ls ∧ H' r = some (.lst (fs.map V.ref)) ∧ PairsAt H' fs gs ∧
        (gs ++ ls).Nodup ∧ (∀ k ∈ gs ++ ls, k ∈ M.map (·.1)) ∧ gs.length + ls.length ≤ 20 ∧ Kp [x] H H' ∧ BoxAt H' x,
        ⟨ls.length, cs, [], ls, [], rfl, rfl, sr _ _ h1, h2.mono (Same.tups sr), upd_same, .nil, h3.nodup hjn, fun k hk => hperm.subset (h3.subset hk), by simpa using hll, (k01.trans k2).updF hrn, hB2.same sr⟩, ?_⟩
      rintro m σ H' ⟨cs, fs, ls, gs, rfl, rfl, g1, g2, g3, g4, g5, g6, g7, k4, hB4⟩
      refine ⟨_, rfl, _, .inl ⟨_, SqL.of g1, rfl⟩, iteB _ (fun c => ?_) fun c => ?_⟩
      · refine ⟨_, fun _ _ h => h, ?_⟩
        have hne : ls ≠ [] := by
          rintro rfl
          have := g2.length
          have hcs : cs = [] := List.length_eq_zero_iff.mp this
          rw [hcs] at c
          cases c
        have hpos : 0 < ls.length := List.length_pos_iff.mpr hne
        have hcl : cs.length = ls.length := g2.length
        refine ⟨_, rfl, .inl ⟨rfl, _, SqL.of g3⟩, _, rfl, .inl ⟨rfl, _, SqL.of g1⟩, _, rfl, x, 900, rfl, hB4, by decide, fun d H5 d0 d1 k5 hB5 => ?_⟩
        have q1 := hB4.keep k5 g1 (nb_refs cs)
        have q3 := hB4.keep k5 g3 (nb_refs fs)
        have q2 := g2.mono (hB4.tups k5)
        have q4 := g4.mono (hB4.tups k5)
        have hml : ((cs.map V.ref).length : Int) = (ls.length : Int) := by rw [List.length_map, hcl]
        have i0 : 0 ≤ d % ((cs.map V.ref).length : Int) := Int.emod_nonneg _ (by omega)
        have i1 : d % ((cs.map V.ref).length : Int) < ((cs.map V.ref).length : Int) := Int.emod_lt_of_pos _ (by omega)
        refine .inl ⟨_, rfl, _, rfl, D, _, rfl, .inl (SqL.of q1), _, _, rfl, rfl, (show (0 : Int) < _ by omega), ?_⟩
        have hlt : (d % ((cs.map V.ref).length : Int)).toNat < ls.length := by omega
        have hlt2 : (d % ((cs.map V.ref).length : Int)).toNat < cs.length := by omega
        refine ⟨D, _, (d % ((cs.map V.ref).length : Int)), (d % ((cs.map V.ref).length : Int)).toNat, V.ref cs[(d % ((cs.map V.ref).length : Int)).toNat], rfl, rfl, q1, by omega, by omega, seq_ix i0 i1, by rw [List.getElem?_map, List.getElem?_eq_getElem hlt2]; rfl, ?_⟩
        have q3b : upd H5 D (.lst ((cs.map V.ref).eraseIdx (d % ((cs.map V.ref).length : Int)).toNat)) r = some (.lst (fs.map V.ref)) := by
          rw [upd_ne hrD.symm]
          exact q3
        refine ⟨r, _, _, rfl, rfl, q3b, ?_, ?_⟩
        · rw [List.length_map, g4.length]
          exact Nat.lt_of_le_of_lt (show _ ≤ 20 by omega) (by decide)
        have t1 : Tups H5 (upd H5 D (.lst ((cs.map V.ref).eraseIdx (d % ((cs.map V.ref).length : Int)).toNat))) := (Kp.put (S := [D]) (.head _)).tups fun x hx o e => by
          rw [List.mem_singleton.mp hx, q1] at e
          cases e
          rfl
        have t2 : Tups (upd H5 D (.lst ((cs.map V.ref).eraseIdx (d % ((cs.map V.ref).length : Int)).toNat))) (upd (upd H5 D (.lst ((cs.map V.ref).eraseIdx (d % ((cs.map V.ref).length : Int)).toNat))) r (.lst (fs.map V.ref ++ [V.ref cs[(d % ((cs.map V.ref).length : Int)).toNat]]))) := (Kp.put (S := [r]) (.head _)).tups fun x hx o e => by
          rw [List.mem_singleton.mp hx, q3b] at e
          cases e
          rfl
        have t12 := t1.trans t2
        have pk := perm_pick (g := gs) hlt
        refine ⟨_, ?_, cs.eraseIdx (d % ((cs.map V.ref).length : Int)).toNat, fs ++ [cs[(d % ((cs.map V.ref).length : Int)).toNat]], ls.eraseIdx (d % ((cs.map V.ref).length : Int)).toNat, gs ++ [ls[(d % ((cs.map V.ref).length : Int)).toNat]], rfl, rfl, ?_, (PairsAt.mono t12 (paired_erase q2 _)), ?_, ?_, ?_, fun k hk => g6 k (pk.subset hk), ?_, ?_, ?_⟩
        · rw [List.length_eraseIdx_of_lt hlt]
          omega
        · rw [upd_ne hrD, upd_same, map_erase]
        · rw [upd_same, List.map_append]
          rfl
        · obtain ⟨b, hb1, hb2⟩ := paired_get q2 (d % ((cs.map V.ref).length : Int)).toNat _ (List.getElem?_eq_getElem hlt)
          rw [List.getElem?_eq_getElem hlt2] at hb1
          cases hb1
          exact paired_snoc (q4.mono t12) (t12 _ _ hb2)
        · exact pk.symm.nodup g5
        · rw [List.length_append, List.length_eraseIdx_of_lt hlt, List.length_singleton]
          omega
        · exact ((k4.trans k5).updF hDn).updF hrn
        · exact (hB5.putR q1).putR (as := fs) q3b
      · refine ⟨_, rfl, ?_⟩
        refine q r gs H' hrn k4 hB4 ⟨fs, g3, g4⟩ (List.nodup_append.mp g5).1 fun k hk => g6 k (List.mem_append_left _ hk)
end
end Gt
set_option Elab.async false
set_option linter.all false
set_option maxRecDepth 100000
set_option maxHeartbeats 4000000
/-! Math 4: what lacks is what is due; the state of the law. -/
namespace Gt
open PySem PySem.Spec PyProof.Rows L2
abbrev PK : Type := Int × Int
def kyI (k : PK) : Int := k.1 * 64 + k.2
def OkK (k : PK) : Prop := (0 ≤ k.1 ∧ k.1 < 8) ∧ 1 ≤ k.2 ∧ k.2 ≤ 8
theorem kyI_inj {a b : PK} (ha : OkK a) (hb : OkK b) (h : kyI a = kyI b) : a = b := by
  obtain ⟨a1, a2⟩ := a
  obtain ⟨b1, b2⟩ := b
  obtain ⟨⟨p1, p2⟩, p3, p4⟩ := ha
  obtain ⟨⟨q1, q2⟩, q3, q4⟩ := hb
  simp only [kyI] at *
  have e1 : a1 = b1 := by omega
  have e2 : a2 = b2 := by omega
  rw [e1, e2]
theorem map_inj_on {α β : Type} {f : α → β} : ∀ {l m : List α}, (∀ a ∈ l, ∀ b ∈ m, f a = f b → a = b) → l.map f = m.map f → l = m
  | [], [], _, _ => rfl
  | [], _ :: _, _, h => by cases h
  | _ :: _, [], _, h => by cases h
  | a :: l, b :: m, hi, h => by
    rw [List.map_cons, List.map_cons] at h
    have h1 := (List.cons.inj h)
    rw [hi a (.head _) b (.head _) h1.1, map_inj_on (fun x hx y hy => hi x (.tail _ hx) y (.tail _ hy)) h1.2]
/-- two ascending lists of keys with the same members are one -/
theorem keys_ext {l m : List PK} (hl : ∀ k ∈ l, OkK k) (hm : ∀ k ∈ m, OkK k) (sl : (l.map kyI).Pairwise (· < ·)) (sm : (m.map kyI).Pairwise (· < ·)) (h : ∀ k, k ∈ l ↔ k ∈ m) : l = m := by
  refine map_inj_on (f := kyI) (fun a ha b hb e => kyI_inj (hl a ha) (hm b hb) e) (srt_ext sl sm fun k => ?_)
  rw [List.mem_map, List.mem_map]
  exact ⟨fun ⟨a, ha, e⟩ => ⟨a, (h a).mp ha, e⟩, fun ⟨a, ha, e⟩ => ⟨a, (h a).mpr ha, e⟩⟩
theorem toldK_getD (ks : List PK) (s : Nat) (h : s < 8) : (toldK ks).getD s [] = rg (sd (rowK ks s)) := by
  unfold toldK
  rw [List.getD_eq_getElem?_getD, List.getElem?_map, List.getElem?_range h]
  rfl
theorem mem_lackRow (K0 K1 : List PK) (s : Nat) (h : s < 8) (k : PK) : k ∈ lackRow (toldK K0) (toldK K1) s ↔ k.1 = (s : Int) ∧ k ∈ K1 ∧ k ∉ K0 := by
  unfold lackRow
  rw [toldK_getD K0 s h, toldK_getD K1 s h, ex_rg, sd_of_srt (srt_sd _), List.mem_map]
  obtain ⟨a, b⟩ := k
  constructor
  · rintro ⟨n, hn, e⟩
    obtain ⟨h1, h2⟩ := List.mem_filter.mp hn
    rw [outOf_iff, ex_rg, mem_sd, mem_rowK] at h2
    rw [mem_sd, mem_rowK] at h1
    cases e
    exact ⟨rfl, h1, h2⟩
  · rintro ⟨e, h1, h2⟩
    have e : a = (s : Int) := e
    subst e
    refine ⟨b, List.mem_filter.mpr ⟨?_, ?_⟩, rfl⟩
    · rw [mem_sd, mem_rowK]
      exact h1
    · rw [outOf_iff, ex_rg, mem_sd, mem_rowK]
      exact h2
theorem mem_lackN (K0 K1 : List PK) (i : Nat) (h : i ≤ 8) (k : PK) : k ∈ lackN (toldK K0) (toldK K1) i ↔ (0 ≤ k.1 ∧ k.1 < (i : Int)) ∧ k ∈ K1 ∧ k ∉ K0 := by
  unfold lackN
  rw [List.mem_flatMap]
  constructor
  · rintro ⟨s, hs, hk⟩
    have hs := List.mem_range.mp hs
    obtain ⟨e, h1, h2⟩ := (mem_lackRow K0 K1 s (by omega) k).mp hk
    exact ⟨⟨by omega, by omega⟩, h1, h2⟩
  · rintro ⟨⟨h0, h1⟩, h2, h3⟩
    exact ⟨k.1.toNat, List.mem_range.mpr (by omega), (mem_lackRow K0 K1 _ (by omega) k).mpr ⟨by omega, h2, h3⟩⟩
theorem srt_lackRow (K0 K1 : List PK) (s : Nat) (h : s < 8) : ((lackRow (toldK K0) (toldK K1) s).map kyI).Pairwise (· < ·) := by
  unfold lackRow
  rw [toldK_getD K0 s h, toldK_getD K1 s h, ex_rg, sd_of_srt (srt_sd _), List.map_map]
  have h1 : ((sd (rowK K1 s)).filter (outOf (rg (sd (rowK K0 s))))).Pairwise (· < ·) := (srt_sd _).sublist (List.filter_sublist ..)
  refine List.Pairwise.map _ (fun a b hab => ?_) h1
  show (s : Int) * 64 + a < (s : Int) * 64 + b
  omega
theorem srt_lackN (K0 K1 : List PK) (hK : ∀ k ∈ K1, OkK k) : ∀ i, i ≤ 8 → ((lackN (toldK K0) (toldK K1) i).map kyI).Pairwise (· < ·)
  | 0, _ => .nil
  | i + 1, h => by
    rw [lackN_succ, List.map_append]
    refine List.pairwise_append.mpr ⟨srt_lackN K0 K1 hK i (by omega), srt_lackRow K0 K1 i (by omega), fun a ha b hb => ?_⟩
    obtain ⟨k, hk, rfl⟩ := List.mem_map.mp ha
    obtain ⟨k2, hk2, rfl⟩ := List.mem_map.mp hb
    obtain ⟨g1, g2, _⟩ := (mem_lackN K0 K1 i (by omega) k).mp hk
    obtain ⟨g3, g4, _⟩ := (mem_lackRow K0 K1 i (by omega) k2).mp hk2
    have q1 := hK k g2
    have q2 := hK k2 g4
    obtain ⟨⟨a1, a2⟩, a3, a4⟩ := q1
    obtain ⟨⟨b1, b2⟩, b3, b4⟩ := q2
    simp only [kyI]
    omega
/-- the keys that are due -/
def dueK (js K0 K1 : List PK) : List PK := js.filter fun k => decide (k ∈ K1) && !decide (k ∈ K0)
theorem mem_dueK (js K0 K1 : List PK) (k : PK) : k ∈ dueK js K0 K1 ↔ k ∈ js ∧ k ∈ K1 ∧ k ∉ K0 := by
  unfold dueK
  rw [List.mem_filter, Bool.and_eq_true, decide_eq_true_eq, Bool.not_eq_true', decide_eq_false_iff_not]
theorem srt_js {js : List PK} (hn : js.Nodup) (hk : ∀ k ∈ js, OkK k) (hs : js.Pairwise (fun a b => a.1 * 64 + a.2 ≤ b.1 * 64 + b.2)) : (js.map kyI).Pairwise (· < ·) := by
  rw [List.pairwise_map]
  refine (hs.and hn).imp_of_mem fun {a b} ha hb h => ?_
  have : kyI a ≠ kyI b := fun e => h.2 (kyI_inj (hk a ha) (hk b hb) e)
  have h1 : kyI a ≤ kyI b := h.1
  omega
theorem lack_due {js K0 K1 : List PK} (hn : js.Nodup) (hk : ∀ k ∈ js, OkK k) (hs : js.Pairwise (fun a b => a.1 * 64 + a.2 ≤ b.1 * 64 + b.2)) (h1 : ∀ k ∈ K1, k ∈ js) : lackD (toldK K0) (toldK K1) = dueK js K0 K1 := by
  have hK1 : ∀ k ∈ K1, OkK k := fun k h => hk k (h1 k h)
  refine keys_ext (fun k h => ?_) (fun k h => hk k ((mem_dueK ..).mp h).1) (srt_lackN K0 K1 hK1 8 (Nat.le_refl _)) ?_ fun k => ?_
  · exact hK1 k ((mem_lackN K0 K1 8 (Nat.le_refl _) k).mp h).2.1
  · exact (srt_js hn hk hs).sublist ((List.filter_sublist ..).map _)
  · rw [mem_dueK]
    constructor
    · intro h
      obtain ⟨_, h2, h3⟩ := (mem_lackN K0 K1 8 (Nat.le_refl _) k).mp h
      exact ⟨h1 k h2, h2, h3⟩
    · rintro ⟨_, h2, h3⟩
      refine (mem_lackN K0 K1 8 (Nat.le_refl _) k).mpr ⟨?_, h2, h3⟩
      exact (hK1 k h2).1
theorem lack_none {K0 K1 : List PK} (h : ∀ k ∈ K1, k ∈ K0) : lackD (toldK K0) (toldK K1) = [] := by
  refine List.eq_nil_iff_forall_not_mem.mpr fun k hk => ?_
  obtain ⟨_, h2, h3⟩ := (mem_lackN K0 K1 8 (Nat.le_refl _) k).mp hk
  exact h3 (h k h2)
/-! ### what a replica holds behind some keys -/
def lD (M : List ME) (ks : List PK) : List CE := (ks.flatMap (chg M)).foldl stepC []
def mD (M : List ME) (ks : List PK) : List ME := ks.map fun k => (k, chg M k)
theorem mD_keys (M : List ME) (ks : List PK) : (mD M ks).map (·.1) = ks := by
  unfold mD
  rw [List.map_map]
  exact List.map_id' ks
theorem mD_len (M : List ME) (ks : List PK) : (mD M ks).length = ks.length := List.length_map ..
theorem lD_len (M : List ME) (ks : List PK) : (lD M ks).length ≤ (ks.flatMap (chg M)).length := by
  have := cells_len (ks.flatMap (chg M)) []
  simpa [lD] using this
theorem getM_mD {M : List ME} {ks : List PK} {k : PK} : getM (mD M ks) k = if k ∈ ks then some (chg M k) else none := by
  unfold mD
  induction ks with
  | nil => rfl
  | cons x ks ih =>
    rw [List.map_cons, getM_cons, ih]
    by_cases h : x = k
    · rw [if_pos h, if_pos (by rw [h]; exact .head _), h]
    · rw [if_neg h]
      by_cases h2 : k ∈ ks
      · rw [if_pos h2, if_pos (.tail _ h2)]
      · rw [if_neg h2, if_neg (fun z => by rcases List.mem_cons.mp z with z | z; exact h z.symm; exact h2 z)]
theorem getM_of {M : List ME} {n : Nat} (h : OkMs n M) {k : PK} (hk : k ∈ M.map (·.1)) : ∃ cs, getM M k = some cs ∧ (∀ c ∈ cs, okC c) ∧ cs.length ≤ 3 := by
  cases e : getM M k with
  | none =>
    obtain ⟨x, hx, rfl⟩ := List.mem_map.mp hk
    exact absurd rfl (getM_none.mp e x hx)
  | some cs =>
    have := h.ok _ (getM_mem e)
    exact ⟨cs, rfl, this.2.1, this.2.2⟩
theorem okK_of {M : List ME} {n : Nat} (h : OkMs n M) {k : PK} (hk : k ∈ M.map (·.1)) : OkK k := by
  obtain ⟨x, hx, rfl⟩ := List.mem_map.mp hk
  have := (h.ok x hx).1
  exact this
/-! ### the law's heap -/
theorem RpAt.bk {P : Program} {w : World} {K : PySem.W.Frag} {H H' : Hp} {p d m : Addr} {pr : Int} {l : List CE} {M : List ME} (h : RpAt P w K H p d m pr l M) (k : Bk H H') : RpAt P w K H' p d m pr l M := by
  obtain ⟨⟨dx, ck, md, st, ro, pe, h1, dx2, h2⟩, hc, hm⟩ := h
  refine ⟨⟨dx, ck, md, st, ro, pe, k _ _ h1 (fun _ _ z => nomatch z), dx2, k _ _ h2 (fun _ _ z => nomatch z)⟩, hc.mono k.tups fun o e => k _ _ e ?_, hm.bk k⟩
  obtain ⟨o1, e1, _, _⟩ := celO_prt hc
  obtain ⟨kvs, ⟨xs, _, g | ⟨_, g⟩⟩, _⟩ := hc
  · rw [g] at e
    cases e
    exact fun _ _ z => nomatch z
  · rw [g] at e
    cases e
    exact fun _ _ z => nomatch z
structure LawSt (P : Program) (w : World) (K : PySem.W.Frag) (H : Hp) (f rl kl p0 d0 m0 p1 d1 m1 k0 k1 : Addr) (M : List ME) (K0 K1 : List PK) (pr0 pr1 : Int) (l0 l1 : List CE) (M0 M1 : List ME) : Prop where
  ms : MsAt H f M
  rl : H rl = some (.lst [.ref p0, .ref p1])
  kl : H kl = some (.lst [.ref k0, .ref k1])
  r0 : RpAt P w K H p0 d0 m0 pr0 l0 M0
  r1 : RpAt P w K H p1 d1 m1 pr1 l1 M1
  g0 : RgsAt H k0 K0
  g1 : RgsAt H k1 K1
section
variable {P : Program} {w : World} {K : PySem.W.Frag} {H H' : Hp} {f rl kl p0 d0 m0 p1 d1 m1 k0 k1 : Addr} {M : List ME} {K0 K1 : List PK} {pr0 pr1 : Int} {l0 l1 l0' l1' : List CE} {M0 M1 M0' M1' : List ME}
theorem MsAt.same (h : MsAt H f M) (s : Same H H') : MsAt H' f M := h.mono (Fx.of s) fun o e => s _ _ e
theorem LawSt.same (h : LawSt P w K H f rl kl p0 d0 m0 p1 d1 m1 k0 k1 M K0 K1 pr0 pr1 l0 l1 M0 M1) (s : Same H H') : LawSt P w K H' f rl kl p0 d0 m0 p1 d1 m1 k0 k1 M K0 K1 pr0 pr1 l0 l1 M0 M1 :=
  ⟨h.ms.same s, s _ _ h.rl, s _ _ h.kl, h.r0.same s, h.r1.same s, h.g0.mono (Same.ls s), h.g1.mono (Same.ls s)⟩
theorem Fx.ls (x : Fx H H') : Ls H H' := fun b o e p => x b o e (by
  rcases p with p | ⟨xs, p⟩
  · cases o with
    | tup xs => rfl
    | _ => cases p
  · rw [p]
    rfl)
theorem LawSt.kp0 (h : LawSt P w K H f rl kl p0 d0 m0 p1 d1 m1 k0 k1 M K0 K1 pr0 pr1 l0 l1 M0 M1) (hf : f ∉ [p0, d0, m0]) (hd : ∀ b ∈ [p1, d1, m1], b ∉ [p0, d0, m0]) (k : Kp [p0, d0, m0] H H') (r : RpAt P w K H' p0 d0 m0 pr0 l0' M0') :
    LawSt P w K H' f rl kl p0 d0 m0 p1 d1 m1 k0 k1 M K0 K1 pr0 pr1 l0' l1 M0' M1 := by
  have x := k.fix h.r0.prts
  exact ⟨h.ms.mono x fun o e => k _ _ e hf, x _ _ h.rl rfl, x _ _ h.kl rfl, r, h.r1.kp k hd h.r0.prts, h.g0.mono x.ls, h.g1.mono x.ls⟩
theorem LawSt.kp1 (h : LawSt P w K H f rl kl p0 d0 m0 p1 d1 m1 k0 k1 M K0 K1 pr0 pr1 l0 l1 M0 M1) (hf : f ∉ [p1, d1, m1]) (hd : ∀ b ∈ [p0, d0, m0], b ∉ [p1, d1, m1]) (k : Kp [p1, d1, m1] H H') (r : RpAt P w K H' p1 d1 m1 pr1 l1' M1') :
    LawSt P w K H' f rl kl p0 d0 m0 p1 d1 m1 k0 k1 M K0 K1 pr0 pr1 l0 l1' M0 M1' := by
  have x := k.fix h.r1.prts
  exact ⟨h.ms.mono x fun o e => k _ _ e hf, x _ _ h.rl rfl, x _ _ h.kl rfl, h.r0.kp k hd h.r1.prts, r, h.g0.mono x.ls, h.g1.mono x.ls⟩
end
end Gt
set_option Elab.async false
set_option linter.all false
set_option maxRecDepth 100000
set_option maxHeartbeats 4000000
/-! Math 5: bounds of octets, small things for the law. -/
namespace Gt
open PySem PySem.Spec PyProof.Rows L2
theorem same_made {H H' : Hp} {p dx : Addr} {o1 o2 : HO} (hp : H p = none) (hdx : H dx = none) (hne : dx ≠ p) (k : Kp [p] (upd (upd H dx o1) p o2) H') : Same H H' := fun b u e => by
  refine k b u ?_ ?_
  · rw [upd_ne (ne_of_none e hp), upd_ne (ne_of_none e hdx)]
    exact e
  · rw [List.mem_singleton]
    exact ne_of_none e hp
theorem nodup_sub_len : ∀ {K L : List PK}, K.Nodup → (∀ k ∈ K, k ∈ L) → K.length ≤ L.length
  | [], _, _, _ => Nat.zero_le _
  | k :: K, L, h, hs => by
    have h' := List.nodup_cons.mp h
    have hk := hs k (.head _)
    have := nodup_sub_len (L := L.erase k) h'.2 fun x hx => (List.mem_erase_of_ne (fun z => h'.1 (by rw [← z]; exact hx))).mpr (hs x (.tail _ hx))
    rw [List.length_erase_of_mem hk] at this
    have hpos : 0 < L.length := List.length_pos_of_mem hk
    rw [List.length_cons]
    omega
theorem bd_numO : ∀ (k : Nat) (n : Int), ∀ i ∈ numO k n, Bd i
  | 0, _, _, h => nomatch h
  | k + 1, n, i, h => by
    rcases List.mem_cons.mp h with rfl | h
    · have h1 : 0 ≤ n / 256 ^ k % 256 := Int.emod_nonneg _ (by decide)
      have h2 : n / 256 ^ k % 256 < 256 := Int.emod_lt_of_pos _ (by decide)
      show (n / 256 ^ k % 256).natAbs < _
      omega
    · exact bd_numO k n i h
theorem bd_small {i : Int} (h0 : -1000000 ≤ i) (h1 : i ≤ 4294967295) : Bd i := by
  show i.natAbs < _
  omega
theorem bd_word {l : List Nat} (h : okL l) (hl : l.length ≤ 40) : ∀ i ∈ wordO l, Bd i := by
  intro i hi
  rcases List.mem_cons.mp hi with rfl | hi
  · exact bd_small (by omega) (by omega)
  · obtain ⟨c, hc, rfl⟩ := List.mem_map.mp hi
    have := h c hc
    exact bd_small (by omega) (by omega)
theorem bd_nm {p c : Int} (h : 0 ≤ p ∧ p < 8) : ∀ i ∈ nmO p c, Bd i := by
  intro i hi
  rcases List.mem_cons.mp hi with rfl | hi
  · exact bd_small (by omega) (by omega)
  · exact bd_numO 4 c i hi
theorem bd_wo {u : Wo} (h : okW u) : ∀ i ∈ woO u, Bd i := by
  intro i hi
  cases u with
  | non =>
    rw [List.mem_singleton.mp hi]
    exact bd_small (by decide) (by decide)
  | num z =>
    rcases List.mem_cons.mp hi with rfl | hi
    · exact bd_small (by decide) (by decide)
    · exact bd_numO 3 _ i hi
  | txt l =>
    rcases List.mem_cons.mp hi with rfl | hi
    · exact bd_small (by decide) (by decide)
    · exact bd_word h.1 (by have := h.2; omega) i hi
  | rf p c =>
    rcases List.mem_cons.mp hi with rfl | hi
    · exact bd_small (by decide) (by decide)
    · exact bd_nm h.1 i hi
theorem bd_ch {c : Ch} (h : okC c) : ∀ i ∈ chO c, Bd i := by
  intro i hi
  unfold chO at hi
  rcases List.mem_append.mp hi with hi | hi
  · rcases List.mem_append.mp hi with hi | hi
    · rcases List.mem_append.mp hi with hi | hi
      · rcases List.mem_append.mp hi with hi | hi
        · exact bd_numO 4 _ i hi
        · rw [List.mem_singleton.mp hi]
          have := h.pr
          exact bd_small (by omega) (by omega)
      · exact bd_nm h.np i hi
    · exact bd_word h.fd (by have := h.fl; omega) i hi
  · exact bd_wo h.wo i hi
theorem ck_bd : ∀ (l : List Int) (st : Int × Int), (0 ≤ st.1 ∧ st.1 < 256) ∧ 0 ≤ st.2 ∧ st.2 < 256 → (0 ≤ (l.foldl ckS st).1 ∧ (l.foldl ckS st).1 < 256) ∧ 0 ≤ (l.foldl ckS st).2 ∧ (l.foldl ckS st).2 < 256
  | [], _, h => h
  | o :: l, st, _ => by
    rw [List.foldl_cons]
    refine ck_bd l _ ?_
    have e : ∀ z : Int, 0 ≤ z % 256 ∧ z % 256 < 256 := fun z => ⟨Int.emod_nonneg _ (by decide), Int.emod_lt_of_pos _ (by decide)⟩
    exact ⟨e _, (e _).1, (e _).2⟩
theorem bd_msg {s n : Int} {cs : List Ch} (hs : 0 ≤ s ∧ s < 8) (ok : ∀ c ∈ cs, okC c) : ∀ i ∈ msgO s n cs, Bd i := by
  intro i hi
  unfold msgO at hi
  rcases List.mem_append.mp hi with hi | hi
  · rw [msgB_eq] at hi
    rcases List.mem_append.mp hi with hi | hi
    · rcases List.mem_append.mp hi with hi | hi
      · rcases List.mem_append.mp hi with hi | hi
        · rw [List.mem_singleton.mp hi]
          exact bd_small (by omega) (by omega)
        · exact bd_numO 4 _ i hi
      · exact bd_numO 2 _ i hi
    · obtain ⟨c, hc, hi⟩ := List.mem_flatMap.mp hi
      exact bd_ch (ok c hc) i hi
  · have h := ck_bd (msgB s n cs) (0, 0) ⟨⟨by decide, by decide⟩, by decide, by decide⟩
    rcases List.mem_cons.mp hi with rfl | hi
    · exact bd_small (by omega) (by omega)
    · rw [List.mem_singleton.mp hi]
      exact bd_small (by omega) (by omega)
theorem len_msg {s n : Int} {cs : List Ch} (ok : ∀ c ∈ cs, okC c) (h : cs.length ≤ 3) : (msgO s n cs).length ≤ 200 := by
  have e : msgB0 s n cs cs.length = msgB s n cs := by
    rw [msgB0, List.take_length]
    rfl
  have h1 := msgB0_len s n cs ok cs.length
  rw [e] at h1
  unfold msgO
  rw [List.length_append]
  have h2 : (ckO (msgB s n cs)).length = 2 := rfl
  omega
/-- a message as it was read -/
def mgD (M : List ME) (k : PK) : PyData := .tuple [.int k.1, .int k.2, .list ((chg M k).map chD)]
def MgAt (M : List ME) (H : Hp) (D : Addr) (t : Addr) (k : PK) : Prop := ∃ (l : Addr) (as : List Addr), H t = some (.tup [.int k.1, .int k.2, .ref l]) ∧ H l = some (.lst (as.map V.ref)) ∧ ChsAt H as (chg M k) ∧ l ≠ D
theorem MgAt.same {M : List ME} {H H' : Hp} {D t : Addr} {k : PK} (h : MgAt M H D t k) (s : Same H H') : MgAt M H' D t k := by
  obtain ⟨l, as, h1, h2, h3, h4⟩ := h
  exact ⟨l, as, s _ _ h1, s _ _ h2, h3.mono (Same.tups s), h4⟩
theorem MgAt.put {M : List ME} {H : Hp} {D t : Addr} {k : PK} {xs ys : List V} (h : MgAt M H D t k) (e : H D = some (.lst xs)) : MgAt M (upd H D (.lst ys)) D t k := by
  obtain ⟨l, as, h1, h2, h3, h4⟩ := h
  have tr : Tups H (upd H D (.lst ys)) := (Kp.put (S := [D]) (.head _)).tups fun x hx o e2 => by
    rw [List.mem_singleton.mp hx, e] at e2
    cases e2
    rfl
  exact ⟨l, as, tr _ _ h1, by rw [upd_ne h4]; exact h2, h3.mono tr, h4⟩
theorem mg_dp {K : PySem.W.Frag} {M : List ME} {H : Hp} {D t : Addr} {k : PK} (h : MgAt M H D t k) : Dp K H (.ref t) (mgD M k) := by
  obtain ⟨l, as, h1, h2, h3, h4⟩ := h
  exact .tup (sqT_of h1) (.cons (.int _) (.cons (.int _) (.cons (.lst (SqL.of h2) (chs_dp h3)) .nil)))
theorem sm_mg {M : List ME} {n : Nat} (hM : OkMs n M) {k : PK} (hk : k ∈ M.map (·.1)) : Sm 5 7464 (mgD M k) := by
  obtain ⟨cs, e, ok, hl⟩ := getM_of hM hk
  obtain ⟨⟨h0, h1⟩, h2, h3⟩ := okK_of hM hk
  have ec : chg M k = cs := by rw [chg, e]; rfl
  refine sm_tup (k := 4) (n := 2487) (fun d hd => ?_) (show 2488 * 3 ≤ 7464 by decide)
  rcases List.mem_cons.mp hd with rfl | hd
  · exact (sm_int (i := k.1) (bd_small (by omega) (by omega))).mono (by decide) (by decide)
  rcases List.mem_cons.mp hd with rfl | hd
  · exact (sm_int (i := k.2) (bd_small (by omega) (by omega))).mono (by decide) (by decide)
  rw [List.mem_singleton.mp hd, ec]
  refine sm_list (k := 3) (n := 828) (fun d hd => ?_) (by rw [List.length_map]; omega)
  obtain ⟨c, hc, rfl⟩ := List.mem_map.mp hd
  exact sm_ch (ok c hc)
theorem sm_mgs {M : List ME} {n : Nat} (hM : OkMs n M) {ks : List PK} (hk : ∀ k ∈ ks, k ∈ M.map (·.1)) : Sm 6 (7465 * ks.length) (.list (ks.map (mgD M))) := sm_list (k := 5) (n := 7464) (fun d hd => by
  obtain ⟨k, h, rfl⟩ := List.mem_map.mp hd
  exact sm_mg hM (hk k h)) (by rw [List.length_map]; exact Nat.le_refl _)
theorem mkeys {H : Hp} {kvs : List (List Key × V)} {M : List ME} (h : Paired (MvAt H) kvs M) : kvs.map (·.1) = (M.map (·.1)).map (fun k => [Sum.inl k.1, Sum.inl k.2]) := by
  induction h with
  | nil => rfl
  | cons r t ih =>
    rw [List.map_cons, List.map_cons, List.map_cons, ih, r.1]
    rfl
theorem chg_mD {M : List ME} {K : List PK} {k : PK} (h : k ∈ K) : chg (mD M K) k = chg M k := by
  unfold chg
  rw [getM_mD, if_pos h]
  rfl
theorem flat_mD {M : List ME} {K ks : List PK} (h : ∀ k ∈ ks, k ∈ K) : ks.flatMap (chg (mD M K)) = ks.flatMap (chg M) := by
  induction ks with
  | nil => rfl
  | cons k ks ih =>
    rw [List.flatMap_cons, List.flatMap_cons, ih (fun x hx => h x (.tail _ hx)), chg_mD (h k (.head _))]
theorem lD_app (M : List ME) (a b : List PK) : (b.flatMap (chg M)).foldl stepC (lD M a) = lD M (a ++ b) := by
  unfold lD
  rw [List.flatMap_append, List.foldl_append]
theorem mD_app (M : List ME) (a b : List PK) : mD M a ++ b.map (fun k => (k, chg M k)) = mD M (a ++ b) := by
  unfold mD
  rw [List.map_append]
theorem dueK_take {js K0 K1 : List PK} {j : Nat} {k : PK} (h : js[j]? = some k) : dueK (js.take (j + 1)) K0 K1 = dueK (js.take j) K0 K1 ++ (if (decide (k ∈ K1) && !decide (k ∈ K0)) = true then [k] else []) := by
  unfold dueK
  rw [take_next h, List.filter_append]
  cases z : (decide (k ∈ K1) && !decide (k ∈ K0))
  · rw [List.filter_cons_of_neg (by rw [z]; exact fun e => nomatch e)]
    rfl
  · rw [List.filter_cons_of_pos (p := fun k => decide (k ∈ K1) && !decide (k ∈ K0)) z]
    rfl
end Gt
set_option Elab.async false
set_option linter.all false
set_option maxRecDepth 100000
set_option maxHeartbeats 4000000
/-! The law. -/
namespace Gt
open PySem PySem.Spec PyProof.Rows L2
def spLaw (K : PySem.W.Frag) : Sp := fun vs H Q _ => ∃ (a : Addr) (ns : List Int), vs = [.ref a] ∧ SqL K H a (ns.map V.int) ∧ ∀ H', Q (.bl true) H'
section
variable {P : Program} {w : World} {K : PySem.W.Frag} {mg : Str → Option Value} {base : Heap}
theorem scLaw : FnScope ["_law_script", "_law_box_here", "_law_turn", "_law_messages_here", "_law_replicas", "_law_keys", "_law_k", "_law_key", "_law_due", "_law_mine", "_law_octets", "_law_row_here"] ["_law_script"] (defScope sLaw) := ⟨rfl, rfl, rfl, by decide +kernel, rfl, by decide +kernel, by decide +kernel⟩
theorem k_law (T : Tx K mg) {fd : FuncData} (F : L2.Fun K "law" "law" sLaw (He.ga K "law") fd) : FnG P w K mg base 9 (He.ga K "law") fd ["_law_script"] (spLaw K) := by
  have k__law_box : C8.Cal P w K mg base 2 "_law_box" (spBox K) [] := k__law_box T
  have k__law_draw : C8.Cal P w K mg base 1 "_law_draw" spDraw [] := k__law_draw T
  have k__law_row_of : CalG P w K mg base 2 "_law_row_of" spRowOf := k__law_row_of T
  have k__law_messages : C8.Cal P w K mg base 4 "_law_messages" spMsgs [] := k__law_messages T
  have k__law_some : C8.Cal P w K mg base 2 "_law_some" spSome [] := k__law_some T
  have k__law_same : CalG P w K mg base 1 "_law_same" (spSame K) := k__law_same T
  have k__law_has : CalG P w K mg base 3 "_law_has" (spHas P w K) := k__law_has T
  have k_Replica : C8.Mak P w K mg base 3 "Replica" (He.ga K "Replica") (spRpInit P w K) [] := k_Replica T
  have k_Replica_accept : C8.Met P w K mg base 3 (He.ga K "Replica") "accept" (spAccept P w K) [] := k_Replica_accept T
  have k_Replica_copy_of : C8.Met P w K mg base 6 (He.ga K "Replica") "copy_of" (spCopy P w K) [] := k_Replica_copy_of T
  have k_told : C8.Cal P w K mg base 2 "told" (spTold P w K) [] := k_told T
  have k_lacking : C8.Cal P w K mg base 2 "lacking" spLacking [] := k_lacking T
  have k_answer : C8.Cal P w K mg base 7 "answer" (spAnswer P w K) [] := k_answer T
  have k_bring : C8.Cal P w K mg base 8 "bring" (spBring P w K) [] := k_bring T
  have k_read_message : C8.Cal P w K mg base 6 "read_message" spRead [] := k_read_message T
  refine bodyG F scLaw (fun vs H Q E h => ?_) (fun cdv A outer s H vs Q E hG hr h => ?_)
  · obtain ⟨a, ns, rfl, _⟩ := h
    rfl
  · obtain ⟨a, ns, rfl, ha, q⟩ := h
    have hu := hu_of hr
    have hu64 := hu64_of hr
    have hu65 := hu65_of hr
    refine ⟨_, (pss_cons (ps_set (i := 1) scLaw.nd rfl (Or.inl rfl) (C8.pe_c k__law_box hr (by decide) rfl (pa_cons (pv 0) (pa_cons pe_int (pa_cons pe_int pa_nil)))))
      (pss_cons (ps_for PassesOwn.never rfl (pi_range1 (by rfl) T.n_range (pa_cons pe_int pa_nil)) (pg_name (i := 2) scLaw.nd rfl (Or.inl rfl))
      (pss_one (ps_if (pt_not (pt_val (pe_gc k__law_row_of hG hr (by decide) rfl (pa_cons (pv 1) pa_nil)))) (pss_one (ps_ret pe_bl)) pss_nil)))
      (pss_cons (ps_set (i := 3) scLaw.nd rfl (Or.inr rfl) (C8.pe_c k__law_messages hr (by decide) rfl (pa_cons (pv 1) pa_nil)))
      (pss_cons (ps_set (i := 4) scLaw.nd rfl (Or.inr rfl) (pe_lst (pa_cons (C8.pe_mk k_Replica hr (by decide) rfl (pa_cons (C8.pe_c k__law_draw hr (by decide) rfl (pa_cons (pv 1) (pa_cons pe_int pa_nil))) pa_nil)) (pa_cons (C8.pe_mk k_Replica hr (by decide) rfl (pa_cons (pe_op op_add pe_int (C8.pe_c k__law_draw hr (by decide) rfl (pa_cons (pv 1) (pa_cons pe_int pa_nil)))) pa_nil)) pa_nil))))
      (pss_cons (ps_set (i := 5) scLaw.nd rfl (Or.inr rfl) (pe_lst (pa_cons (C8.pe_c k__law_some hr (by decide) rfl (pa_cons (pv 1) (pa_cons (pv 3) pa_nil))) (pa_cons (C8.pe_c k__law_some hr (by decide) rfl (pa_cons (pv 1) (pa_cons (pv 3) pa_nil))) pa_nil))))
      (pss_cons (ps_for PassesOwn.never rfl (pi_range1 (by rfl) T.n_range (pa_cons pe_int pa_nil)) (pg_name (i := 6) scLaw.nd rfl (Or.inl rfl))
      (pss_cons (ps_for PassesOwn.never rfl (pi_list (pe_ix ix_list (pv 5) (pv 6) (fun _ _ => rfl))) (pg_name (i := 7) scLaw.nd rfl (Or.inl rfl))
      (pss_one (ps_if (pt_cmpR op_isnot_bl (C8.pe_mt k_Replica_accept hr (by decide) (pe_ix ix_list (pv 4) (pv 6) (fun _ _ => rfl)) (pa_cons (pe_ix ix_tup (pv 7) pe_int (fun _ _ => rfl)) (pa_cons (pe_ix ix_tup (pv 7) pe_int (fun _ _ => rfl)) (pa_cons (pe_callTy call_list_of (by rfl) T.n_list (by decide +kernel) (pa_cons (pe_dget hu (pv 3) (pv 7) (fun _ _ => rfl)) pa_nil)) pa_nil)))) pe_bl (nomark _)) (pss_one (ps_ret pe_bl)) pss_nil)))
      (pss_one (ps_if (pt_not (pt_val (pe_gc k__law_has hG hr (by decide) rfl (pa_cons (pe_ix ix_list (pv 4) (pv 6) (fun _ _ => rfl)) (pa_cons (pv 3) (pa_cons (pe_ix ix_list (pv 5) (pv 6) (fun _ _ => rfl)) pa_nil)))))) (pss_one (ps_ret pe_bl)) pss_nil))))
      (pss_cons (by exact (ps_setLcD (i := 8) (own := [("_law_key", 7)]) (g := gName 7) rfl scLaw.nd rfl rfl (sw_true rfl rfl rfl (by decide +kernel)) (pi_list (pe_callB (cr_sortedDP rfl) (by rfl) T.n_sorted (by decide +kernel) (pa_cons (pv 3) pa_nil))) (blkOk_by (own := [("_law_key", 7)]) (N := ["_law_script", "_law_box_here", "_law_turn", "_law_messages_here", "_law_replicas", "_law_keys", "_law_k", "_law_key", "_law_due", "_law_mine", "_law_octets", "_law_row_here"]) (sc := defScope sLaw) (by decide +kernel)) (fun _ _ _ _ _ => (pg_name (i := 7) scLaw.nd rfl (Or.inl rfl))) (fun _ _ _ _ _ => (pts_one (PW.pt (pw_and (pt_cmpR (op_inD hu65) (pv 7) (pe_ix ix_list (pv 5) pe_int (fun _ _ => rfl)) (by rfl)) (pw_and1 (pt_cmpR (op_notInD hu65) (pv 7) (pe_ix ix_list (pv 5) pe_int (fun _ _ => rfl)) (by rfl))))))) (fun _ _ _ _ _ => (pv 7))))
      (pss_cons (ps_set (i := 9) scLaw.nd rfl (Or.inl rfl) (C8.pe_c k_told hr (by decide) rfl (pa_cons (pe_ix ix_list (pv 4) pe_int (fun _ _ => rfl)) pa_nil)))
      (pss_cons (ps_if (PW.pt (pw_or (pt_not (pt_val (pe_gc k__law_same hG hr (by decide) rfl (pa_cons (C8.pe_c k_lacking hr (by decide) rfl (pa_cons (pv 9) (pa_cons (C8.pe_c k_told hr (by decide) rfl (pa_cons (pe_ix ix_list (pv 4) pe_int (fun _ _ => rfl)) pa_nil)) pa_nil))) (pa_cons (pv 8) pa_nil))))) (pw_or1 (pt_cmpR (op_neD hu64) (C8.pe_c k_lacking hr (by decide) rfl (pa_cons (pv 9) (pa_cons (pv 9) pa_nil))) (pe_lst pa_nil) (nomark _))))) (pss_one (ps_ret pe_bl)) pss_nil)
      (pss_cons (ps_set (i := 10) scLaw.nd rfl (Or.inl rfl) (C8.pe_c k_answer hr (by decide) rfl (pa_cons (pe_ix ix_list (pv 4) pe_int (fun _ _ => rfl)) (pa_cons (pv 9) pa_nil))))
      (pss_cons (ps_if (pt_cmpR (op_neD hu64) (by exact (pe_lcD (own := [("_law_row_here", 11)]) (g := gName 11) rfl scLaw.nd (pi_list (pv 10)) (blkOk_by (own := [("_law_row_here", 11)]) (N := ["_law_script", "_law_box_here", "_law_turn", "_law_messages_here", "_law_replicas", "_law_keys", "_law_k", "_law_key", "_law_due", "_law_mine", "_law_octets", "_law_row_here"]) (sc := defScope sLaw) (by decide +kernel)) (fun _ _ _ _ _ => (pg_name (i := 11) scLaw.nd rfl (Or.inl rfl))) (fun _ _ _ _ _ => pts_nil) (fun _ _ _ _ _ => (C8.pe_c k_read_message hr (by decide) rfl (pa_cons (pv 11) pa_nil))))) (by exact (pe_lcD (own := [("_law_key", 7)]) (g := gName 7) rfl scLaw.nd (pi_list (pv 8)) (blkOk_by (own := [("_law_key", 7)]) (N := ["_law_script", "_law_box_here", "_law_turn", "_law_messages_here", "_law_replicas", "_law_keys", "_law_k", "_law_key", "_law_due", "_law_mine", "_law_octets", "_law_row_here"]) (sc := defScope sLaw) (by decide +kernel)) (fun _ _ _ _ _ => (pg_name (i := 7) scLaw.nd rfl (Or.inl rfl))) (fun _ _ _ _ _ => pts_nil) (fun _ _ _ _ _ => (pe_tup (pa_cons (pe_ix ix_tup (pv 7) pe_int (fun _ _ => rfl)) (pa_cons (pe_ix ix_tup (pv 7) pe_int (fun _ _ => rfl)) (pa_cons (pe_dget hu (pv 3) (pv 7) (fun _ _ => rfl)) pa_nil))))))) (nomark _)) (pss_one (ps_ret pe_bl)) pss_nil)
      (pss_cons (ps_if (pt_not (pt_val (pe_gc k__law_same hG hr (by decide) rfl (pa_cons (pv 10) (pa_cons (by exact (pe_lcD (own := [("_law_key", 7)]) (g := gName 7) rfl scLaw.nd (pi_list (pv 8)) (blkOk_by (own := [("_law_key", 7)]) (N := ["_law_script", "_law_box_here", "_law_turn", "_law_messages_here", "_law_replicas", "_law_keys", "_law_k", "_law_key", "_law_due", "_law_mine", "_law_octets", "_law_row_here"]) (sc := defScope sLaw) (by decide +kernel)) (fun _ _ _ _ _ => (pg_name (i := 7) scLaw.nd rfl (Or.inl rfl))) (fun _ _ _ _ _ => pts_nil) (fun _ _ _ _ _ => (C8.pe_mt k_Replica_copy_of hr (by decide) (pe_ix ix_list (pv 4) pe_int (fun _ _ => rfl)) (pa_cons (pe_ix ix_tup (pv 7) pe_int (fun _ _ => rfl)) (pa_cons (pe_ix ix_tup (pv 7) pe_int (fun _ _ => rfl)) pa_nil)))))) pa_nil))))) (pss_one (ps_ret pe_bl)) pss_nil)
      (pss_cons (ps_if (PW.pt (pw_or (pt_not (pt_val (pe_gc k__law_same hG hr (by decide) rfl (pa_cons (C8.pe_c k_bring hr (by decide) rfl (pa_cons (pe_ix ix_list (pv 4) pe_int (fun _ _ => rfl)) (pa_cons (pe_ix ix_list (pv 4) pe_int (fun _ _ => rfl)) pa_nil))) (pa_cons (pe_callB call_len_seq (by rfl) T.n_len (by decide +kernel) (pa_cons (pv 8) pa_nil)) pa_nil))))) (pw_or1 (pt_not (pt_val (pe_gc k__law_same hG hr (by decide) rfl (pa_cons (C8.pe_c k_bring hr (by decide) rfl (pa_cons (pe_ix ix_list (pv 4) pe_int (fun _ _ => rfl)) (pa_cons (pe_ix ix_list (pv 4) pe_int (fun _ _ => rfl)) pa_nil))) (pa_cons pe_int pa_nil)))))))) (pss_one (ps_ret pe_bl)) pss_nil)
      (pss_one (ps_ret (pe_and (pe_gc k__law_has hG hr (by decide) rfl (pa_cons (pe_ix ix_list (pv 4) pe_int (fun _ _ => rfl)) (pa_cons (pv 3) (pa_cons (pe_op op_cat (pe_ix ix_list (pv 5) pe_int (fun _ _ => rfl)) (pv 8)) pa_nil)))) (pe_one (pe_gc k__law_has hG hr (by decide) rfl (pa_cons (pe_ix ix_list (pv 4) pe_int (fun _ _ => rfl)) (pa_cons (pv 3) (pa_cons (pe_ix ix_list (pv 5) pe_int (fun _ _ => rfl)) pa_nil))))))))))))))))))))), ?_⟩
    -- the box, three rows
    refine ⟨_, rfl, a, ns, rfl, ha, fun x H1 hx s1 hB1 => ?_⟩
    refine ⟨3, rfl, by decide, by decide, for_range (lo := 0) (n := (3 : Int).toNat)
      (fun i σ H' => (∃ v2, σ = [some (.ref a), some (.ref x), v2, none, none, none, none, none, none, none, none, none]) ∧ BoxAt H' x) ⟨⟨none, rfl⟩, hB1⟩ ?_ ?_⟩
    · rintro i σ H' hi ⟨⟨v2, rfl⟩, hB⟩
      exact ⟨_, rfl, x, rfl, hB, fun H2 k2 hB2 => ⟨true, rfl, iteF ⟨⟨some (.int (0 + (i : Int))), rfl⟩, hB2⟩⟩⟩
    rintro σ H2 ⟨⟨v2, rfl⟩, hB2⟩
    -- the messages
    refine ⟨_, rfl, x, rfl, hB2, fun f M H3 hf k3 hB3 hM3 hok => ?_⟩
    -- the replicas
    refine ⟨_, rfl, x, 4, rfl, hB3, by decide, fun e0 H4 he0 he1 k4 hB4 => ?_⟩
    have hM4 := hM3.bk (hB3.bk k4)
    refine fun p0 dx0 hp0 hdx0 hne0 => ?_
    refine ⟨p0, dx0, e0, rfl, upd_same, ⟨he0, by omega⟩, fun d0 m0 H5 hd0 hm0 hdm0 k5 hR0 => ⟨rfl, ?_⟩⟩
    have s45 : Same H4 H5 := same_made hp0 hdx0 hne0 k5
    have hB5 := hB4.same s45
    refine ⟨_, rfl, x, 4, rfl, hB5, by decide, fun e1 H6 he2 he3 k6 hB6 => ⟨_, _, rfl, rfl, ?_⟩⟩
    have hM6 := (hM4.same s45).bk (hB5.bk k6)
    have hR06 := hR0.bk (hB5.bk k6)
    refine fun p1 dx1 hp1 hdx1 hne1 => ?_
    refine ⟨p1, dx1, 4 + e1, rfl, upd_same, ⟨by omega, by omega⟩, fun d1 m1 H7 hd1 hm1 hdm1 k7 hR1 => ⟨rfl, (show 2 ≤ sizeLine by decide), fun rl hrl => ?_⟩⟩
    have s67 : Same H6 H7 := same_made hp1 hdx1 hne1 k7
    have hB7 := hB6.same s67
    -- who is who
    have hfH4 : H4 f ≠ none := fun z => by
      obtain ⟨kvs, e, _⟩ := hM4
      rw [e] at z
      cases z
    have hfH6 : H6 f ≠ none := fun z => by
      obtain ⟨kvs, e, _⟩ := hM6
      rw [e] at z
      cases z
    have up4 : ∀ {b : Addr}, upd (upd H4 dx0 (.own p0)) p0 (.ins (He.ga K "Replica") dx0 []) b = none → H4 b = none ∧ b ≠ p0 := fun {b} z => by
      by_cases hb : b = p0
      · rw [hb, upd_same] at z
        cases z
      · rw [upd_ne hb] at z
        exact ⟨(Same.new (o := .own p0) hdx0).free z, hb⟩
    have up6 : ∀ {b : Addr}, upd (upd H6 dx1 (.own p1)) p1 (.ins (He.ga K "Replica") dx1 []) b = none → H6 b = none ∧ b ≠ p1 := fun {b} z => by
      by_cases hb : b = p1
      · rw [hb, upd_same] at z
        cases z
      · rw [upd_ne hb] at z
        exact ⟨(Same.new (o := .own p1) hdx1).free z, hb⟩
    have nf0 : f ∉ [p0, d0, m0] := fun z => by
      rcases List.mem_cons.mp z with z | z
      · exact hfH4 (by rw [z]; exact hp0)
      rcases List.mem_cons.mp z with z | z
      · exact hfH4 (by rw [z]; exact (up4 hd0).1)
      · exact hfH4 (by rw [List.mem_singleton.mp z]; exact (up4 hm0).1)
    have nf1 : f ∉ [p1, d1, m1] := fun z => by
      rcases List.mem_cons.mp z with z | z
      · exact hfH6 (by rw [z]; exact hp1)
      rcases List.mem_cons.mp z with z | z
      · exact hfH6 (by rw [z]; exact (up6 hd1).1)
      · exact hfH6 (by rw [List.mem_singleton.mp z]; exact (up6 hm1).1)
    have hnew1 : ∀ b ∈ [p1, d1, m1], H6 b = none := fun b hb => by
      rcases List.mem_cons.mp hb with rfl | hb
      · exact hp1
      rcases List.mem_cons.mp hb with rfl | hb
      · exact (up6 hd1).1
      · rw [List.mem_singleton.mp hb]
        exact (up6 hm1).1
    have n01 : ∀ b ∈ [p0, d0, m0], b ∉ [p1, d1, m1] := fun b hb z => hR06.there b hb (hnew1 b z)
    have n10 : ∀ b ∈ [p1, d1, m1], b ∉ [p0, d0, m0] := fun b hb z => n01 b z hb
    have srl := Same.new (o := .lst [V.ref p0, V.ref p1]) hrl
    have hB8 := hB7.same srl
    have hM8 := (hM6.same s67).same srl
    have hR08 := (hR06.same s67).same srl
    have hR18 := hR1.same srl
    have hrl8 : upd H7 rl (.lst [.ref p0, .ref p1]) rl = some (.lst [.ref p0, .ref p1]) := upd_same
    -- the keys
    refine ⟨_, rfl, _, rfl, x, f, M, rfl, hB8, hM8, hok, fun k0 K0 H9 hk0 k9 hB9 hg0 hn0 hs0 => ?_⟩
    have b89 := hB8.bk k9
    refine ⟨_, rfl, _, rfl, x, f, M, rfl, hB9, hM8.bk b89, hok, fun k1 K1 Ha hk1 ka hBa hg1 hn1 hs1 => ?_⟩
    have b9a := hB9.bk ka
    refine ⟨(show 2 ≤ sizeLine by decide), fun kl hkl => ?_⟩
    have skl := Same.new (o := .lst [V.ref k0, V.ref k1]) hkl
    have S0 : LawSt P w K (upd Ha kl (.lst [.ref k0, .ref k1])) f rl kl p0 d0 m0 p1 d1 m1 k0 k1 M K0 K1 e0 (4 + e1) (lD M []) (lD M []) (mD M []) (mD M []) := by
      have nb2 : notBox (.lst [V.ref p0, V.ref p1]) := nb_refs [p0, p1]
      exact ⟨((hM8.bk b89).bk b9a).same skl, skl _ _ (b9a _ _ (b89 _ _ hrl8 nb2) nb2), upd_same, ((hR08.bk b89).bk b9a).same skl, ((hR18.bk b89).bk b9a).same skl, (hg0.bk b9a).mono (Same.ls skl), hg1.mono (Same.ls skl)⟩
    have l20 := hok.len
    have hml : (M.map (·.1)).length ≤ 20 := by rw [List.length_map]; exact l20
    have lk0 : K0.length ≤ 20 := Nat.le_trans (nodup_sub_len hn0 hs0) hml
    have lk1 : K1.length ≤ 20 := Nat.le_trans (nodup_sub_len hn1 hs1) hml
    have ok0 : ∀ k ∈ K0, OkK k := fun k hk => okK_of hok (hs0 k hk)
    have ok1 : ∀ k ∈ K1, OkK k := fun k hk => okK_of hok (hs1 k hk)
    have gm0 : ∀ k ∈ K0, ∃ cs, getM M k = some cs ∧ (∀ c ∈ cs, okC c) ∧ cs.length ≤ 3 := fun k hk => getM_of hok (hs0 k hk)
    have gm1 : ∀ k ∈ K1, ∃ cs, getM M k = some cs ∧ (∀ c ∈ cs, okC c) ∧ cs.length ≤ 3 := fun k hk => getM_of hok (hs1 k hk)
    have bd0 : ∀ k ∈ K0, (0 ≤ k.1 ∧ k.1 < 8) ∧ 0 ≤ k.2 ∧ k.2 ≤ 100 := fun k hk => ⟨(ok0 k hk).1, by have := (ok0 k hk).2; omega⟩
    have bd1 : ∀ k ∈ K1, (0 ≤ k.1 ∧ k.1 < 8) ∧ 0 ≤ k.2 ∧ k.2 ≤ 100 := fun k hk => ⟨(ok1 k hk).1, by have := (ok1 k hk).2; omega⟩
    generalize upd Ha kl (.lst [.ref k0, .ref k1]) = Hb at *
    -- the messages are taken in
    refine ⟨2, rfl, by decide, by decide, for_range (lo := 0) (n := (2 : Int).toNat)
      (fun i σ H' => (∃ v6 v7, σ = [some (.ref a), some (.ref x), v2, some (.ref f), some (.ref rl), some (.ref kl), v6, v7, none, none, none, none]) ∧ LawSt P w K H' f rl kl p0 d0 m0 p1 d1 m1 k0 k1 M K0 K1 e0 (4 + e1) (lD M (if 0 < i then K0 else [])) (lD M (if 1 < i then K1 else [])) (mD M (if 0 < i then K0 else [])) (mD M (if 1 < i then K1 else [])))
      ⟨⟨none, none, rfl⟩, S0⟩ ?_ ?_⟩
    · rintro i σ Hc hi ⟨⟨v6, v7, rfl⟩, S⟩
      have hi : i < 2 := hi
      rcases (by omega : i = 0 ∨ i = 1) with rfl | rfl
      · obtain ⟨bs, hkc, hbs⟩ := S.g0
        refine ⟨_, rfl, _, rfl, kl, _, _, _, rfl, rfl, SqL.of S.kl, atI_nat (j := 0) rfl, k0, rfl, ⟨_, SqL.of hkc⟩, for_list (K := K) (a := k0) (xs := bs.map V.ref)
          (fun j σ H' => (∃ v7, σ = [some (.ref a), some (.ref x), v2, some (.ref f), some (.ref rl), some (.ref kl), some (.int (0 + ((0 : Nat) : Int))), v7, none, none, none, none]) ∧ LawSt P w K H' f rl kl p0 d0 m0 p1 d1 m1 k0 k1 M K0 K1 e0 (4 + e1) (lD M (K0.take j)) (lD M []) (mD M (K0.take j)) (mD M []) ∧ H' k0 = some (.lst (bs.map V.ref)) ∧ PairsAt H' bs K0)
          ⟨⟨v7, rfl⟩, S, hkc, hbs⟩ (fun j σ H' _ h => SqL.of h.2.2.1) ?_ ?_⟩
        · rintro j y σ H' hj ⟨⟨v7, rfl⟩, S1, hk1, hbs1⟩
          rw [List.getElem?_map] at hj
          cases e : bs[j]? with
          | none =>
            rw [e] at hj
            cases hj
          | some z =>
            rw [e] at hj
            obtain rfl : V.ref z = y := Option.some.inj hj
            obtain ⟨kk, e1', e2⟩ := paired_get' hbs1 j z e
            have e2 : H' z = some (.tup [.int kk.1, .int kk.2]) := e2
            have hkK := List.mem_of_getElem? e1'
            obtain ⟨cs, hg, okc, hcl⟩ := gm0 kk hkK
            have hec : chg M kk = cs := by rw [chg, hg]; rfl
            obtain ⟨kvs, hfm, hkv⟩ := S1.ms
            obtain ⟨⟨dx, ck, md, st, ro, pe, hp, hst⟩, _, _⟩ := S1.r0
            rcases mv_get (k := kk) hkv with ⟨_, e4⟩ | ⟨la, as, cs', e3, e4, hla, has⟩
            · rw [hg] at e4
              cases e4
            rw [hg] at e4
            cases e4
            refine ⟨_, rfl, _, rfl, rl, _, _, _, rfl, rfl, SqL.of S1.rl, atI_nat (j := 0) rfl, p0, dx, _, rfl, hp, rfl, _, rfl, z, _, _, _, rfl, rfl, sqT_of e2, atI_nat (j := 0) rfl, _, rfl, z, _, _, _, rfl, rfl, sqT_of e2, atI_nat (j := 1) rfl, ?_⟩
            refine ⟨_, rfl, _, rfl, f, .ref la, rfl, ?_, la, _, rfl, .inl (SqL.of hla), fun lc hlc => ?_⟩
            · rw [← e3]
              exact DGet.t (k := mk kk) hfm e2
            have slc := Same.new (o := .lst (as.map V.ref)) hlc
            have S2 := S1.same slc
            have htl := List.length_take_le' j K0
            have hll : (lD M (K0.take j)).length ≤ 3 * (K0.take j).length := Nat.le_trans (lD_len M _) (chg_sum (M := M) fun q hq => gm0 q (List.mem_of_mem_take hq)).1
            refine ⟨p0, d0, m0, lc, e0, kk.1, kk.2, _, _, as, cs, rfl, S2.r0, hdm0, ?_, upd_same, has.mono (Same.tups slc), by rw [mD_len]; omega, by omega, fun H5' k5' hR5 => ?_⟩
            · rw [getM_mD, if_neg]
              intro hm
              obtain ⟨i2, hi2, e5⟩ := List.getElem_of_mem hm
              rw [List.length_take] at hi2
              have e6 : K0[i2]? = some kk := by
                rw [List.getElem_take] at e5
                rw [show some kk = some (kk.1, kk.2) from rfl, ← e5]
                exact List.getElem?_eq_getElem (by omega)
              have := nodup_ix hn0 e6 e1'
              omega
            refine ⟨_, _, rfl, rfl, false, rfl, iteF ?_⟩
            have x5 := k5'.fix S2.r0.prts
            have el : cs.foldl stepC (lD M (K0.take j)) = lD M (K0.take (j + 1)) := by
              rw [take_next e1', ← lD_app, List.flatMap_singleton, hec]
            have em : mD M (K0.take j) ++ [((kk.1, kk.2), cs)] = mD M (K0.take (j + 1)) := by
              rw [take_next e1', ← mD_app, ← hec]
              rfl
            rw [el, em] at hR5
            exact ⟨⟨some (.ref z), rfl⟩, S2.kp0 nf0 n10 k5' hR5, x5 _ _ (slc _ _ hk1) rfl, (hbs1.mono (Same.tups slc)).mono x5.tups⟩
        · rintro σ H' ⟨⟨v7, rfl⟩, S1, hk1, hbs1⟩
          rw [List.length_map, hbs.length, List.take_length] at S1
          refine ⟨_, rfl, _, rfl, rl, _, _, _, rfl, rfl, SqL.of S1.rl, atI_nat (j := 0) rfl, _, rfl, _, rfl, _, rfl, kl, _, _, _, rfl, rfl, SqL.of S1.kl, atI_nat (j := 0) rfl, ?_⟩
          refine ⟨p0, d0, m0, f, k0, e0, _, _, M, K0, rfl, S1.r0, S1.ms, S1.g0, mD_keys M K0, rfl, bd0, gm0, by omega, fun H6' s6' => ⟨true, rfl, iteF ?_⟩⟩
          exact ⟨⟨some (.int (0 + ((0 : Nat) : Int))), v7, rfl⟩,  (S1.same s6')⟩
      · obtain ⟨bs, hkc, hbs⟩ := S.g1
        refine ⟨_, rfl, _, rfl, kl, _, _, _, rfl, rfl, SqL.of S.kl, atI_nat (j := 1) rfl, k1, rfl, ⟨_, SqL.of hkc⟩, for_list (K := K) (a := k1) (xs := bs.map V.ref)
          (fun j σ H' => (∃ v7, σ = [some (.ref a), some (.ref x), v2, some (.ref f), some (.ref rl), some (.ref kl), some (.int (0 + ((1 : Nat) : Int))), v7, none, none, none, none]) ∧ LawSt P w K H' f rl kl p0 d0 m0 p1 d1 m1 k0 k1 M K0 K1 e0 (4 + e1) (lD M K0) (lD M (K1.take j)) (mD M K0) (mD M (K1.take j)) ∧ H' k1 = some (.lst (bs.map V.ref)) ∧ PairsAt H' bs K1)
          ⟨⟨v7, rfl⟩, S, hkc, hbs⟩ (fun j σ H' _ h => SqL.of h.2.2.1) ?_ ?_⟩
        · rintro j y σ H' hj ⟨⟨v7, rfl⟩, S1, hk1, hbs1⟩
          rw [List.getElem?_map] at hj
          cases e : bs[j]? with
          | none =>
            rw [e] at hj
            cases hj
          | some z =>
            rw [e] at hj
            obtain rfl : V.ref z = y := Option.some.inj hj
            obtain ⟨kk, e1', e2⟩ := paired_get' hbs1 j z e
            have e2 : H' z = some (.tup [.int kk.1, .int kk.2]) := e2
            have hkK := List.mem_of_getElem? e1'
            obtain ⟨cs, hg, okc, hcl⟩ := gm1 kk hkK
            have hec : chg M kk = cs := by rw [chg, hg]; rfl
            obtain ⟨kvs, hfm, hkv⟩ := S1.ms
            obtain ⟨⟨dx, ck, md, st, ro, pe, hp, hst⟩, _, _⟩ := S1.r1
            rcases mv_get (k := kk) hkv with ⟨_, e4⟩ | ⟨la, as, cs', e3, e4, hla, has⟩
            · rw [hg] at e4
              cases e4
            rw [hg] at e4
            cases e4
            refine ⟨_, rfl, _, rfl, rl, _, _, _, rfl, rfl, SqL.of S1.rl, atI_nat (j := 1) rfl, p1, dx, _, rfl, hp, rfl, _, rfl, z, _, _, _, rfl, rfl, sqT_of e2, atI_nat (j := 0) rfl, _, rfl, z, _, _, _, rfl, rfl, sqT_of e2, atI_nat (j := 1) rfl, ?_⟩
            refine ⟨_, rfl, _, rfl, f, .ref la, rfl, ?_, la, _, rfl, .inl (SqL.of hla), fun lc hlc => ?_⟩
            · rw [← e3]
              exact DGet.t (k := mk kk) hfm e2
            have slc := Same.new (o := .lst (as.map V.ref)) hlc
            have S2 := S1.same slc
            have htl := List.length_take_le' j K1
            have hll : (lD M (K1.take j)).length ≤ 3 * (K1.take j).length := Nat.le_trans (lD_len M _) (chg_sum (M := M) fun q hq => gm1 q (List.mem_of_mem_take hq)).1
            refine ⟨p1, d1, m1, lc, (4 + e1), kk.1, kk.2, _, _, as, cs, rfl, S2.r1, hdm1, ?_, upd_same, has.mono (Same.tups slc), by rw [mD_len]; omega, by omega, fun H5' k5' hR5 => ?_⟩
            · rw [getM_mD, if_neg]
              intro hm
              obtain ⟨i2, hi2, e5⟩ := List.getElem_of_mem hm
              rw [List.length_take] at hi2
              have e6 : K1[i2]? = some kk := by
                rw [List.getElem_take] at e5
                rw [show some kk = some (kk.1, kk.2) from rfl, ← e5]
                exact List.getElem?_eq_getElem (by omega)
              have := nodup_ix hn1 e6 e1'
              omega
            refine ⟨_, _, rfl, rfl, false, rfl, iteF ?_⟩
            have x5 := k5'.fix S2.r1.prts
            have el : cs.foldl stepC (lD M (K1.take j)) = lD M (K1.take (j + 1)) := by
              rw [take_next e1', ← lD_app, List.flatMap_singleton, hec]
            have em : mD M (K1.take j) ++ [((kk.1, kk.2), cs)] = mD M (K1.take (j + 1)) := by
              rw [take_next e1', ← mD_app, ← hec]
              rfl
            rw [el, em] at hR5
            exact ⟨⟨some (.ref z), rfl⟩, S2.kp1 nf1 n01 k5' hR5, x5 _ _ (slc _ _ hk1) rfl, (hbs1.mono (Same.tups slc)).mono x5.tups⟩
        · rintro σ H' ⟨⟨v7, rfl⟩, S1, hk1, hbs1⟩
          rw [List.length_map, hbs.length, List.take_length] at S1
          refine ⟨_, rfl, _, rfl, rl, _, _, _, rfl, rfl, SqL.of S1.rl, atI_nat (j := 1) rfl, _, rfl, _, rfl, _, rfl, kl, _, _, _, rfl, rfl, SqL.of S1.kl, atI_nat (j := 1) rfl, ?_⟩
          refine ⟨p1, d1, m1, f, k1, (4 + e1), _, _, M, K1, rfl, S1.r1, S1.ms, S1.g1, mD_keys M K1, rfl, bd1, gm1, by omega, fun H6' s6' => ⟨true, rfl, iteF ?_⟩⟩
          exact ⟨⟨some (.int (0 + ((1 : Nat) : Int))), v7, rfl⟩,  (S1.same s6')⟩
    rintro σ Hd ⟨⟨v6, v7, rfl⟩, S⟩
    have S : LawSt P w K Hd f rl kl p0 d0 m0 p1 d1 m1 k0 k1 M K0 K1 e0 (4 + e1) (lD M K0) (lD M K1) (mD M K0) (mD M K1) := S
    -- what is due
    obtain ⟨kvs, hfm, hkv⟩ := S.ms
    have hbnd : ∀ k ∈ M.map (·.1), (0 ≤ k.1 ∧ k.1 < 64) ∧ 0 ≤ k.2 ∧ k.2 < 64 := fun k hk => by
      obtain ⟨⟨h0, h1⟩, h2, h3⟩ := okK_of hok hk
      omega
    refine ⟨_, rfl, f, kvs, M.map (·.1), rfl, .inl hfm, mkeys hkv, by omega, hbnd, fun bs js p hps hperm hsort hp => ?_⟩
    have hjn : js.Nodup := hperm.symm.nodup hok.nd
    have hjm : ∀ k ∈ js, k ∈ M.map (·.1) := fun k hk => hperm.subset hk
    have hjk : ∀ k ∈ js, OkK k := fun k hk => okK_of hok (hjm k hk)
    have hjl : js.length ≤ 20 := by rw [hperm.length_eq]; exact hml
    have sp := Same.new (o := .lst (bs.map V.ref)) hp
    have hBd : ∀ k : PK, OkK k → Bd k.1 ∧ Bd k.2 := fun k h => ⟨bd_small (by have := h.1; omega) (by have := h.1; omega), bd_small (by have := h.2; omega) (by have := h.2; omega)⟩
    have shK0 : SeqAt.shaped (.list (K0.map prD)) = true := (sm_rgs (fun k hk => hBd k (ok0 k hk)) lk0).shaped (by decide)
    have shK1 : SeqAt.shaped (.list (K1.map prD)) = true := (sm_rgs (fun k hk => hBd k (ok1 k hk)) lk1).shaped (by decide)
    refine ⟨p, rfl, ⟨_, SqL.of upd_same⟩, fun D hD => lc_it (walk_list (K := K) (a := p) (xs := bs.map V.ref))
      (fun j H' => (∃ cs : List Addr, H' D = some (.lst (cs.map V.ref)) ∧ PairsAt H' cs (dueK (js.take j) K0 K1)) ∧ Same (upd Hd p (.lst (bs.map V.ref))) H')
      ⟨⟨[], upd_same, .nil⟩, Same.new hD⟩ (fun i H' _ h => SqL.of (h.2 _ _ upd_same)) ?_ ?_⟩
    · rintro j y H2' H3' hj ⟨⟨cs, h1, h2⟩, s3⟩ ⟨rfl, hy⟩
      rw [List.getElem?_map] at hy
      cases e : bs[j]? with
      | none =>
        rw [e] at hy
        cases hy
      | some z =>
        rw [e] at hy
        obtain rfl : V.ref z = y := Option.some.inj hy
        obtain ⟨kk, e1', e2⟩ := paired_get' hps j z e
        have e2 : Hd z = some (.tup [.int kk.1, .int kk.2]) := e2
        have ez := s3 _ _ (sp _ _ e2)
        have SH := (S.same sp).same s3
        have hkk := hjk kk (List.mem_of_getElem? e1')
        have shk : SeqAt.shaped (prD kk) = true := (sm_pr (hBd kk hkk).1 (hBd kk hkk).2).shaped (by decide)
        have htl := List.length_take_le' j js
        have hdl : (dueK (js.take j) K0 K1).length ≤ (js.take j).length := List.length_filter_le ..
        refine ⟨rfl, ?_⟩
        refine ⟨_, rfl, _, rfl, kl, _, _, _, rfl, rfl, SqL.of SH.kl, atI_nat (j := 1) rfl, prD kk, K1.map prD, pr_dp ez, rgs_dp SH.g1, shk, shK1, _, rfl, iteB _ (fun c1 =>
          ⟨_, rfl, _, rfl, kl, _, _, _, rfl, rfl, SqL.of SH.kl, atI_nat (j := 0) rfl, prD kk, K0.map prD, pr_dp ez, rgs_dp SH.g0, shk, shK0, _, rfl, iteB _ (fun c2 => ?_) fun c2 => ?_⟩) fun c1 => iteF ?_⟩
        · rw [any_pr] at c1 c2
          refine ⟨_, rfl, _, h1, ?_, ⟨⟨cs ++ [z], by rw [upd_same, List.map_append]; rfl, ?_⟩, Same.upd s3 hD⟩⟩
          · rw [List.length_map, h2.length]
            exact Nat.lt_of_le_of_lt (show _ ≤ 20 by omega) (by decide)
          · rw [dueK_take e1', c1, c2, Bool.and_self, if_pos rfl]
            have tr : Tups H3' (upd H3' D (.lst (cs.map V.ref ++ [.ref z]))) := (Kp.put (S := [D]) (.head _)).tups fun x hx o e => by
              rw [List.mem_singleton.mp hx, h1] at e
              cases e
              rfl
            exact paired_snoc (PairsAt.mono tr h2) (tr _ _ ez)
        · rw [any_pr] at c1 c2
          refine ⟨⟨cs, h1, ?_⟩, s3⟩
          rw [dueK_take e1', c1, c2, if_neg (fun e => nomatch e), List.append_nil]
          exact h2
        · rw [any_pr] at c1
          refine ⟨⟨cs, h1, ?_⟩, s3⟩
          rw [dueK_take e1', c1, Bool.false_and, if_neg (fun e => nomatch e), List.append_nil]
          exact h2
    rintro H2' ⟨⟨dcs, hDl, hDp⟩, s3⟩
    rw [List.length_map, hps.length, List.take_length] at hDp
    have SE := (S.same sp).same s3
    have hDU : ∀ k ∈ dueK js K0 K1, k ∈ K1 ∧ k ∉ K0 := fun k hk => ((mem_dueK js K0 K1 k).mp hk).2
    have hDUnd : (dueK js K0 K1).Nodup := hjn.sublist (List.filter_sublist ..)
    have hlack : lackD (toldK K0) (toldK K1) = dueK js K0 K1 := lack_due hjn hjk hsort fun k hk => hperm.symm.subset (hs1 k hk)
    have hlack0 : lackD (toldK K0) (toldK K0) = [] := lack_none fun k hk => hk
    have hlack2 : lackD (toldK (K0 ++ dueK js K0 K1)) (toldK K1) = [] := lack_none fun k hk => by
      by_cases h : k ∈ K0
      · exact List.mem_append_left _ h
      · exact List.mem_append_right _ ((mem_dueK js K0 K1 k).mpr ⟨hperm.symm.subset (hs1 k hk), hk, h⟩)
    have hDUl : (dueK js K0 K1).length ≤ 20 := Nat.le_trans (List.length_filter_le ..) hjl
    have hdue : RgsAt H2' D (dueK js K0 K1) := ⟨dcs, hDl, hDp⟩
    generalize dueK js K0 K1 = DU at *
    have okU : ∀ k ∈ DU, OkK k := fun k hk => ok1 k (hDU k hk).1
    have gmU : ∀ k ∈ DU, getM (mD M K1) k = some (chg M k) ∧ (∀ c ∈ chg M k, okC c) ∧ (chg M k).length ≤ 3 := fun k hk => by
      obtain ⟨cs, e1, e2, e3⟩ := gm1 k (hDU k hk).1
      have ec : chg M k = cs := by rw [chg, e1]; rfl
      rw [getM_mD, if_pos (hDU k hk).1, ec]
      exact ⟨rfl, e2, e3⟩
    have mdb : ∀ {ks : List PK}, (∀ k ∈ ks, (0 ≤ k.1 ∧ k.1 < 8) ∧ 0 ≤ k.2 ∧ k.2 ≤ 100) → ∀ e ∈ mD M ks, (0 ≤ e.1.1 ∧ e.1.1 < 8) ∧ 0 ≤ e.1.2 ∧ e.1.2 ≤ 100 := fun {ks} h e he => by
      obtain ⟨k, hk, rfl⟩ := List.mem_map.mp he
      exact h k hk
    have okR0 : ∀ rs ∈ toldK K0, OkR rs := by
      have := okR_told (mdb bd0) (by rw [mD_len]; omega)
      rwa [toldD_keys, mD_keys] at this
    have okR1 : ∀ rs ∈ toldK K1, OkR rs := by
      have := okR_told (mdb bd1) (by rw [mD_len]; omega)
      rwa [toldD_keys, mD_keys] at this
    have t8 : ∀ ks : List PK, (toldK ks).length = 8 := fun ks => by simp [toldK]
    -- what the first one tells
    refine ⟨_, rfl, rl, _, _, _, rfl, rfl, SqL.of SE.rl, atI_nat (j := 0) rfl, p0, d0, m0, e0, _, mD M K0, rfl, SE.r0, fun e he => (mdb bd0 e he).1, by rw [mD_len]; omega, fun mi Hf hmi sf hTmi => ?_⟩
    rw [toldD_keys, mD_keys] at hTmi
    have SF := SE.same sf
    -- what lacks
    refine ⟨_, rfl, _, rfl, rl, _, _, _, rfl, rfl, SqL.of SF.rl, atI_nat (j := 1) rfl, p1, d1, m1, 4 + e1, _, mD M K1, rfl, SF.r1, fun e he => (mdb bd1 e he).1, by rw [mD_len]; omega, fun t1 Hg ht1 sg hT1 => ?_⟩
    rw [toldD_keys, mD_keys] at hT1
    refine ⟨mi, t1, toldK K0, toldK K1, rfl, hTmi.mono (Same.ls sg), hT1, t8 _, t8 _, okR1, fun lk Hh hlk sh hlkA => ?_⟩
    rw [hlack] at hlkA
    have sfh := (sf.trans sg).trans sh
    have fitU : Fit (rgsD DU) := (sm_rgs (fun k hk => hBd k (okU k hk)) hDUl).fit (by decide) (by decide)
    refine ⟨_, rfl, .ref lk, .ref D, rgsD DU, rfl, .inl rfl, .inl rfl, rgs_dp hlkA, rgs_dp (hdue.mono (Same.ls sfh)), fitU, true, rfl, iteF ?_⟩
    have hTmi2 := hTmi.mono (Same.ls (sg.trans sh))
    refine ⟨_, rfl, _, rfl, mi, mi, toldK K0, toldK K0, rfl, hTmi2, hTmi2, t8 _, t8 _, okR0, fun l2 Hi hl2 si hg2 => ⟨(show 0 ≤ sizeLine by decide), fun ee hee => ?_⟩⟩
    rw [hlack0] at hg2
    have see := Same.new (o := .lst []) hee
    have she : Sm 2 (83 * 0) (rgsD []) := sm_rgs (fun _ (z : _ ∈ ([] : List PK)) => nomatch z) (Nat.le_refl _)
    refine ⟨rgsD [], rgsD [], rgs_dp (hg2.mono (Same.ls see)), .lst (SqL.of upd_same) .nil, she.shaped (by decide), she.shaped (by decide), false, by rw [eqv_self she]; rfl, iteF ?_⟩
    have sfi := (sfh.trans si).trans see
    have SI := SE.same sfi
    have hdueI := hdue.mono (Same.ls sfi)
    have hDlI := sfi _ _ hDl
    have hDpI := hDp.mono (Same.tups sfi)
    have hTmi3 := hTmi2.mono (Same.ls (si.trans see))
    generalize upd Hi ee (.lst []) = Hi2 at *
    -- the answer
    have hcsU : ∀ k ∈ lackD (toldK K0) (toldD (mD M K1)), ∃ cs, getM (mD M K1) k = some cs ∧ (∀ c ∈ cs, okC c) ∧ cs.length ≤ 1000 := fun k hk => by
      rw [toldD_keys, mD_keys, hlack] at hk
      obtain ⟨g1, g2, g3⟩ := gmU k hk
      exact ⟨_, g1, g2, by omega⟩
    refine ⟨_, rfl, rl, _, _, _, rfl, rfl, SqL.of SI.rl, atI_nat (j := 1) rfl, _, rfl, p1, d1, m1, mi, 4 + e1, _, mD M K1, toldK K0, rfl, SI.r1, mdb bd1, by rw [mD_len]; omega, hTmi3, t8 _, hcsU, fun oc Hj hoc sj hO => ?_⟩
    rw [toldD_keys, mD_keys, hlack] at hO
    have SJ := SI.same sj
    obtain ⟨os, hocl, hos⟩ := hO
    have hmsg : ∀ k ∈ DU, (getM (mD M K1) k).getD [] = chg M k := fun k hk => by rw [(gmU k hk).1]; rfl
    have hduO : dueO (mD M K1) DU = DU.map fun k => msgO k.1 k.2 (chg M k) := List.map_congr_left fun k hk => by rw [hmsg k hk]
    rw [hduO] at hos
    have hol : os.length = DU.length := by rw [hos.length, List.length_map]
    have dmem : ∀ k ∈ DU, k ∈ M.map (·.1) := fun k hk => hs1 k (hDU k hk).1
    -- read again
    refine ⟨_, rfl, oc, rfl, ⟨_, SqL.of hocl⟩, fun D1 hD1 => lc_it (walk_list (K := K) (a := oc) (xs := os.map V.ref))
      (fun j H' => (∃ ts : List Addr, H' D1 = some (.lst (ts.map V.ref)) ∧ Paired (MgAt M H' D1) ts (DU.take j)) ∧ Same Hj H')
      ⟨⟨[], upd_same, .nil⟩, Same.new hD1⟩ (fun i H' _ h => SqL.of (h.2 _ _ hocl)) ?_ ?_⟩
    · rintro j y Hk1 Hk2 hj ⟨⟨ts, h1, h2⟩, s4⟩ ⟨rfl, hy⟩
      rw [List.getElem?_map] at hy
      cases e : os[j]? with
      | none =>
        rw [e] at hy
        cases hy
      | some z =>
        rw [e] at hy
        obtain rfl : V.ref z = y := Option.some.inj hy
        obtain ⟨xs, e1', e2⟩ := paired_get' hos j z e
        rw [List.getElem?_map] at e1'
        cases e3 : DU[j]? with
        | none =>
          rw [e3] at e1'
          cases e1'
        | some kk =>
          rw [e3] at e1'
          obtain rfl : msgO kk.1 kk.2 (chg M kk) = xs := Option.some.inj e1'
          have hkU := List.mem_of_getElem? e3
          obtain ⟨g1, g2, g3⟩ := gmU kk hkU
          obtain ⟨⟨q0, q1⟩, q2, q3⟩ := okU kk hkU
          have htl := List.length_take_le' j DU
          refine ⟨rfl, ?_⟩
          refine ⟨_, rfl, z, kk.1, kk.2, chg M kk, rfl, s4 _ _ e2, ⟨q0, q1⟩, ⟨by omega, by omega⟩, g2, by omega, fun b l as Hk3 s5 hb hl u1 u2 u3 => ?_⟩
          have u4 := s5 _ _ h1
          have hlD : l ≠ D1 := (ne_of_none h1 hl).symm
          refine ⟨_, u4, ?_, ⟨ts ++ [b], by rw [upd_same, List.map_append]; rfl, ?_⟩, Same.upd (s4.trans s5) hD1⟩
          · rw [List.length_map, h2.length]
            exact Nat.lt_of_le_of_lt (show _ ≤ 20 by omega) (by decide)
          · rw [take_next e3]
            exact paired_snoc (Paired.mapP h2 fun _ _ z => (z.same s5).put u4) (MgAt.put ⟨l, as, u1, u2, u3, hlD⟩ u4)
    rintro Hk ⟨⟨ts, hts, htp⟩, sk⟩
    rw [List.length_map, hol, List.take_length] at htp
    have SK := SJ.same sk
    have sik := sj.trans sk
    have hDlK := sik _ _ hDlI
    have hDpK := hDpI.mono (Same.tups sik)
    obtain ⟨kvs2, hfK, hkvK⟩ := SK.ms
    refine ⟨_, rfl, D, rfl, ⟨_, SqL.of hDlK⟩, fun D2 hD2 => lc_it (walk_list (K := K) (a := D) (xs := dcs.map V.ref))
      (fun j H' => (∃ ts : List Addr, H' D2 = some (.lst (ts.map V.ref)) ∧ Paired (MgAt M H' D2) ts (DU.take j)) ∧ Same Hk H')
      ⟨⟨[], upd_same, .nil⟩, Same.new hD2⟩ (fun i H' _ h => SqL.of (h.2 _ _ hDlK)) ?_ ?_⟩
    · rintro j y Hk1 Hk2 hj ⟨⟨ts2, h1, h2⟩, s4⟩ ⟨rfl, hy⟩
      rw [List.getElem?_map] at hy
      cases e : dcs[j]? with
      | none =>
        rw [e] at hy
        cases hy
      | some z =>
        rw [e] at hy
        obtain rfl : V.ref z = y := Option.some.inj hy
        obtain ⟨kk, e3, e2⟩ := paired_get' hDpK j z e
        have e2 : Hk z = some (.tup [.int kk.1, .int kk.2]) := e2
        have ez := s4 _ _ e2
        have hkU := List.mem_of_getElem? e3
        have htl := List.length_take_le' j DU
        obtain ⟨cs, hg, okc, hcl⟩ := gm1 kk (hDU kk hkU).1
        have hec : chg M kk = cs := by rw [chg, hg]; rfl
        rcases mv_get (k := kk) hkvK with ⟨_, e4⟩ | ⟨la, as, cs', e5, e4, hla, has⟩
        · rw [hg] at e4
          cases e4
        rw [hg] at e4
        cases e4
        refine ⟨rfl, ?_⟩
        refine ⟨_, rfl, z, _, _, _, rfl, rfl, sqT_of ez, atI_nat (j := 0) rfl, _, rfl, z, _, _, _, rfl, rfl, sqT_of ez, atI_nat (j := 1) rfl, _, rfl, _, rfl, f, .ref la, rfl, ?_, (show 3 ≤ sizeLine by decide), fun b hb => ?_⟩
        · rw [← e5]
          exact DGet.t (k := mk kk) (s4 _ _ hfK) ez
        have sb := Same.new (o := .tup [V.int kk.1, V.int kk.2, V.ref la]) hb
        have u4 := sb _ _ h1
        have hlD : la ≠ D2 := ne_of_none hla hD2
        refine ⟨_, u4, ?_, ⟨ts2 ++ [b], by rw [upd_same, List.map_append]; rfl, ?_⟩, Same.upd (s4.trans sb) hD2⟩
        · rw [List.length_map, h2.length]
          exact Nat.lt_of_le_of_lt (show _ ≤ 20 by omega) (by decide)
        · rw [take_next e3]
          refine paired_snoc (Paired.mapP h2 fun _ _ z => (z.same sb).put u4) (MgAt.put ⟨la, as, upd_same, (s4.trans sb) _ _ hla, ?_, hlD⟩ u4)
          rw [hec]
          exact has.mono (Same.tups (s4.trans sb))
    rintro Hl ⟨⟨ts2, hts2, htp2⟩, sl⟩
    rw [List.length_map, hDpK.length, List.take_length] at htp2
    have smM := sm_mgs hok dmem
    have dp1 : Dp K Hl (.ref D1) (.list (DU.map (mgD M))) := .lst (SqL.of (sl _ _ hts)) (dpAll_of (fun _ _ z => mg_dp (z.same sl)) htp)
    have dp2 : Dp K Hl (.ref D2) (.list (DU.map (mgD M))) := .lst (SqL.of hts2) (dpAll_of (fun _ _ z => mg_dp z) htp2)
    refine ⟨_, _, dp1, dp2, smM.shaped (by decide), smM.shaped (by decide), false, by rw [eqv_self smM]; rfl, iteF ?_⟩
    -- the copies
    have SL := SK.same sl
    have hDlL := sl _ _ hDlK
    have hDpL := hDpK.mono (Same.tups sl)
    have sjl := sk.trans sl
    refine ⟨_, rfl, _, rfl, D, rfl, ⟨_, SqL.of hDlL⟩, fun D3 hD3 => lc_it (walk_list (K := K) (a := D) (xs := dcs.map V.ref))
      (fun j H' => (∃ os2 : List Addr, H' D3 = some (.lst (os2.map V.ref)) ∧ Paired (fun o (k : PK) => H' o = some (.lst ((msgO k.1 k.2 (chg M k)).map V.int)) ∧ o ≠ D3) os2 (DU.take j)) ∧ Same Hl H')
      ⟨⟨[], upd_same, .nil⟩, Same.new hD3⟩ (fun i H' _ h => SqL.of (h.2 _ _ hDlL)) ?_ ?_⟩
    · rintro j y Hk1 Hk2 hj ⟨⟨os2, h1, h2⟩, s4⟩ ⟨rfl, hy⟩
      rw [List.getElem?_map] at hy
      cases e : dcs[j]? with
      | none =>
        rw [e] at hy
        cases hy
      | some z =>
        rw [e] at hy
        obtain rfl : V.ref z = y := Option.some.inj hy
        obtain ⟨kk, e3, e2⟩ := paired_get' hDpL j z e
        have e2 : Hl z = some (.tup [.int kk.1, .int kk.2]) := e2
        have ez := s4 _ _ e2
        have hkU := List.mem_of_getElem? e3
        have htl := List.length_take_le' j DU
        obtain ⟨g1, g2, g3⟩ := gmU kk hkU
        have SM := SL.same s4
        have hr1 := SM.r1
        obtain ⟨⟨dx, ck, md, st, ro, pe, hp', hst⟩, _, _⟩ := hr1
        refine ⟨rfl, ?_⟩
        refine ⟨_, rfl, rl, _, _, _, rfl, rfl, SqL.of SM.rl, atI_nat (j := 1) rfl, p1, dx, _, rfl, hp', rfl, _, rfl, z, _, _, _, rfl, rfl, sqT_of ez, atI_nat (j := 0) rfl, _, rfl, z, _, _, _, rfl, rfl, sqT_of ez, atI_nat (j := 1) rfl, ?_⟩
        refine ⟨p1, d1, m1, 4 + e1, kk.1, kk.2, _, mD M K1, chg M kk, rfl, SM.r1, g1, g2, by omega, fun o Hk3 ho s5 h5 => ?_⟩
        have u4 := s5 _ _ h1
        have hoD : o ≠ D3 := (ne_of_none h1 ho).symm
        refine ⟨_, u4, ?_, ⟨os2 ++ [o], by rw [upd_same, List.map_append]; rfl, ?_⟩, Same.upd (s4.trans s5) hD3⟩
        · rw [List.length_map, h2.length]
          exact Nat.lt_of_le_of_lt (show _ ≤ 20 by omega) (by decide)
        · rw [take_next e3]
          exact paired_snoc (Paired.mapP h2 fun _ _ z => ⟨by rw [upd_ne z.2]; exact s5 _ _ z.1, z.2⟩) ⟨by rw [upd_ne hoD]; exact h5, hoD⟩
    rintro Hm ⟨⟨os2, hos2, hop2⟩, sm⟩
    rw [List.length_map, hDpL.length, List.take_length] at hop2
    have sjm := sjl.trans sm
    have fitO : Fit (ocsD (DU.map fun k => msgO k.1 k.2 (chg M k))) := (sm_ocs (fun xs hxs => by
      obtain ⟨k, hk, rfl⟩ := List.mem_map.mp hxs
      obtain ⟨g1, g2, g3⟩ := gmU k hk
      exact ⟨bd_msg (okU k hk).1 g2, len_msg g2 g3⟩) (by rw [List.length_map]; omega)).fit (by decide) (by decide)
    have dpo1 : Dp K Hm (.ref oc) (ocsD (DU.map fun k => msgO k.1 k.2 (chg M k))) := .lst (SqL.of (sjm _ _ hocl)) (dpAll_of (fun _ _ z => ints_dp (sjm _ _ z)) hos)
    have dpo2 : Dp K Hm (.ref D3) (ocsD (DU.map fun k => msgO k.1 k.2 (chg M k))) := by
      refine .lst (SqL.of hos2) ?_
      rw [List.map_map]
      exact dpAll_of (fun _ _ z => ints_dp z.1) hop2
    refine ⟨.ref oc, .ref D3, _, rfl, .inl rfl, .inl rfl, dpo1, dpo2, fitO, true, rfl, iteF ?_⟩
    -- bring
    have SN := SL.same sm
    have hDlN := sm _ _ hDlL
    have hDpN := hDpL.mono (Same.tups sm)
    have hLe : lackD (toldD (mD M K0)) (toldD (mD M K1)) = DU := by rw [toldD_keys, toldD_keys, mD_keys, mD_keys, hlack]
    have hUK : ∀ k ∈ DU, k ∈ K1 := fun k hk => (hDU k hk).1
    have gmD : ∀ k ∈ DU, ∃ cs, getM M k = some cs ∧ (∀ c ∈ cs, okC c) ∧ cs.length ≤ 3 := fun k hk => gm1 k (hUK k hk)
    have hsumU := (chg_sum gmD).1
    have hsum0 := (chg_sum gm0).1
    have hl0 := lD_len M K0
    refine ⟨_, rfl, rl, _, _, _, rfl, rfl, SqL.of SN.rl, atI_nat (j := 0) rfl, _, rfl, rl, _, _, _, rfl, rfl, SqL.of SN.rl, atI_nat (j := 1) rfl, ?_⟩
    refine ⟨p0, d0, m0, p1, d1, m1, e0, 4 + e1, _, _, mD M K0, mD M K1, rfl, SN.r0, SN.r1, hdm0, n10, mdb bd0, by rw [mD_len]; omega, mdb bd1, by rw [mD_len]; omega, ?_, ?_, ?_, ?_, ?_, fun Ho ko hRo => ?_⟩
    · rw [hLe]
      exact fun k hk => ⟨_, (gmU k hk).1, (gmU k hk).2.1, by have := (gmU k hk).2.2; omega⟩
    · rw [hLe]
      exact fun k hk => by rw [getM_mD, if_neg (hDU k hk).2]
    · rw [hLe]
      exact hDUnd
    · rw [hLe]
      omega
    · rw [hLe, flat_mD hUK]
      omega
    have emap : DU.map (fun k => (k, chg (mD M K1) k)) = DU.map (fun k => (k, chg M k)) := List.map_congr_left fun k hk => by rw [chg_mD (hUK k hk)]
    rw [hLe, flat_mD hUK, lD_app, emap, mD_app] at hRo
    have xo := ko.fix SN.r0.prts
    have hDlO := xo _ _ hDlN rfl
    have hDpO := hDpN.mono xo.tups
    have SO := SN.kp0 nf0 n10 ko hRo
    have dq1 : Dp K Ho (.int ((lackD (toldD (mD M K0)) (toldD (mD M K1))).length : Int)) (.int (DU.length : Int)) := by
      rw [hLe]
      exact .int _
    have dq2 : Dp K Ho (.int ((dcs.map V.ref).length : Int)) (.int (DU.length : Int)) := by
      rw [List.length_map, hDpN.length]
      exact .int _
    refine ⟨_, rfl, D, _, rfl, .inl (SqL.of hDlO), .int _, .int _, .int (DU.length : Int), rfl, .inr rfl, .inr rfl, dq1, dq2, (sm_int (bd_small (by omega) (by omega))).fit (by decide) (by decide), true, rfl, iteF ?_⟩
    -- once more
    have hLe2 : lackD (toldD (mD M (K0 ++ DU))) (toldD (mD M K1)) = [] := by rw [toldD_keys, toldD_keys, mD_keys, mD_keys, hlack2]
    have gmA : ∀ k ∈ K0 ++ DU, ∃ cs, getM M k = some cs ∧ (∀ c ∈ cs, okC c) ∧ cs.length ≤ 3 := fun k hk => by
      rcases List.mem_append.mp hk with hk | hk
      · exact gm0 k hk
      · exact gmD k hk
    have bdA : ∀ k ∈ K0 ++ DU, (0 ≤ k.1 ∧ k.1 < 8) ∧ 0 ≤ k.2 ∧ k.2 ≤ 100 := fun k hk => by
      rcases List.mem_append.mp hk with hk | hk
      · exact bd0 k hk
      · exact bd1 k (hUK k hk)
    have hlA : (K0 ++ DU).length ≤ 40 := by
      rw [List.length_append]
      omega
    have hsumA := (chg_sum gmA).1
    have hlAD := lD_len M (K0 ++ DU)
    refine ⟨_, rfl, rl, _, _, _, rfl, rfl, SqL.of SO.rl, atI_nat (j := 0) rfl, _, rfl, rl, _, _, _, rfl, rfl, SqL.of SO.rl, atI_nat (j := 1) rfl, ?_⟩
    refine ⟨p0, d0, m0, p1, d1, m1, e0, 4 + e1, _, _, mD M (K0 ++ DU), mD M K1, rfl, SO.r0, SO.r1, hdm0, n10, mdb bdA, by rw [mD_len]; omega, mdb bd1, by rw [mD_len]; omega, ?_, ?_, ?_, ?_, ?_, fun Hp kp hRp => ?_⟩
    · rw [hLe2]
      exact fun k (hk : k ∈ ([] : List PK)) => nomatch hk
    · rw [hLe2]
      exact fun k (hk : k ∈ ([] : List PK)) => nomatch hk
    · rw [hLe2]
      exact .nil
    · rw [hLe2]
      exact Nat.zero_le _
    · rw [hLe2]
      show (lD M (K0 ++ DU)).length + 0 ≤ 1000
      omega
    rw [hLe2] at hRp
    have hRp : RpAt P w K Hp p0 d0 m0 e0 (lD M (K0 ++ DU)) (mD M (K0 ++ DU)) := by
      have e1 : mD M (K0 ++ DU) ++ ([] : List PK).map (fun k => (k, chg (mD M K1) k)) = mD M (K0 ++ DU) := List.append_nil _
      rw [e1] at hRp
      exact hRp
    have xp := kp.fix SO.r0.prts
    have hDlP := xp _ _ hDlO rfl
    have hDpP := hDpO.mono xp.tups
    have SP := SO.kp0 nf0 n10 kp hRp
    have dr1 : Dp K Hp (.int ((lackD (toldD (mD M (K0 ++ DU))) (toldD (mD M K1))).length : Int)) (.int 0) := by
      rw [hLe2]
      exact .int _
    refine ⟨.int _, .int 0, .int 0, rfl, .inr rfl, .inr rfl, dr1, .int 0, (sm_int (by decide)).fit (by decide) (by decide), true, rfl, iteF ?_⟩
    -- at the end
    obtain ⟨bs0, hk0l, hk0p⟩ := SP.g0
    refine ⟨_, rfl, rl, _, _, _, rfl, rfl, SqL.of SP.rl, atI_nat (j := 0) rfl, _, rfl, _, rfl, kl, _, _, _, rfl, rfl, SqL.of SP.kl, atI_nat (j := 0) rfl, _, rfl, k0, D, _, _, rfl, rfl, hk0l, hDlP, ?_, fun kc hkc => ?_⟩
    · refine line_ge ?_
      rw [List.length_map, List.length_map, hk0p.length, hDpP.length]
      omega
    have skc := Same.new (o := .lst (bs0.map V.ref ++ dcs.map V.ref)) hkc
    have SQ := SP.same skc
    have hgA : RgsAt (upd Hp kc (.lst (bs0.map V.ref ++ dcs.map V.ref))) kc (K0 ++ DU) := ⟨bs0 ++ dcs, by rw [upd_same, List.map_append], PairsAt.mono (Same.tups skc) (paired_app hk0p hDpP)⟩
    refine ⟨p0, d0, m0, f, kc, e0, _, mD M (K0 ++ DU), M, K0 ++ DU, rfl, SQ.r0, SQ.ms, hgA, mD_keys M _, rfl, bdA, gmA, hlA, fun Hq sq => ⟨true, rfl, iteT ?_⟩⟩
    have SR := SQ.same sq
    refine ⟨_, rfl, rl, _, _, _, rfl, rfl, SqL.of SR.rl, atI_nat (j := 1) rfl, _, rfl, _, rfl, kl, _, _, _, rfl, rfl, SqL.of SR.kl, atI_nat (j := 1) rfl, ?_⟩
    exact ⟨p1, d1, m1, f, k1, 4 + e1, _, mD M K1, M, K1, rfl, SR.r1, SR.ms, SR.g1, mD_keys M _, rfl, bd1, gm1, by omega, fun Hr sr => q Hr⟩
end
end Gt
set_option Elab.async false
set_option linter.all false
set_option maxRecDepth 100000
set_option maxHeartbeats 0
/-! The end: the row holds. -/
namespace Gt
open PySem PySem.Spec PyProof.Rows L2
theorem bindsA {K : PySem.W.Frag} {x qual : Str} {st : Stmt} {f : Addr} {fd : FuncData} {ps : List Str} (F : L2.Fun K x qual st f fd)
    (h : ∀ (kV doc pm : Value) (an : Option Addr) (cdv ct : Value) (us : List Value), us.length = ps.length → bindArgs (PySem.W.fnOf x qual (defArgs st) (defBody st) (defScope st) .none kV doc pm an cdv ct) ⟨us, []⟩ = pure (ps.zip us)) (s : Shared) (us : List Value) (hl : us.length = ps.length) : BindsTo s fd ⟨us, []⟩ (ps.zip us) := by
  obtain ⟨oc, od, kV, doc, pm, an, cdv, ct, osl, rfl, lk, hcd⟩ := F.ex
  exact .of_eq (h kV doc pm an cdv ct us hl)
/-- the law's call from what the head's run says; no repr is under way -/
theorem walkGE {l : PySem.W.OpenLaw} {n k : Nat} {q : Program} {loose : List Str} {XP : (Str → Option Value) → Heap → Prop} {YP : World → Heap → Prop} {d : DefRec} {x : Str}
    (hn : l.most = some n) (hn2 : n ≤ sizeLine) (hdf : d.params.defaults = []) (hr : Room k callerA)
    (F : ∀ (w : World) (mg : Str → Option Value) (fa : Addr) (h : Heap), YP w h → h.Ns mainGlobals mg → mg d.name = some (.ref fa) →
      ∃ (K : PySem.W.Frag) (fd : FuncData) (sp : Sp), K.In h ∧ (∀ (s : Shared) (u : Value), BindsTo s fd ⟨[u], []⟩ [(x, u)]) ∧
        (∀ (H : Hp) (a : Addr) (ns : List Int), ns.length ≤ n → SqL K H a (ns.map V.int) → sp [.ref a] H (fun v _ => v = .bl true) E0) ∧
        ∀ base : Heap, K.In base → base.Ns mainGlobals mg → FnG l.prog w K mg base k fa fd [x] sp) :
    PySem.W.WalkO q loose XP YP l.row.toRowW d [] (fun f vs => PySem.call f vs) := by
  refine Att.attach_call hn hdf ?_
  intro w s0 s1 mg mb fa o pm cd doc a vs ns G Y ho hd hcd hmg hobj hints hlen hg
  obtain ⟨K, fd, sp, KX, bt, hsp, hF⟩ := F w mg fa _ Y G.T.g hmg
  exact endG KX G.T.g G.T.b G.T.builtins G.T.nolimit hg hobj hints (Nat.le_trans hlen hn2) hr hF bt fun H hS => hsp H a ns hlen hS
theorem facts {P : Program} {w : World} {K : PySem.W.Frag} {h : Heap} {mg : Str → Option Value} {f : Addr} (X : K.In h) (G : h.Ns mainGlobals mg) (hfa : mg ("law" : Str) = some (.ref f)) (c : SaysX K) :
    ∃ fd : FuncData, (∀ (s : Shared) (v : Value), BindsTo s fd ⟨[v], []⟩ [("_law_script", v)]) ∧ ∀ base : Heap, K.In base → base.Ns mainGlobals mg → FnG P w K mg base 9 f fd ["_law_script"] (spLaw K) := by
  have T : Tx K mg := ⟨⟨h, X, G⟩, c⟩
  obtain ⟨fd, F⟩ := T.d_law
  have e := hfa.symm.trans T.g_law
  cases e
  have b := bindsA (ps := ["_law_script"]) F fun _ _ _ _ _ _ us hl => match us, hl with | [_], _ => rfl
  exact ⟨fd, fun s v => b s [v] rfl, fun base _ _ => k_law T F⟩
end Gt
open PySem PySem.W PySem.Calls PyProof.Rows
theorem PySem.Challenge.cw_graphtwins_k44_ranges_holds : PySem.Challenge.rw_graphtwins_k44_ranges.Holds := by
  w_on; o_law
  refine HandSHeadRun.head_any (r := OpenLaw.row PySem.Challenge.rw_graphtwins_k44_ranges) (q := view (OpenLaw.row PySem.Challenge.rw_graphtwins_k44_ranges).prog [68]) (H := Gt.hk) (ob := Gt.ob) (M := 6000) (loose := Gt.loose) (d := HandSHeadRun.topDef (OpenLaw.row PySem.Challenge.rw_graphtwins_k44_ranges).prog 68) (kwd := []) Gt.ob_eq
    (by kernel_rfl) (fun s => by kernel_rfl) Gt.run (by kernel_rfl) (by kernel_rfl) (by kernel_rfl) (by rfl) (by first | assumption | decide +kernel) (by decide +kernel) ⟨rfl, rfl, rfl, rfl, rfl, by decide +kernel⟩ ?hw ?hc
  case hw => w_witness2
  case hc =>
    refine Gt.walkGE (l := PySem.Challenge.rw_graphtwins_k44_ranges) (n := 63) (k := 9) (x := "_law_script") rfl (by decide) (by kernel_rfl) ⟨rfl, by decide, by decide⟩ ?F
    intro w mg fa h Y G hmg0
    obtain ⟨K, KX, c⟩ := Y
    have hmg : mg ("law" : PySem.Str) = some (.ref fa) := by
      have e : (HandSHeadRun.topDef (OpenLaw.row PySem.Challenge.rw_graphtwins_k44_ranges).prog 68).name = ("law" : PySem.Str) := by kernel_rfl
      rw [← e]
      exact hmg0
    obtain ⟨fd, hb, hF⟩ := Gt.facts (P := (PySem.Challenge.rw_graphtwins_k44_ranges).prog) (w := w) KX G hmg c
    exact ⟨K, fd, Gt.spLaw K, KX, hb, fun H a ns hl hS => ⟨a, ns, rfl, hS, fun _ => rfl⟩, hF⟩
