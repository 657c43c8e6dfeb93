import PyProof.Rows.All
import Wide.All
import OpenK.AllK
import Wide.FinOn
import PyProof.EqAt
import PyProof.EqKinds
import PyProof.TupleCall
import Open.SpecLaws
import KE.OsGo
import KE.KLam
import HandS.ForSpec
import HandS.Lambda
import KE.LtSeq
import KE.KSortKey
import HandS.ForMost
import HandS.Sort
import HandS.SortOrd
import HandS.SortKw
import PyProof.Rows.CallKwBuiltin
import PyProof.Rows.CallKw2
import PySem.Challenge.RW_forgetproof_s01_answers
import HandS.CallLocal
import HandS.Wide
import HandS.Style
import PyProof.NeKinds
import HandS.Walk
import HandS.NoneIn
import Kp433Spec
import PyFlatLaws
import PyKp433
set_option Elab.async false
set_option linter.all false
set_option maxRecDepth 100000
set_option maxHeartbeats 8000000
/-! # The end of a Spec row whose defs make lambdas: tables of code objects are tracked -/
namespace FpS
open PySem PySem.Spec PyProof.Rows L2
open PySem.W (Codec OpenSpec WData WellAll ReadsW WRecords)
open LamX (TabB)
/-- what the head tells of code objects and their tables -/
def TabsKnown (q : Program) (K : PySem.W.Frag) (h : Heap) : Prop := ∀ (x : Str) (d : DefRec) (c P : Addr), (recsOf q).find? (fun e => e.name == x) = some d → PySem.W.tabIn K x = some (c, P) → PySem.W.CodeHd h c P ∧ h.get? P = some (PySem.W.tabObj #[])
theorem old_tabs {h h' : Heap} {cs : List (Addr × Addr)} (hT : ∀ p ∈ cs, h.get? p.2 = some (PySem.W.tabObj #[])) (C : ∀ p ∈ cs, PySem.W.CodeHd h p.1 p.2) (key : ∀ b o, b ∉ cs.map (·.2) → h.get? b = some o → h'.get? b = some o)
    (grown : ∀ p ∈ cs, ∃ more : Array Value, h'.get? p.2 = some (PySem.W.tabObj more)) : OldK h h' := by
  refine ⟨fun b o e => ?_, fun b o e => ?_⟩
  · by_cases hb : b ∈ cs.map (·.2)
    · obtain ⟨p, hp, rfl⟩ := List.mem_map.mp hb
      obtain ⟨more, hm⟩ := grown p hp
      have e0 := hT p hp
      rw [e0] at e
      cases e
      exact .inr (.inl ⟨((C p hp).tab e0).isCodeTable, rfl, #[], more, rfl, by rw [Array.empty_append]; exact hm⟩)
    · exact .inl (key b o hb e)
  · by_cases hb : b ∈ cs.map (·.2)
    · obtain ⟨p, hp, rfl⟩ := List.mem_map.mp hb
      obtain ⟨more, hm⟩ := grown p hp
      exact ⟨_, hm⟩
    · exact ⟨o, key b o hb e⟩
/-- the tracked heap at the entry: the request and the tables -/
def withT (cs : List (Addr × Addr)) (H : Hp) : Hp := fun b => if b ∈ cs.map (·.2) then some (.tbl #[]) else H b
theorem spec_callT {P : Program} {w : World} {K : PySem.W.Frag} {mg mb : Str → Option Value} {CX : CXT} {k : Nat} {fa : Addr} {cs : List (Addr × Addr)} {fd : FuncData} {ps : List Str} {sp : Sp} {s₁ : Shared} {vals : List Value} {ds : List WData} {R : PySem.W.WRecords} {cl : Str → Option Addr} {d0 : WData}
    (KX : K.In s₁.heap) (hns : s₁.heap.Ns mainGlobals mg) (hb : s₁.heap.Ns builtinsNs mb) (hbb : ∀ x : Str, x ≠ "__name__" → mb x = bootBuiltins x) (hlim : s₁.heap.NoLimit) (hg : s₁.gens = #[])
    (hT : ∀ p ∈ cs, s₁.heap.get? p.2 = some (PySem.W.tabObj #[])) (nT : ∀ p ∈ cs, K.lookup p.2 = none) (C : ∀ p ∈ cs, PySem.W.CodeHd s₁.heap p.1 p.2)
    (hbm : ∃ (bm : Addr) (ob : Obj), mg "__builtins__" = some (.ref bm) ∧ bm ≠ builtinsNs ∧ s₁.heap.get? bm = some ob ∧ ob.cls = .type "module" ∧ ob.dict = some builtinsNs ∧ ob.data = .plain)
    (hwl : WellAll w.params s₁.heap vals ds) (hpl : plWs ds = true) (hwt : ∀ d ∈ ds, d.weight ≤ 1048576) (hr : Room k callerA)
    (F : ∀ base : Heap, K.In base → base.Ns mainGlobals mg → (∀ p ∈ cs, TabB base mg p.1 p.2) → FnOk P w K mg base CX k fa fd ps sp) (hbind : ∀ (s : Shared) (us : List Value), us.length = ps.length → BindsTo s fd ⟨us, []⟩ (ps.zip us)) (hlen : ds.length = ps.length)
    (hsp : ∀ (H0 H : Hp) (xs : List V), OnlyF H0 → (∀ b, b ∉ cs.map (·.2) → H b = H0 b) → Same H0 H → (∀ p ∈ cs, H p.2 = some (.tbl #[])) → DwAll K H0 xs ds → sp xs H (fun v H' => Dw K H' v d0) fun _ _ _ => False)
    (hCX : ∀ H e s', CX [] H s₁ (fun _ _ _ => False) e s' → False) :
    codeAny (model P w) callerA (.call (.ref fa) ⟨vals, []⟩) (fun r s' => ∃ u as, r = .ok (.ret u) ∧ ReadsW R cl s'.heap u d0 as ∧ OldK s₁.heap s'.heap ∧ s'.os = s₁.os ∧ AllBare s'.gens) s₁ := by
  obtain ⟨A, ho, ar⟩ := area_all ds vals hwl hpl hwt
  have hO : OnlyF (argH K s₁.heap A) := argH_only ar
  have hok0 : HOk P w (argH K s₁.heap A) s₁.heap := argH_ok ar
  have hS := dw_all KX ar ds vals hwl hpl ho
  have hV := vals_toV ho
  have hK : ∀ b u, argH K s₁.heap A b = some u → K.lookup b = none := fun b u q => (argH_is ar q).1
  -- an argument's object is a sequence
  have hseq : ∀ {b u}, argH K s₁.heap A b = some u → ∃ o vs n, s₁.heap.get? b = some o ∧ o.data = .seq vs n := fun {b u} q => by
    obtain ⟨_, vs, _, _, ⟨e2, _⟩ | ⟨e2, _⟩⟩ := argH_is ar q
    · exact ⟨_, _, _, e2, rfl⟩
    · exact ⟨_, _, _, e2, rfl⟩
  generalize argH K s₁.heap A = H0 at hO hok0 hS hK hseq
  have isT : ∀ b, b ∈ cs.map (·.2) → s₁.heap.get? b = some (PySem.W.tabObj #[]) := fun b hb => by
    obtain ⟨p, hp, rfl⟩ := List.mem_map.mp hb
    exact hT p hp
  have apart : ∀ b, b ∈ cs.map (·.2) → H0 b = none := fun b hb => by
    cases q : H0 b with
    | none => rfl
    | some u =>
      obtain ⟨o, vs, n, e, hd⟩ := hseq q
      rw [isT b hb] at e
      cases e
      cases hd
  have hin : ∀ b, b ∈ cs.map (·.2) → withT cs H0 b = some (.tbl #[]) := fun b hb => if_pos hb
  have hout : ∀ b, b ∉ cs.map (·.2) → withT cs H0 b = H0 b := fun b hb => if_neg hb
  have hsame : Same H0 (withT cs H0) := fun b o e => by
    rw [hout b (fun z => by rw [apart b z] at e; cases e)]
    exact e
  have hok : HOk P w (withT cs H0) s₁.heap := fun b u e => by
    by_cases hb : b ∈ cs.map (·.2)
    · rw [hin b hb] at e
      cases e
      exact isT b hb
    · rw [hout b hb] at e
      exact (hok0 b u e).stay (fun _ _ _ q => q) (fun c q => hsame c _ q) fun c xs q => hsame c _ q
  have memT : ∀ p ∈ cs, p.2 ∈ cs.map (·.2) := fun p hp => List.mem_map.mpr ⟨p, hp, rfl⟩
  have hTb : ∀ p ∈ cs, withT cs H0 p.2 = some (.tbl #[]) := fun p hp => hin _ (memT p hp)
  have hspH := hsp H0 (withT cs H0) (vals.map toV) hO hout hsame hTb hS
  generalize withT cs H0 = H at hin hout hsame hok hTb hspH
  -- what is no sequence and no table is not tracked
  have free : ∀ {b : Addr} {o : Obj}, s₁.heap.get? b = some o → (∀ vs n, o.data ≠ .seq vs n) → o.data ≠ .fields #[] → H b = none := fun {b o} e h1 h2 => by
    by_cases hb : b ∈ cs.map (·.2)
    · rw [isT b hb] at e
      cases e
      exact absurd rfl h2
    · rw [hout b hb]
      cases q : H0 b with
      | none => rfl
      | some u =>
        obtain ⟨o', vs, n, e', hd⟩ := hseq q
        rw [e] at e'
        cases e'
        exact absurd hd (h1 vs n)
  have freeD : ∀ {b : Addr} {o : Obj} {es : Array DictEntry} {ep : Nat}, s₁.heap.get? b = some o → o.data = .dict es ep → H b = none := fun {b o es ep} e d =>
    free e (fun vs n z => by rw [d] at z; cases z) fun z => by rw [d] at z; cases z
  have base_of : ∀ {b : Addr} {o : Obj}, s₁.heap.get? b = some o → H b = none → (hidT s₁.heap H).get? b = some o := fun e n => hidT_get e n
  have nsK : ∀ {b : Addr} {m : Str → Option Value}, s₁.heap.Ns b m → (hidT s₁.heap H).Ns b m := fun {b m} ⟨o, es, ep, e, d, r⟩ => ⟨o, es, ep, base_of e (freeD e d), d, r⟩
  have hKb : K.In (hidT s₁.heap H) := fun b o e => base_of (KX b o e) (by
    by_cases hb : b ∈ cs.map (·.2)
    · obtain ⟨p, hp, rfl⟩ := List.mem_map.mp hb
      rw [nT p hp] at e
      cases e
    · rw [hout b hb]
      cases q : H0 b with
      | none => rfl
      | some u =>
        rw [hK b u q] at e
        cases e)
  have hM : Mod K mg (hidT s₁.heap H) := ⟨hKb, nsK hns, ⟨mb, nsK hb, hbb⟩, let ⟨mc, h1, h2⟩ := hlim; ⟨mc, nsK h1, h2⟩⟩
  have TB : ∀ p ∈ cs, TabB (hidT s₁.heap H) mg p.1 p.2 := fun p hp => by
    have hTp := hT p hp
    refine ⟨?_, ?_, fun z => ?_⟩
    · obtain ⟨o, us, file, tf, flags, tg, inF, text, tt, e1, r1, r2, r3, rr⟩ := C p hp
      refine ⟨o, us, file, tf, flags, tg, inF, text, tt, base_of e1 (free e1 (fun vs n z => by rw [r2] at z; cases z) fun z => ?_), r1, r2, r3, rr⟩
      rw [r2] at z
      cases z
      simp at r3
    · obtain ⟨bm, ob, b1, b2, b3, b4, b5, b6⟩ := hbm
      refine ⟨bm, ob, b1, b2, fun q => ?_, fun q => ?_, base_of b3 (free b3 (fun vs n z => by rw [b6] at z; cases z) fun z => by rw [b6] at z; cases z), b4, b5, b6⟩
      · obtain ⟨o, es, ep, e, hd, _⟩ := hns
        rw [q, e] at b3
        cases b3
        rw [hd] at b6
        cases b6
      · rw [q, hTp] at b3
        cases b3
        cases b6
    · obtain ⟨o, es, ep, e, hd, _⟩ := hns
      rw [z, hTp] at e
      cases e
      cases hd
  have e0 : Env0 P w K mg (hidT s₁.heap H) callerA [] s₁ H := ⟨rfl, hM, fun b o e => of_hidT e, Nat.le_of_eq (hidT_size _ _), trivial, fun b hb => absurd (show b ∈ ([] : List Addr) from hb) (by simp), hok, .of_eq hg⟩
  have hl : vals.length = ps.length := by rw [wellAll_len hwl]; exact hlen
  refine codeAny_mono ((F _ hKb (nsK hns) TB).run callerA [] s₁ H ⟨vals, []⟩ vals (vals.map toV) _ _ hr e0 (hbind s₁ vals hl) hV hspH) fun r s' x => ?_
  cases r with
  | error e => exact (hCX H e s' x).elim
  | ok fl =>
    cases fl with
    | next => exact False.elim x
    | brk => exact False.elim x
    | cont => exact False.elim x
    | ret u =>
      obtain ⟨v, H', os, bare, un, hok', r', q⟩ := x
      have kept : ∀ b o, b ∉ cs.map (·.2) → s₁.heap.get? b = some o → s'.heap.get? b = some o := fun b o nb e => by
        cases q2 : H b with
        | none => exact un.keep b o e q2 (by intro z; exact absurd (show b ∈ ([] : List Addr) from z) (by simp)) (by simp)
        | some u2 =>
          rw [hout b nb] at q2
          rcases hO b with z | ⟨ob, u3, z⟩
          · rw [q2] at z
            cases z
          · have z1 := hsame b _ z
            have z2 := un.frzs b ob _ z1
            obtain ⟨e1, _⟩ := hok b _ z1
            obtain ⟨e2, _⟩ := hok' b _ z2
            rw [e] at e1
            cases e1
            exact e2
      have grown : ∀ p ∈ cs, ∃ more : Array Value, s'.heap.get? p.2 = some (PySem.W.tabObj more) := fun p hp => by
        obtain ⟨more, z⟩ := un.tbls p.2 #[] (hTb p hp)
        exact ⟨_, hok' p.2 _ z⟩
      have KX' : K.In s'.heap := fun b o e => kept b o (fun z => by
        obtain ⟨p, hp, rfl⟩ := List.mem_map.mp z
        rw [nT p hp] at e
        cases e) (KX b o e)
      obtain ⟨as, hrd⟩ := Dw.reads (R := R) (cl := cl) hok' KX' d0 v u q r'
      exact ⟨u, as, rfl, hrd, old_tabs hT C kept grown, os, bare⟩
theorem walk_specKT {r : OpenSpec} {k : Nat} {q : Program} {loose : List Str} {XP : (Str → Option Value) → Heap → Prop} {YP : World → Heap → Prop} {d : DefRec} {K : Params → PySem.W.Frag} {CX : CXT} {ps : List Str} {sp : PySem.W.Frag → List (Addr × Addr) → Sp}
    (hwell : r.wellSaid = true) (hdf : d.params.defaults = []) (hlen : r.args.length = ps.length) (hr : Room k callerA)
    (hY : ∀ (w : World) (h : Heap), YP w h → (K w.params).In h)
    (F : ∀ (w : World) (mg : Str → Option Value) (fa : Addr) (h : Heap), YP w h → (K w.params).In h → h.Ns mainGlobals mg → TabsKnown q (K w.params) h → mg d.name = some (.ref fa) →
      ∃ (fd : FuncData) (cs : List (Addr × Addr)), (∀ p ∈ cs, h.get? p.2 = some (PySem.W.tabObj #[])) ∧ (∀ p ∈ cs, (K w.params).lookup p.2 = none) ∧ (∀ p ∈ cs, PySem.W.CodeHd h p.1 p.2) ∧
        (∀ (s : Shared) (us : List Value), us.length = ps.length → BindsTo s fd ⟨us, []⟩ (ps.zip us)) ∧
        ∀ base : Heap, (K w.params).In base → base.Ns mainGlobals mg → (∀ p ∈ cs, TabB base mg p.1 p.2) → FnOk r.prog w (K w.params) mg base CX k fa fd ps (sp (K w.params) cs))
    (hsp : ∀ (K : PySem.W.Frag) (cs : List (Addr × Addr)) (H0 H : Hp) (xs : List V) (a : Codec.denoteAll r.args), OnlyF H0 → (∀ b, b ∉ cs.map (·.2) → H b = H0 b) → Same H0 H → (∀ p ∈ cs, H p.2 = some (.tbl #[])) → Codec.withinAll r.args a = true → Codec.app r.args r.asked a = true →
      DwAll K H0 xs (Codec.encAll r.args a) → sp K cs xs H (fun v H' => Dw K H' v (r.ret.enc (Codec.app r.args r.f a))) fun _ _ _ => False)
    (hCX : ∀ (H : Hp) (s : Shared) (e : Value) (s' : Shared), CX [] H s (fun _ _ _ => False) e s' → False) :
    PySem.W.WalkOS q loose XP YP r d [] (fun f vs => PySem.call f vs) := by
  intro w s₀ s₁ mg mb G Y fa o pm cd doc dV kV ho hd hcd hD hmg hg args vals as hpre hlay hrd hwl hlo
  obtain ⟨a, e1, e2⟩ := PySem.W.os_pre_some hpre
  obtain ⟨e3, hwi⟩ := Codec.encAll_of_decAll r.args args a e1
  subst e3
  have KX := hY w _ Y
  obtain ⟨fd, cs, hT, nT, C, hb, hF⟩ := F w mg fa _ Y KX G.T.g (fun x d c P h1 h2 => PySem.W.tab_of G.T KX h1 h2) hmg
  refine PySem.W.enter_call (codeAny_mono (spec_callT (R := []) (cl := classAt s₀.heap) (d0 := r.ret.enc (Codec.app r.args r.f a)) KX G.T.g G.T.b G.T.builtins G.T.nolimit hg hT nT C G.T.bmain hwl (pl_encAll _ _) (layable_weight hlay) hr hF hb (by rw [encAll_len]; exact hlen)
    (fun H0 H xs h1 h0 h2 h3 h4 => hsp (K w.params) cs H0 H xs a h1 h0 h2 h3 hwi e2 h4) fun H e s' => hCX H s₁ e s') fun r' s' hq => ?_)
  obtain ⟨u, as', rfl, h1, h2, h3, h4⟩ := hq
  exact ⟨.inl ⟨u, _, as', rfl, fun _ => rfl, h1, (OpenSpec.post_iff hwell hwi _ _).mpr rfl, fun z => Bool.noConfusion (show false = true from z)⟩, h2, h3, h4⟩
end FpS
/-! # The program's own error, with its field (the block of skel/42_own_error_by_import, turned to this class) -/
namespace PySem
namespace RefX
open PySem.W PySem.Calls PyProof.Rows PySem.HandSPX
/-! ### the text of __init__ -/
def iA (p1 p2 : Pos) : Arguments := { posonlyargs := [], args := [{ arg := "self", annotation := none, pos := p1 }, { arg := "code", annotation := none, pos := p2 }], vararg := none, kwonlyargs := [], kw_defaults := [], kwarg := none, defaults := [] }
def iB (q1 q2 q3 q4 : Pos) : List Stmt := [.Assign [.Attribute (.Name "self" q1) "code" q2] (.Name "code" q3) q4]
def iS : Scope := { kind := .function, names := [(PySem.Str.ofString "self", .local), (PySem.Str.ofString "code", .local)], isGenerator := false, isCoroutine := false, more := [] }
/-- what the written part says of Refused, at C, and of its __init__, at fI -/
structure RefTxt (K : Frag) (mg : Str → Option Value) (C fI : Addr) : Prop where
  gC : mg "Refused" = some (.ref C)
  cls : ∃ nm q N bs bm sn sub ab col dd k0 k1 k2 k3 k5, K.lookup C = some (excClassObj nm q C N bs bm true sn sub ab col dd k0 k1 k2 k3 k5 "ValueError.__new__") ∧ refsVE bm = true
  sa : findIn K (.ref C) "__setattr__" = some (some (.builtin "object.__setattr__"))
  ga : findIn K (.ref C) "__getattribute__" = some (some (.builtin "BaseException.__getattribute__"))
  gg : findIn K (.ref C) "__getattr__" = some none
  noN : findIn K (.ref C) "code" = some none
  iC : findIn K (.ref C) "__init__" = some (some (.ref fI))
  tC : typeIn K (.ref fI) = some (.type "function")
  kC : keepIn K (.ref C) = true
  exC : subIn K (.ref C) (.type "BaseException") = some true
  tyC : typeIn K (.ref C) = some (.type "type")
  hdC : hasDictIn K C = true
  te : exmOne K (.ref C) (.ref C) = some true
  fn : ∃ (oc : Value) (od : Option Addr) (doc pm : Value) (an : Option Addr) (cdv ct : Value) (osl : Array (Option Value)) (p1 p2 q1 q2 q3 q4 : Pos),
    K.lookup fI = some ⟨oc, od, .func (fnOf "__init__" "Refused.__init__" (iA p1 p2) (iB q1 q2 q3 q4) iS .none .none doc pm an cdv ct), osl⟩ ∧ codeIn K cdv "Refused.__init__" = true
theorem one_size (v : Value) : [v].length ≤ sizeLine := by
  rw [sizeLine_eq]
  exact (by decide : 1 ≤ 16777216)
theorem kept_but {K : Frag} {h h' : Heap} {x : Addr} (X : K.In h) (hx : K.lookup x = none) (k : ∀ b o, b ≠ x → h.get? b = some o → h'.get? b = some o) : K.In h' := fun a o e =>
  k a o (fun z => by rw [z, hx] at e; cases e) (X a o e)
theorem ldC {M : Model} {s : Shared} {name : Str} {scope : Scope} {L a : Addr} {cd : Value} {m : Str → Option Value} {x : Str} {pos : Pos} {v : Value} {Q : Value → Shared → Prop} {A : Around} {E : Value → Shared → Prop} (hn : s.heap.Ns L m) (hv : m x = some v) (h : Q v s)
    (hk : scope.kind = .function := by rfl) (hl : (envOfC name scope L a cd).kindOf x = some .local := by rfl) (hd : (x == ("__debug__" : Str)) = false := by decide) :
    wpAny M A (eval (.Name x pos) (envOfC name scope L a cd)) Q E s := wpAny_Name (wpAny_loadName_local hk hl hn hv h) hd
/-- what __init__ leaves of a fresh exception at x -/
structure InitEnd (h h' : Heap) (x C dx t1 : Addr) (v : Value) : Prop where
  keep : ∀ b o, b ≠ x → h.get? b = some o → h'.get? b = some o
  obj : h'.get? x = some { cls := .ref C, dict := some dx, data := .fields #[.ref t1, .none, .none, .none, .bool false, .none] }
  dbig : h.objs.size ≤ dx
  dne : dx ≠ x
  ns : h'.Ns1 dx (fun y => if y = "code" then some v else none)
/-- a made Refused -/
structure OwnMade (h h' : Heap) (e C d : Addr) (v : Value) : Prop where
  keep : ∀ b o, h.get? b = some o → h'.get? b = some o
  new : h.objs.size ≤ e
  obj : ∃ oe vs, h'.get? e = some oe ∧ oe.cls = .ref C ∧ oe.dict = some d ∧ oe.data = .fields vs ∧ vs[1]? = some .none
  dbig : h.objs.size ≤ d
  dne : d ≠ e
  ns : h'.Ns1 d (fun y => if y = "code" then some v else none)
section
variable {prog : Program} {w : World} {A : Around} {E : Value → Shared → Prop} {R : Result → Shared → Prop} {s : Shared} {K : Frag} {mg : Str → Option Value} {C fI : Addr}
theorem ref_init (T : RefTxt K mg C fI) {x t0 : Addr} {v : Value} (X : K.In s.heap) (hlim : s.heap.NoLimit) (hx : s.heap.get? x = some (excO C t0)) (hnx : K.lookup x = none) (hroom : A.depth < recursionLimit)
    (hq : ∀ h' tk dx, InitEnd s.heap h' x C dx t0 v → R (.ok (.ret .none)) { s with heap := h', toks := tk }) :
    codeAny (model prog w) A (.call (.ref fI) ⟨[.ref x, v], []⟩) R s := by
  obtain ⟨oc, od, doc, pm, an, cdv, ct, osl, p1, p2, q1, q2, q3, q4, ho, hcd⟩ := T.fn
  obtain ⟨nm, q, N, bs, bm, sn, sub, ab, col, dd, k0, k1, k2, k3, k5, hC, hbm⟩ := T.cls
  have hcl : clsIn K C = some { name := nm, bases := bs, mro := .ref C :: bm, ns := N, qualname := q, hasDict := true, slotNames := sn, subclasses := sub, abstract := ab, collection := col, hasDel := false } := by unfold clsIn; rw [hC] <;> rfl
  refine Att.call_fn (binds := [("self", .ref x), ("code", v)]) X hlim ho hcd hroom (BindsTo.of_eq (by first | rfl | with_unfolding_all rfl)) (by first | rfl | decide | with_unfolding_all rfl) (fun s₁ IC => ?_) rfl rfl rfl
  obtain ⟨h₁, tk₁, rfl⟩ := IC.toInCall.same
  have k : ∀ b o, s.heap.get? b = some o → h₁.get? b = some o := IC.toInCall.keep
  have hn := IC.toInCall.ns
  have hxL : s.heap.objs.size ≠ x := Nat.ne_of_gt (Heap.lt_size hx)
  have X₁ : K.In h₁ := X.keeps k
  have hx₁ := k _ _ hx
  -- self.code = code
  show wpAny _ _ (execs _ _) _ _ _
  refine wpAny_execs_cons (plainObj_wpAny_Assign_Attribute ?_)
  refine ldC (v := v) hn (by first | rfl | with_unfolding_all rfl | kernel_rfl) (ldC (v := .ref x) hn (by first | rfl | with_unfolding_all rfl | kernel_rfl) ?_)
  refine set_plain X₁ (ox := excO C t0) (od := none) ⟨hx₁, rfl, rfl, trivial⟩ T.sa ?_
  refine exc_osa X₁ hx₁ hcl (show refsVE (.ref C :: bm) = true from hbm) rfl T.noN (fun h₃ tk₃ dx k₃ dn dne hx₃ hn₃ => ?_)
  show wpAny _ _ (execs _ _) _ _ _
  have z : s.heap.objs.size < h₁.objs.size := hn.lt
  exact wpAny_execs_nil (hq h₃ tk₃ dx ⟨fun b o hb e => k₃ b o hb (k b o e), hx₃, Nat.le_of_lt (Nat.lt_of_lt_of_le z dn), dne, hn₃⟩)
theorem ref_made (T : RefTxt K mg C fI) {v : Value} (X : K.In s.heap) (hlim : s.heap.NoLimit) (hroom : A.depth + 1 < recursionLimit)
    (hq : ∀ h' tk e d, OwnMade s.heap h' e C d v → R (.ok (.ret (.ref e))) { s with heap := h', toks := tk }) :
    codeAny (model prog w) A (.call (.ref C) ⟨[v], []⟩) R s := by
  obtain ⟨nm, q, N, bs, bm, sn, sub, ab, col, dd, k0, k1, k2, k3, k5, hC, hbm⟩ := T.cls
  obtain ⟨hp, g, dr, tk, os⟩ := s
  have k : ∀ b o, hp.get? b = some o → ((hp.push (kdv_tup [v])).push (excO C hp.objs.size)).get? b = some o := fun b o e => Heap.get?_push_of_some _ (Heap.get?_push_of_some _ e)
  have hget : ((hp.push (kdv_tup [v])).push (excO C hp.objs.size)).get? (hp.objs.size + 1) = some (excO C hp.objs.size) := by heap_get
  have hnx : K.lookup (hp.objs.size + 1) = none := by
    cases e : K.lookup (hp.objs.size + 1) with
    | none => rfl
    | some o =>
      have z : hp.get? (hp.objs.size + 1) = some o := X _ _ e
      exact absurd (Nat.lt_of_succ_lt (Heap.lt_size z)) (Nat.lt_irrefl _)
  refine call_own F.excBase_ValueError (fun X => refsVE_contains X bm hbm) (X _ _ hC) (looks_findIn X T.iC) (fun self => bind_fn X self T.tC) (one_size v) ?_
  refine ref_init (s := ⟨(hp.push (kdv_tup [v])).push (excO C hp.objs.size), g, dr, tk, os⟩) T (X.keeps k) (hlim.keeps k) hget hnx ?_ fun h' tk' dx ⟨k', hx, dn, dne, hns⟩ => ?_
  · show A.depth + 1 < recursionLimit
    exact hroom
  · have old : ∀ b o, hp.get? b = some o → h'.get? b = some o := fun b o e => k' b o (Nat.ne_of_lt (Nat.lt_succ_of_lt (Heap.lt_size e))) (k b o e)
    have z : hp.objs.size + 1 + 1 ≤ dx := by
      first
        | (simpa only [Heap.size_push] using dn)
        | exact dn
        | (have q := dn; rw [Heap.size_push, Heap.size_push] at q; exact q)
    exact ⟨rfl, hq h' tk' (hp.objs.size + 1) dx ⟨old, Nat.le_succ _, ⟨_, _, hx, rfl, rfl, rfl, rfl⟩, Nat.le_trans (Nat.le_trans (Nat.le_succ _) (Nat.le_succ _)) z, dne, hns⟩⟩
end
end RefX
end PySem
namespace L2
open PySem PySem.Spec PyProof.Rows
theorem relO_ref {v : V} {v' : Value} (r : RelV v v') (f : Str) : RelO (List.lookup f [(("code" : Str), v)]) (if f = "code" then some v' else none) := by
  by_cases hw : f = "code"
  · subst hw
    rw [if_pos rfl]
    have q : List.lookup ("code" : Str) [(("code" : Str), v)] = some v := by simp [List.lookup]
    rw [q]
    exact r
  · rw [if_neg hw]
    have qw : (f == ("code" : Str)) = false := by simpa using hw
    have q2 : List.lookup f [(("code" : Str), v)] = none := by simp [List.lookup, qw]
    rw [q2]
    trivial
section
variable {X : Cx} {C fI : Addr}
/-- Refused(e) -/
def tMkRef (C : Addr) (ta : TA) : St → Hp → XK → Prop := fun σ H Q => ta σ H fun vs H1 => ∃ v, vs = [v] ∧ ∀ d, H1 d = none → Q (.ref C) (some d) (upd H1 d (.xd [(("code" : Str), v)]))
theorem pmk_ref {a : Expr} {ta : TA} {p pos : Pos} {k : Nat} (T : PySem.RefX.RefTxt X.K X.mg C fI) (hr : Room k X.A) (ha : PA X [a] ta) (hg : Gl X "Refused" := by rfl)
    (he : starEach (a :: []) X.env = (false, eval a X.env) :: starEach [] X.env := by rfl) (hpl : (backTo pos (starEach [] X.env)).any (·.1) = false := by rfl) :
    PMk X (.Call (.Name "Refused" p) [a] [] pos) (tMkRef C ta) := by
  intro pins s σ H Q I h
  refine wpAny_Call_Name_kw (ld_glob I hg T.gC ?_)
  refine PySem.W.callWith_K (h₀ := X.base) I.ok.mod.kin T.kC (thn (ha.run pos pins s σ H _ I h) fun us s1 hh => ?_) he hpl
  obtain ⟨vs, H1, I1, r1, v, ev, q1⟩ := hh
  subst ev
  refine ⟨I1.kIn, ?_⟩
  cases r1 with
  | cons rv rn =>
    rename_i v' us'
    cases rn
    show wpAny _ _ (call (.ref C) [v']) _ _ _
    have hlim := I1.nolimit
    obtain ⟨hp, g, dr, tk, os⟩ := s1
    refine wpAny_call (PySem.RefX.ref_made T I1.kIn hlim (by have := hr.dp; omega) fun h' tk' e d M => ?_)
    show MkP X pins σ Q (.ref e) ⟨h', g, dr, tk', os⟩
    obtain ⟨oe, fv, hoe, hc, hd, hdat, h1⟩ := M.obj
    have hns := M.ns
    obtain ⟨G', g1, g2⟩ := restrict h' fun b => decide (b ≠ e)
    have gk : ∀ b, b ≠ e → G'.get? b = h'.get? b := fun b hb => g1 b (decide_eq_true hb)
    have ge : G'.get? e = none := g2 e (by simp)
    have old : ∀ b o, hp.get? b = some o → G'.get? b = some o := fun b o q => (gk b (Nat.ne_of_lt (Nat.lt_of_lt_of_le (Heap.lt_size q) M.new))).trans (M.keep b o q)
    have ob : ObjOk X.prog X.w (upd H1 d (.xd [(("code" : Str), v)])) G' d (.xd [(("code" : Str), v)]) :=
      ⟨_, hns.at (fun o q => (gk d M.dne).trans q), fun f => relO_ref rv f⟩
    have J : Inv X pins σ (upd H1 d (.xd [(("code" : Str), v)])) ⟨G', g, dr, tk', os⟩ := I1.laid (t' := tk') old M.dbig ob
    refine ⟨e, oe, fv, ⟨G', g, dr, tk', os⟩, _, .ref C, some d, rfl, J, fun b o q => ?_, ge, hoe, ⟨hc, hd⟩, hdat, h1, ?_, rfl, I1.bare, raises_own T.exC T.tyC, q1 d (I1.hok.fresh M.dbig)⟩
    · by_cases hb : b = e
      · have q' : G'.get? b = some o := q
        rw [hb, ge] at q'; cases q'
      · exact (gk b hb).symm.trans q
    · rw [upd_ne (Ne.symm M.dne)]
      exact I1.hok.fresh M.new
/-- raise Refused(e) -/
def tRaiseRef (C : Addr) (W : WX) (ta : TA) : TS := fun _ σ H => tMkRef C ta σ H fun cls d H' => W cls d σ H'
theorem ps_raiseRef {a : Expr} {ta : TA} {W : WX} {p pos pos2 : Pos} {k : Nat} (hc : X.calm = true) (T : PySem.RefX.RefTxt X.K X.mg C fI) (hr : Room k X.A) (tk : Takes X W) (ha : PA X [a] ta) (hg : Gl X "Refused" := by rfl)
    (he : starEach (a :: []) X.env = (false, eval a X.env) :: starEach [] X.env := by rfl) (hpl : (backTo pos (starEach [] X.env)).any (·.1) = false := by rfl) :
    PS X (.Raise (some (.Call (.Name "Refused" p) [a] [] pos)) none pos2) (tRaiseRef C W ta) := ps_raise hc tk (pmk_ref T hr ha hg he hpl)
/-- r.code, r the exception that the suite holds (at a; its class cls, its dict d) -/
def tCodeRef (C : Addr) (a : Addr) (cls : Value) (d : Option Addr) (te : TE) : TE := fun σ H Q => te σ H fun x H1 => x = .ref a ∧ cls = .ref C ∧ ∃ (dd : Addr) (v : V), d = some dd ∧ H1 dd = some (.xd [(("code" : Str), v)]) ∧ Q v H1
theorem pe_codeRef {a : Addr} {oe : Obj} {cls : Value} {d : Option Addr} {pn : List (Addr × Obj)} {e : Expr} {te : TE} {pos : Pos} (T : PySem.RefX.RefTxt X.K X.mg C fI) (hz : Zc cls d oe) (hf : ∃ vs, oe.data = .fields vs) (he : PE (X.suite a ((a, oe) :: pn)) e te)
    (hb : attributeBase e "code" X.env (eval e X.env) = eval e X.env := by rfl) :
    PE (X.suite a ((a, oe) :: pn)) (.Attribute e "code" pos) (tCodeRef C a cls d te) := by
  refine ⟨fun pins s σ H Q I h => ?_⟩
  refine attr_of hb (thn (he.run pins s σ H _ I h) fun u s1 hh => ?_)
  obtain ⟨x, H1, I1, rx, ex, ec, dd, v, ed, ea, q⟩ := hh
  subst ex
  obtain rfl : u = Value.ref a := rx
  subst ec
  subst ed
  obtain ⟨ha, _⟩ := I1.pin (a, oe) (List.mem_append_left _ List.mem_cons_self)
  obtain ⟨vs, hd⟩ := hf
  have hx : ObjOk X.prog X.w H1 s1.heap dd (.xd [(("code" : Str), v)]) := I1.hok dd _ ea
  obtain ⟨mA, hns, hr⟩ := hx
  obtain ⟨od, ho, hl⟩ := lookIn_ns hns
  have l : List.lookup ("code" : Str) [(("code" : Str), v)] = some v := by simp [List.lookup]
  obtain ⟨u, hu, ru⟩ := RelO.some_of (v := v) (o := mA "code") (by rw [← l]; exact hr "code")
  have J : PySem.W.InstAt s1.heap a oe C (some od) := ⟨ha, hz.1, by unfold PySem.W.notCls; rw [hd] <;> rfl, by rw [hz.2]; exact ho⟩
  exact HandSPX.exc_get I1.kIn J T.ga T.gg T.exC (PySem.W.findObj_own T.hdC T.noN rfl (by rw [hl, hu])) (handed_of ru) ⟨v, H1, I1.tok _, ru, q⟩
end
end L2
/-! # What stays: all that is tracked but the tables of code objects, which stay good tables -/
namespace FpS
open PySem PySem.Spec PyProof.Rows L2
open LamX (CodeO Tabs TabS TabB)
/-- from H to H': nothing is gone, what is no table is as it was, good tables stay good -/
structure Ex (Tb : List (Addr × Str)) (H H' : Hp) : Prop where
  old : ∀ b o, H b = some o → (∀ ps, o ≠ .tbl ps) → H' b = some o
  tab : Tabs Tb H → Tabs Tb H'
  thr : ∀ b, H' b = none → H b = none
variable {Tb : List (Addr × Str)} {H H' H1 H2 : Hp} {p : Addr} {o o' : HO}
theorem Ex.refl (H : Hp) : Ex Tb H H := ⟨fun _ _ h _ => h, fun h => h, fun _ h => h⟩
theorem Ex.trans (a : Ex Tb H H1) (b : Ex Tb H1 H2) : Ex Tb H H2 :=
  ⟨fun c o h n => b.old c o (a.old c o h n) n, fun t => b.tab (a.tab t), fun c h => a.thr c (b.thr c h)⟩
theorem codeO_ntab {c : Addr} {q : Str} (ps : Array Value) : CodeO c q ≠ .tbl ps := LamX.codeO_ne ps
/-- the good tables lean on tables and code objects alone -/
theorem tabs_of (t : Tabs Tb H) (h1 : ∀ P ps, H P = some (.tbl ps) → H' P = some (.tbl ps)) (h2 : ∀ c q, H c = some (CodeO c q) → H' c = some (CodeO c q)) : Tabs Tb H' := fun x hx => by
  obtain ⟨ps, a1, a2, a3⟩ := t x hx
  refine ⟨ps, h1 _ _ a1, a2, fun pos cv hc => ?_⟩
  obtain ⟨c, e1, e2⟩ := a3 pos cv hc
  exact ⟨c, e1, h2 _ _ e2⟩
theorem Ex.new (h : H p = none) : Ex Tb H (upd H p o) :=
  ⟨fun a u e _ => by rw [upd_ne (ne_of_none e h)]; exact e,
   fun t => tabs_of t (fun P ps e => by rw [upd_ne (ne_of_none e h)]; exact e) (fun c q e => by rw [upd_ne (ne_of_none e h)]; exact e),
   fun b e => by
    by_cases hb : b = p
    · rw [hb]; exact h
    · rw [upd_ne hb] at e; exact e⟩
/-- an object that H does not know is changed: a list, an instance -/
def Plain : HO → Prop
  | .lst _ => True
  | .ins _ _ _ => True
  | .tup _ => True
  | _ => False
theorem Plain.ntab (h : Plain o) : ∀ ps, o ≠ .tbl ps := fun ps e => by subst e; exact h
theorem Plain.ncode (h : Plain o) : ∀ c q, o ≠ CodeO c q := fun c q e => by subst e; exact h
theorem tabs_upd (t : Tabs Tb H) (hp : H p = some o) (h : Plain o) : Tabs Tb (upd H p o') := by
  refine tabs_of t (fun P ps e => ?_) (fun c q e => ?_)
  · have n : P ≠ p := fun z => by rw [z, hp] at e; exact h.ntab ps (Option.some.inj e)
    rw [upd_ne n]; exact e
  · have n : c ≠ p := fun z => by
      subst z
      exact h.ncode c q (Option.some.inj (hp.symm.trans e))
    rw [upd_ne n]; exact e
theorem Ex.mut (e : Ex Tb H H') (h : H p = none) (hp : H' p = some o) (hl : Plain o) : Ex Tb H (upd H' p o') :=
  ⟨fun a u ha n => by rw [upd_ne (ne_of_none ha h)]; exact e.old a u ha n, fun t => tabs_upd (e.tab t) hp hl,
   fun b q => by
    by_cases hb : b = p
    · rw [hb]; exact h
    · rw [upd_ne hb] at q; exact e.thr b q⟩
theorem Ex.lst (e : Ex Tb H H') {a : Addr} {xs : List V} (h : H a = some (.lst xs)) : H' a = some (.lst xs) := e.old a _ h (fun _ z => by cases z)
theorem Ex.tup (e : Ex Tb H H') {a : Addr} {xs : List V} (h : H a = some (.tup xs)) : H' a = some (.tup xs) := e.old a _ h (fun _ z => by cases z)
theorem Ex.ins (e : Ex Tb H H') {a C dx : Addr} {fs : List (Str × V)} (h : H a = some (.ins C dx fs)) : H' a = some (.ins C dx fs) := e.old a _ h (fun _ z => by cases z)
theorem Ex.own (e : Ex Tb H H') {a x : Addr} (h : H a = some (.own x)) : H' a = some (.own x) := e.old a _ h (fun _ z => by cases z)
theorem Ex.xd (e : Ex Tb H H') {a : Addr} {fs : List (Str × V)} (h : H a = some (.xd fs)) : H' a = some (.xd fs) := e.old a _ h (fun _ z => by cases z)
theorem Ex.ext (e : Ex Tb H H') {a : Addr} {φ : Heap → Prop} (h : H a = some (.ext φ)) : H' a = some (.ext φ) := e.old a _ h (fun _ z => by cases z)
theorem Ex.frz (e : Ex Tb H H') {a : Addr} {ob : Obj} {u : HO} (h : H a = some (.frz ob u)) : H' a = some (.frz ob u) := e.old a _ h (fun _ z => by cases z)
theorem Ex.rdl (e : Ex Tb H H') {a : Addr} {xs : List V} (h : Rd H a (.lst xs)) : Rd H' a (.lst xs) := by
  rcases h with h | ⟨o, h⟩
  · exact .inl (e.lst h)
  · exact .inr ⟨o, e.frz h⟩
theorem Ex.sql (e : Ex Tb H H') {K : PySem.W.Frag} {a : Addr} {xs : List V} (h : SqL K H a xs) : SqL K H' a xs := by
  rcases h with h | h
  · exact .inl (e.rdl h)
  · exact .inr h
theorem Ex.same (h : Same H H') (thr : ∀ b, H' b = none → H b = none) : Ex Tb H H' := ⟨fun b o e _ => h b o e, fun t => tabs_of t (fun _ _ e => h _ _ e) fun _ _ e => h _ _ e, thr⟩
theorem Ex.ofSame (h : Same H H') : Ex Tb H H' := .same h fun _ e => h.free e
end FpS
/-! # sorted(xs, key=f), f a function of the program's own whose keys are tuples: the machine's part -/
namespace FpS
open PySem PyProof.Rows Srt SrtO
section
variable {prog : Program} {w : World} {A : Around} {E : Value → Shared → Prop} {s : Shared}
/-- behind the keys: the pairs are sorted, the two lists are written -/
theorem sort_end {a kS : Addr} {vs ks : List Value} {e e1 : Nat} {ltv : Value → Value → Bool} {P : PySem.Fin → Shared → Prop}
    (hk : s.heap.get? kS = some (seqObj "list" ks.toArray e)) (ha : s.heap.get? a = some (seqObj "list" #[] e1)) (hka : kS ≠ a) (hlen : ks.length = vs.length) (hz : vs.length ≤ sizeLine) (O : Swo ltv)
    (hS : 2 ≤ vs.length → ∃ κ, (∀ (Q : SortKind → Shared → Prop) (E : Value → Shared → Prop), Q κ s → wpAny (model prog w) A (keyKind' ks.toArray) Q E s) ∧ Cmp prog w A s κ (fun p => p.1 ∈ ks) (lt2 ltv))
    (h : ∀ (xs : List Keyed) (h' : Heap) (tk c : Nat), Srtd (lt2 ltv) xs → Stb (lt2 ltv) xs (ks.zip vs) → (∀ b o, b ≠ a → b ≠ kS → s.heap.get? b = some o → h'.get? b = some o) → h'.get? a = some (seqObj "list" (xs.map (·.2)).toArray c) →
      (∃ o, h'.get? kS = some o) → P (.done (.ret .none)) { s with heap := h', toks := tk }) :
    wpAny (model prog w) A (ksk_end a false vs.toArray e1 (.ref kS) ks.toArray) P E s := by
  have hsz : ks.toArray.size = vs.length := by simp [hlen]
  have ezip : (ks.toArray.zip vs.toArray).toList = ks.zip vs := by simp
  have s1 := Heap.SameBut.update s.heap kS (Obj.mapSeq fun _ => (#[] : Array Value))
  have na1 : (s.heap.update kS (Obj.mapSeq fun _ => (#[] : Array Value))).get? a = some (seqObj "list" #[] e1) := (s1.2 a hka.symm).trans ha
  have fin : ∀ st' : SortSt, Srtd (lt2 ltv) (arrOf st').toList → Stb (lt2 ltv) (arrOf st').toList (ks.zip vs) → failedOf st' = none → wpAny (model prog w) A (ksk_tail a false e1 (.ref kS) st') P E s := by
    intro st h1 h2 hfl
    have hsz2 : (arrOf st).size = vs.length := by
      have q := h2.len
      rw [Array.length_toList, List.length_zip, hlen, Nat.min_self] at q
      exact q
    have s2 := Heap.SameBut.update (s.heap.update kS (Obj.mapSeq fun _ => (#[] : Array Value))) a (Obj.mapSeq fun _ => (arrOf st).map (·.2))
    obtain ⟨c2, hc2⟩ : ∃ c2, ((s.heap.update kS (Obj.mapSeq fun _ => (#[] : Array Value))).update a (Obj.mapSeq fun _ => (arrOf st).map (·.2))).get? a = some (seqObj "list" ((arrOf st).map (·.2)) c2) :=
      ⟨_, get?_update_seq na1 fun _ => (arrOf st).map (·.2)⟩
    obtain ⟨c1, hc1⟩ : ∃ c1, (s.heap.update kS (Obj.mapSeq fun _ => (#[] : Array Value))).get? kS = some (seqObj "list" #[] c1) := ⟨_, get?_update_seq hk fun _ => #[]⟩
    unfold ksk_tail
    try dsimp only
    refine wpAny_bind (listUpdate_at hk rfl ?_ (by rw [hsz]; exact hz) (Nat.zero_le _))
    refine wpAny_bind (wpAny_letGo ?_)
    refine wpAny_bind (seqEpoch_at na1 rfl ?_)
    refine wpAny_bind (listUpdate_at na1 rfl ?_ (Nat.zero_le _) (by
      show ((arrOf st).map (·.2)).size ≤ sizeLine + 1
      rw [Array.size_map, hsz2]; omega))
    rw [hfl]
    simp only [bne_self_eq_false, Bool.false_eq_true, if_false]
    have el : ((arrOf st).toList.map (·.2)).toArray = (arrOf st).map (·.2) := by
      rw [← Array.toList_map, Array.toArray_toList]
    refine wpAny_pure (h (arrOf st).toList _ _ c2 h1 h2 (fun b o hb hb2 ho => ?_) (by rw [el]; exact hc2) ⟨_, (s2.2 kS hka).trans hc1⟩)
    exact (s2.2 b hb).trans ((s1.2 b hb2).trans ho)
  unfold ksk_end
  try dsimp only
  rw [if_neg Bool.false_ne_true]
  by_cases h2 : vs.toArray.size < 2
  · rw [if_pos h2, if_pos h2]
    refine wpAny_bind (wpAny_pure ?_)
    rw [StateT.run_pure]
    refine wpAny_bind (wpAny_pure ?_)
    try dsimp only
    refine fin (SortSt.mk' general' (ks.toArray.zip vs.toArray) #[] 7 none) ?_ (by
      show Stb (lt2 ltv) (ks.toArray.zip vs.toArray).toList (ks.zip vs)
      rw [ezip]
      exact Stb.refl _) rfl
    show Srtd (lt2 ltv) (ks.toArray.zip vs.toArray).toList
    rw [ezip]
    rw [List.size_toArray] at h2
    have hl : (ks.zip vs).length < 2 := by rw [List.length_zip]; omega
    match (ks.zip vs), hl with
    | [], _ => exact List.Pairwise.nil
    | [v], _ => exact List.pairwise_singleton _ _
    | _ :: _ :: l, h => exact absurd h (by rw [List.length_cons, List.length_cons]; omega)
  · rw [if_neg h2, if_neg h2]
    rw [List.size_toArray] at h2
    obtain ⟨κ, hkind, hT⟩ := hS (by omega)
    refine wpAny_bind (hkind _ _ ?_)
    have hall : AllL (fun p : Keyed => p.1 ∈ ks) (ks.toArray.zip vs.toArray).toList := fun p hm => by
      rw [ezip] at hm
      exact (List.of_mem_zip (a := p.1) (b := p.2) hm).1
    refine wpAny_bind (wpAny_mono (wpS_sortO (st0 := SortSt.mk' κ (ks.toArray.zip vs.toArray) #[] 7 none)
      (Q := fun _ st' => Srtd (lt2 ltv) (arrOf st').toList ∧ Stb (lt2 ltv) (arrOf st').toList (ks.toArray.zip vs.toArray).toList ∧ failedOf st' = none) (swo2 O) hT rfl hall rfl rfl fun st' a1 a2 a3 => ⟨a1, a2, a3⟩) ?_ fun _ _ e => e)
    rintro ⟨⟨⟩, st'⟩ s' ⟨rfl, hp1, hp2, hf⟩
    try dsimp only
    rw [ezip] at hp2
    exact fin st' hp1 hp2 hf
end
end FpS
/-! # Keys that are pairs: an int, then an int or a list of ints -/
namespace FpS
/-- lists by the first place where they part -/
def lexI : List Int → List Int → Bool
  | [], [] => false
  | [], _ :: _ => true
  | _ :: _, [] => false
  | x :: xs, y :: ys => if x = y then lexI xs ys else decide (x < y)
theorem lexI_irr : ∀ l, lexI l l = false
  | [] => rfl
  | x :: l => by
    show (if x = x then lexI l l else decide (x < x)) = false
    rw [if_pos rfl]
    exact lexI_irr l
theorem lexI_asym : ∀ l m, lexI l m = true → lexI m l = false
  | [], [], h => rfl
  | [], _ :: _, h => rfl
  | _ :: _, [], h => by cases h
  | x :: l, y :: m, h => by
    have h' : (if x = y then lexI l m else decide (x < y)) = true := h
    show (if y = x then lexI m l else decide (y < x)) = false
    by_cases e : x = y
    · rw [if_pos e] at h'
      rw [if_pos e.symm]
      exact lexI_asym l m h'
    · rw [if_neg e, decide_eq_true_eq] at h'
      rw [if_neg (fun z => e z.symm), decide_eq_false_iff_not]
      omega
theorem lexI_tr : ∀ l m n, lexI m l = false → lexI n m = false → lexI n l = false
  | [], [], [], _, _ => rfl
  | [], [], _ :: _, _, h => by cases h; rfl
  | [], _ :: _, [], h, h2 => by cases h2
  | [], _ :: _, _ :: _, h, h2 => rfl
  | _ :: _, [], [], h, h2 => by cases h
  | _ :: _, [], _ :: _, h, h2 => by cases h
  | _ :: _, _ :: _, [], h, h2 => by cases h2
  | x :: l, y :: m, z :: n, h, h2 => by
    have h' : (if y = x then lexI m l else decide (y < x)) = false := h
    have h2' : (if z = y then lexI n m else decide (z < y)) = false := h2
    show (if z = x then lexI n l else decide (z < x)) = false
    by_cases e : y = x
    · rw [if_pos e] at h'
      by_cases e2 : z = y
      · rw [if_pos e2] at h2'
        rw [if_pos (e2.trans e)]
        exact lexI_tr l m n h' h2'
      · rw [if_neg e2, decide_eq_false_iff_not] at h2'
        rw [if_neg (by omega), decide_eq_false_iff_not]
        omega
    · rw [if_neg e, decide_eq_false_iff_not] at h'
      by_cases e2 : z = y
      · rw [if_neg (by omega), decide_eq_false_iff_not]
        omega
      · rw [if_neg e2, decide_eq_false_iff_not] at h2'
        rw [if_neg (by omega), decide_eq_false_iff_not]
        omega
/-- the second part of a key -/
abbrev KD := Int × (Int ⊕ List Int)
def lt2D : Int ⊕ List Int → Int ⊕ List Int → Bool
  | .inl i, .inl j => decide (i < j)
  | .inr l, .inr m => lexI l m
  | .inl _, .inr _ => true
  | .inr _, .inl _ => false
def ltD (p q : KD) : Bool := if p.1 = q.1 then lt2D p.2 q.2 else decide (p.1 < q.1)
theorem lt2D_asym : ∀ a b, lt2D a b = true → lt2D b a = false
  | .inl i, .inl j, h => by
    have h' : i < j := of_decide_eq_true h
    exact decide_eq_false (by omega)
  | .inr l, .inr m, h => lexI_asym l m h
  | .inl _, .inr _, _ => rfl
  | .inr _, .inl _, h => by cases h
theorem lt2D_tr : ∀ a b c, lt2D b a = false → lt2D c b = false → lt2D c a = false
  | .inl i, .inl j, .inl k, h, h2 => by
    have h' := of_decide_eq_false h
    have h2' := of_decide_eq_false h2
    exact decide_eq_false (by omega)
  | .inr l, .inr m, .inr n, h, h2 => lexI_tr l m n h h2
  | .inl _, .inl _, .inr _, _, _ => rfl
  | .inl _, .inr _, .inl _, _, h => by cases h
  | .inl _, .inr _, .inr _, _, _ => rfl
  | .inr _, .inl _, .inl _, h, _ => by cases h
  | .inr _, .inl _, .inr _, h, _ => by cases h
  | .inr _, .inr _, .inl _, _, h => by cases h
theorem ltD_asym (p q : KD) (h : ltD p q = true) : ltD q p = false := by
  unfold ltD at h ⊢
  by_cases e : p.1 = q.1
  · rw [if_pos e] at h
    rw [if_pos e.symm]
    exact lt2D_asym _ _ h
  · rw [if_neg e, decide_eq_true_eq] at h
    rw [if_neg (fun z => e z.symm), decide_eq_false_iff_not]
    omega
theorem ltD_tr (p q r : KD) (h : ltD q p = false) (h2 : ltD r q = false) : ltD r p = false := by
  unfold ltD at h h2 ⊢
  by_cases e : q.1 = p.1
  · rw [if_pos e] at h
    by_cases e2 : r.1 = q.1
    · rw [if_pos e2] at h2
      rw [if_pos (e2.trans e)]
      exact lt2D_tr _ _ _ h h2
    · rw [if_neg e2, decide_eq_false_iff_not] at h2
      rw [if_neg (by omega), decide_eq_false_iff_not]
      omega
  · rw [if_neg e, decide_eq_false_iff_not] at h
    by_cases e2 : r.1 = q.1
    · rw [if_neg (by omega), decide_eq_false_iff_not]
      omega
    · rw [if_neg e2, decide_eq_false_iff_not] at h2
      rw [if_neg (by omega), decide_eq_false_iff_not]
      omega
open PySem PyProof.Rows Srt SrtO
theorem swo_ltD {α : Type} (k : α → KD) : Swo fun v u => ltD (k v) (k u) := ⟨fun x y h => ltD_asym _ _ h, fun x y z h1 h2 => ltD_tr _ _ _ h1 h2⟩
theorem getD_cons_succ (x : Int) (l : List Int) (i : Nat) : (x :: l).getD (i + 1) 0 = l.getD i 0 := by simp
/-- the machine's way of telling lexI -/
theorem first_shift {e r : Nat → Bool} {z : Bool} : ∀ (js : List Nat), SeqAt.firstLt e r z (js.map (· + 1)) = SeqAt.firstLt (fun j => e (j + 1)) (fun j => r (j + 1)) z js
  | [] => rfl
  | j :: js => by
    show (if e (j + 1) = true then SeqAt.firstLt e r z (js.map (· + 1)) else r (j + 1)) = (if e (j + 1) = true then SeqAt.firstLt (fun j => e (j + 1)) (fun j => r (j + 1)) z js else r (j + 1))
    rw [first_shift js]
theorem first_lex : ∀ (l m : List Int), SeqAt.firstLt (fun j => decide (l.getD j 0 = m.getD j 0)) (fun j => decide (l.getD j 0 < m.getD j 0)) (decide (l.length < m.length)) (List.range (min l.length m.length)) = lexI l m
  | [], [] => by simp [SeqAt.firstLt, lexI]
  | [], y :: m => by simp [SeqAt.firstLt, lexI]
  | x :: l, [] => by simp [SeqAt.firstLt, lexI]
  | x :: l, y :: m => by
    have e1 : min (x :: l).length (y :: m).length = (min l.length m.length) + 1 := by
      rw [List.length_cons, List.length_cons]; omega
    rw [e1, List.range_succ_eq_map]
    show (if decide ((x :: l).getD 0 0 = (y :: m).getD 0 0) = true then SeqAt.firstLt _ _ _ ((List.range (min l.length m.length)).map Nat.succ) else decide ((x :: l).getD 0 0 < (y :: m).getD 0 0)) = (if x = y then lexI l m else decide (x < y))
    have e2 : (List.range (min l.length m.length)).map Nat.succ = (List.range (min l.length m.length)).map (· + 1) := rfl
    have e3 : decide ((x :: l).length < (y :: m).length) = decide (l.length < m.length) := by
      rw [List.length_cons, List.length_cons]
      by_cases h : l.length < m.length
      · rw [decide_eq_true h, decide_eq_true (by omega)]
      · rw [decide_eq_false h, decide_eq_false (by omega)]
    rw [e2, first_shift, e3]
    have e4 : (fun j => decide ((x :: l).getD (j + 1) 0 = (y :: m).getD (j + 1) 0)) = fun j => decide (l.getD j 0 = m.getD j 0) := by funext j; simp
    have e5 : (fun j => decide ((x :: l).getD (j + 1) 0 < (y :: m).getD (j + 1) 0)) = fun j => decide (l.getD j 0 < m.getD j 0) := by funext j; simp
    rw [e4, e5, first_lex l m]
    by_cases h : x = y
    · rw [if_pos h, if_pos (decide_eq_true (by simpa using h))]
    · rw [if_neg h, if_neg (by simpa using h)]
      simp
theorem all_eq : ∀ (l m : List Int), l.length = m.length → ((List.range l.length).all fun j => decide (l.getD j 0 = m.getD j 0)) = decide (l = m)
  | [], [], _ => rfl
  | [], _ :: _, h => by cases h
  | _ :: _, [], h => by cases h
  | x :: l, y :: m, h => by
    rw [List.length_cons, List.range_succ_eq_map, List.all_cons, List.all_map]
    have e4 : ((fun j => decide ((x :: l).getD j 0 = (y :: m).getD j 0)) ∘ Nat.succ) = fun j => decide (l.getD j 0 = m.getD j 0) := by funext j; simp
    rw [e4, all_eq l m (by simpa using h)]
    by_cases h1 : x = y
    · by_cases h2 : l = m
      · simp [h1, h2]
      · simp [h1, h2]
    · simp [h1]
/-- u is a tuple that is the key d; kind: whether its second is a list -/
def IsKey (h : Heap) (u : Value) (d : KD) : Prop := ∃ a o t v n, u = .ref a ∧ h.get? a = some o ∧ o.cls = .type "tuple" ∧ o.data = .seq #[.int d.1 t, v] n ∧
  match d.2 with
  | .inl j => ∃ t', v = .int j t'
  | .inr l => ∃ b its, v = .ref b ∧ h.IsList b (List.toArray its) ∧ IntsAre its l
def kindD (d : KD) : Bool := match d.2 with
  | .inl _ => false
  | .inr _ => true
section
variable {prog : Program} {w : World} {A : Around} {s : Shared}
theorem int_of {its : List Value} {l : List Int} (i1 : IntsAre its l) : ∀ j (h : j < its.toArray.size), ∃ t, its.toArray[j] = .int (l.getD j 0) t := fun j h1 => PyProof.Rows.IntsAre.int_at i1 _ _ (by simp at h1; simp [h1])
theorem list_eqAt {b b' : Addr} {its its' : List Value} {l m : List Int} (h1 : s.heap.IsList b its.toArray) (i1 : IntsAre its l) (h2 : s.heap.IsList b' its'.toArray) (i2 : IntsAre its' m) (hu : A.units < cLine) :
    SeqAt.EqAt A s (.ref b) (.ref b') (decide (l = m)) := by
  have e1 : its.toArray.size = l.length := by rw [List.size_toArray]; exact i1.length
  have e2 : its'.toArray.size = m.length := by rw [List.size_toArray]; exact i2.length
  by_cases hb : b = b'
  · subst hb
    have es : its = its' := by
      obtain ⟨o, q1, c1, n1, d1⟩ := h1
      obtain ⟨o', q2, c2, n2, d2⟩ := h2
      rw [q1] at q2
      cases q2
      rw [d1] at d2
      injection d2 with d3 _
      simpa using congrArg Array.toList d3
    subst es
    have el : l = m := by rw [← i1.nums, ← i2.nums]
    rw [decide_eq_true el]
    exact SeqAt.EqAt.same _
  · by_cases hlen : l.length = m.length
    · have R := SeqAt.RcAt.lists (A := A) (s := s) (e := fun j => decide (l.getD j 0 = m.getD j 0)) h1 h2 (by rw [e1, e2]; exact hlen) hu (fun j q1 q2 => by
        obtain ⟨t, et⟩ := int_of i1 j q1
        obtain ⟨t', et'⟩ := int_of i2 j q2
        rw [et, et']
        have z : (l.getD j 0 == m.getD j 0) = decide (l.getD j 0 = m.getD j 0) := by
          by_cases q : l.getD j 0 = m.getD j 0
          · rw [decide_eq_true q]; exact beq_iff_eq.mpr q
          · rw [decide_eq_false q]; exact beq_eq_false_iff_ne.mpr q
        rw [← z]
        exact SeqAt.EqAt.int_int _ _ _ _)
      rw [e1, all_eq l m hlen] at R
      exact SeqAt.EqAt.of_refs hb R
    · have R := SeqAt.RcAt.lists_lengths (A := A) (s := s) h1 h2 (by rw [e1, e2]; simpa using hlen) hu
      rw [decide_eq_false (fun z => hlen (congrArg List.length z))]
      exact SeqAt.EqAt.of_refs hb R
theorem list_ltAt {b b' : Addr} {its its' : List Value} {l m : List Int} (h1 : s.heap.IsList b its.toArray) (i1 : IntsAre its l) (h2 : s.heap.IsList b' its'.toArray) (i2 : IntsAre its' m) (hu : A.units < cLine) :
    SeqAt.RcLt A s (.ref b) (.ref b') (lexI l m) := by
  have e1 : its.toArray.size = l.length := by rw [List.size_toArray]; exact i1.length
  have e2 : its'.toArray.size = m.length := by rw [List.size_toArray]; exact i2.length
  have at1 := int_of i1
  have at2 := int_of i2
  have R := SeqAt.RcLt.lists (A := A) (s := s) (e := fun j => decide (l.getD j 0 = m.getD j 0)) (r := fun j => decide (l.getD j 0 < m.getD j 0)) h1 h2 hu (fun j q1 q2 => by
    obtain ⟨t, et⟩ := at1 j q1
    obtain ⟨t', et'⟩ := at2 j q2
    rw [et, et']
    have z : (l.getD j 0 == m.getD j 0) = decide (l.getD j 0 = m.getD j 0) := by
      by_cases q : l.getD j 0 = m.getD j 0
      · rw [decide_eq_true q]; exact beq_iff_eq.mpr q
      · rw [decide_eq_false q]; exact beq_eq_false_iff_ne.mpr q
    rw [← z]
    exact SeqAt.EqAt.int_int _ _ _ _) (fun j q1 q2 _ => by
    obtain ⟨t, et⟩ := at1 j q1
    obtain ⟨t', et'⟩ := at2 j q2
    rw [et, et']
    exact fun _ _ _ _ h => PyProof.Rows.lt_int h)
  rw [e1, e2, first_lex] at R
  exact R
theorem key_cmp {ks : List Value} {k : Value → KD} {b : Bool} (hp : ∀ v ∈ ks, IsKey s.heap v (k v) ∧ kindD (k v) = b) (hu : A.units < cLine) : Cmp prog w A s (tuples' true) (fun p => p.1 ∈ ks) (lt2 fun v u => ltD (k v) (k u)) := by
  intro p q hm hm'
  obtain ⟨h1, b1⟩ := hp _ hm
  obtain ⟨h2, b2⟩ := hp _ hm'
  show wpAny (model prog w) A (keyLt' (tuples' true) p.1 q.1) (fun r s' => s' = s ∧ r = ltD (k p.1) (k q.1)) (fun _ _ => False) s
  generalize k p.1 = d at h1 b1 ⊢
  generalize k q.1 = d' at h2 b2 ⊢
  obtain ⟨x, y⟩ := d
  obtain ⟨x', y'⟩ := d'
  obtain ⟨a, o, t, v, n, e, ho, hc, hd, hv⟩ := h1
  obtain ⟨a', o', t', v', n', e', ho', hc', hd', hv'⟩ := h2
  rw [e, e']
  refine PySem.W.kat_lt ho hd ho' hd' ?_
  show PySem.W.KatLex prog w A true (decide (2 < 2)) _ [(.int x t, .int x' t'), (v, v')] 0 s
  refine PySem.W.kat_cons (SeqAt.EqAt.int_int x t x' t' prog w _ _ ?_)
  refine PySem.W.kat_go (fun e1 => ?_) (fun e1 => ?_)
  · have ex : x = x' := by simpa using e1
    have e0 : ltD (x, y) (x', y') = lt2D y y' := if_pos ex
    rw [e0]
    cases y with
    | inl i =>
      cases y' with
      | inr _ => rw [← b2] at b1; cases b1
      | inl j =>
        obtain ⟨u, rfl⟩ := hv
        obtain ⟨u', rfl⟩ := hv'
        refine PySem.W.kat_yes (PySem.W.kat_cons (SeqAt.EqAt.int_int i u j u' prog w _ _ ?_))
        refine PySem.W.kat_go (fun e2 => ?_) (fun e2 => ?_)
        · have ey : i = j := by simpa using e2
          exact PySem.W.kat_yes (PySem.W.kat_nil ⟨rfl, (decide_eq_false (show ¬ i < j by omega)).symm⟩)
        · exact PySem.W.kat_no (PySem.W.kat_one _ _ (PyProof.Rows.lt_int (show s = s ∧ decide (i < j) = decide (i < j) from ⟨rfl, rfl⟩)))
    | inr l =>
      cases y' with
      | inl _ => rw [← b2] at b1; cases b1
      | inr m =>
        obtain ⟨c, its, rfl, k1, i1⟩ := hv
        obtain ⟨c', its', rfl, k2, i2⟩ := hv'
        refine PySem.W.kat_yes (PySem.W.kat_cons (list_eqAt k1 i1 k2 i2 hu prog w _ _ ?_))
        refine PySem.W.kat_go (fun e2 => ?_) (fun e2 => ?_)
        · have ey : l = m := by simpa using e2
          exact PySem.W.kat_yes (PySem.W.kat_nil ⟨rfl, by rw [ey]; exact (lexI_irr m).symm⟩)
        · exact PySem.W.kat_no (PySem.W.kat_one _ _ (list_ltAt k1 i1 k2 i2 hu prog w _ _ (show s = s ∧ lexI l m = lexI l m from ⟨rfl, rfl⟩)))
  · have ex : ¬ x = x' := by simpa using e1
    have e3 : ltD (x, y) (x', y') = decide (x < x') := if_neg ex
    exact PySem.W.kat_no (oneLt_int ⟨rfl, e3.symm⟩)
theorem key_firsts {h : Heap} {k : Value → KD} : ∀ {ks : List Value}, (∀ v ∈ ks, IsKey h v (k v)) → ∃ fs : List Value, PySem.W.KatTups h ks fs ∧ fs.length = ks.length ∧ ∀ f ∈ fs, ∃ x t, f = Value.int x t
  | [], _ => ⟨[], PySem.W.KatTups.nil, rfl, fun _ hm => by simp at hm⟩
  | v :: ks, hp => by
    obtain ⟨fs, h1, h2, h3⟩ := key_firsts (ks := ks) fun v' hm => hp v' (List.mem_cons_of_mem _ hm)
    obtain ⟨a, o, t, u, n, e, ho, hc, hd, _⟩ := hp v (List.mem_cons_self ..)
    subst e
    refine ⟨.int _ t :: fs, PySem.W.KatTups.cons ho hc hd rfl h1, by rw [List.length_cons, List.length_cons, h2], fun f hm => ?_⟩
    rcases List.mem_cons.mp hm with rfl | hm
    · exact ⟨_, t, rfl⟩
    · exact h3 f hm
theorem key_kind {ks : List Value} {k : Value → KD} {Q : SortKind → Shared → Prop} {E : Value → Shared → Prop} (h0 : 0 < ks.length) (hp : ∀ v ∈ ks, IsKey s.heap v (k v)) (hq : Q (tuples' true) s) :
    wpAny (model prog w) A (keyKind' ks.toArray) Q E s := by
  obtain ⟨fs, h1, h2, h3⟩ := key_firsts hp
  refine PySem.W.kat_kind (T := .type "int") h1 (by omega) (fun f hm => ?_) (by rfl) ?_
  · obtain ⟨x, t, rfl⟩ := h3 f hm
    exact PySem.W.Looks.now
  · have e : (Value.type "int" != Value.type "tuple") = true := by first | decide +kernel | rfl | decide
    rw [e]
    exact hq
end
end FpS
/-! # A lambda without captured names: made, called -/
namespace FpS
open PySem PySem.Spec PyProof.Rows L2
open LamX (CodeO Tabs TabS TabB)
structure Lam where
  params : Arguments
  body : Expr
  scope : Scope
  qual : Str
abbrev Lam.fd (L : Lam) (pm : Value) (c' : Addr) (ctv : Value) : FuncData := PySem.W.kla_fn "<lambda>" L.qual L.params L.body L.scope [] pm (.ref c') ctv
abbrev Lam.obj (L : Lam) (pm : Value) (c' : Addr) (ctv : Value) : Obj := PySem.W.kla_obj "<lambda>" L.qual L.params L.body L.scope [] pm c' ctv
/-- the object at f is the lambda L -/
def LamO (f : Addr) (L : Lam) (c' : Addr) : HO := .ext fun h => ∃ pm ctv, h.get? f = some (L.obj pm c' ctv)
theorem lamO_at {P : Program} {w : World} {H : Hp} {h : Heap} {f c' : Addr} {L : Lam} (hok : HOk P w H h) (e : H f = some (LamO f L c')) : ∃ pm ctv, h.get? f = some (L.obj pm c' ctv) := (hok f _ e).1
theorem codeO_rec {P : Program} {w : World} {H : Hp} {h : Heap} {c : Addr} {q : Str} (hok : HOk P w H h) (e : H c = some (CodeO c q)) : h.CodeRec (.ref c) q := by
  obtain ⟨oc, vs, t, e1, e2, e3⟩ := (hok c _ e).1
  exact ⟨c, oc, vs, t, rfl, e1, e2, e3⟩
section
variable {P : Program} {w : World} {K : PySem.W.Frag} {mg : Str → Option Value} {base : Heap}
/-- the lambda runs: its body is read at the parameters' values -/
theorem lam_run {k : Nat} {L : Lam} {f c' : Addr} {N ps : List Str} {A : Around} {outer : List Env} {s : Shared} {H : Hp} {us : List Value} {vs : List V} {Q : VK}
    (hf : H f = some (LamO f L c')) (hc : H c' = some (CodeO c' L.qual)) (S : FnScope N ps L.scope) (hb : ∀ pm ctv, bindArgs (L.fd pm c' ctv) ⟨us, []⟩ = pure (ps.zip us))
    (hl : vs.length = ps.length) (r : Vals vs us) (hr : Room (k + 1) A) (e0 : Env0 P w K mg base A outer s H)
    (hbody : ∃ t, PE (cxOf CX0 P w K mg base N L.qual L.scope f (.ref c') A outer s H E0).nox L.body t ∧ t (start N vs) H Q) :
    codeAny (model P w) A (.call (.ref f) ⟨us, []⟩) (fun r s' => ∃ u, r = .ok (.ret u) ∧ CE outer P w H s Q u s') s := by
  obtain ⟨pm, ctv, hfo⟩ := lamO_at e0.hok hf
  have lim : s.heap.NoLimit := e0.mod.nolimit.keeps fun b o e => (e0.bs b o e).1
  have hkind : ∀ y ∈ ps.zip us, L.scope.names.lookup y.1 = some .local ∨ (L.scope.names.lookup y.1 = some .cell ∧ ((cellsFrom (s.heap.objs.size + 1) L.scope.names []).lookup y.1).isSome = true) := fun ⟨n, v⟩ hy => by
    rcases S.par n (List.of_mem_zip hy).1 with q | q
    · exact .inl q
    · exact .inr ⟨q, PySem.W.cellsFrom_some _ _ _ (.inl q)⟩
  refine PySem.W.kla_callFunE (body := L.body) hr.depth hfo rfl S.co S.gen rfl (codeO_rec e0.hok hc) ?_
  rw [hb]
  refine wpAny_pure ?_
  refine wpAny_newFunctionEnv_cells S.kind hkind fun env he s1 x => ?_
  subst he
  refine ⟨lim.keeps x.toInCall.keep, ?_⟩
  obtain ⟨t, ht, hq⟩ := hbody
  have I : Inv (cxOf CX0 P w K mg base N L.qual L.scope f (.ref c') A outer s H E0) [] (start N vs) H s1 := inv_start S hr.hd e0 hl r x
  refine PySem.W.kla_codeExpr (wpAny_mono (ht.run [] s1 (start N vs) H Q (I.wish _) hq) (fun v s' hs => ?_) fun _ _ z => False.elim z)
  obtain ⟨v, H', J', rv, q⟩ := hs
  have J := J'.unwish
  exact ⟨_, rfl, v, H', J.os, J.bare, J.base, J.hok, rv, q⟩
end
section
variable {X : Cx} {Tb : List (Addr × Str)}
/-- lambda ..: a new function object at f, its code object at c' -/
def tLam (Tb : List (Addr × Str)) (L : Lam) : TE := fun _ H Q => Tabs Tb H ∧ ∀ f c' H1, Ex Tb H H1 → H f = none → H1 f = some (LamO f L c') → H1 c' = some (CodeO c' L.qual) → Q (.ref f) H1
theorem fn_tracked {pins : List (Addr × Obj)} {σ : L2.St} {H : Hp} {s : Shared} {L : Lam} {pm ctv : Value} {c' : Addr} {t' : Nat} (I : Inv X pins σ H s) :
    Inv X pins σ (upd H s.heap.objs.size (LamO s.heap.objs.size L c')) { s with heap := s.heap.push (L.obj pm c' ctv), toks := t' } :=
  I.laid (fun b o e => Heap.get?_push_of_some _ e) (Nat.le_refl _)
    ⟨⟨pm, ctv, Heap.get?_push_size _ rfl⟩, ⟨_, Heap.get?_push_size _ rfl⟩, fun _ _ ⟨pm, ctv, e⟩ st => ⟨pm, ctv, st _ e⟩⟩
theorem pe_lam {c T : Addr} {L : Lam} {params : Arguments} {body : Expr} {scope : Scope} {pos : Pos} (TB : TabB X.base X.mg c T) (hcode : X.env.code = .ref c)
    (hm : (T, L.qual) ∈ Tb) (hu : ∀ p ∈ Tb, p.1 = T → p.2 = L.qual) (hq : X.env.qual ++ "<lambda>" = L.qual) (hL : L = ⟨params, body, scope, L.qual⟩)
    (hdef : defaultsOf params X.env = ([], [])) (hfree : closureFor scope X.env = pure []) : PE X (.Lambda params body scope pos) (tLam Tb L) := by
  refine ⟨fun pins s σ H Q I h => ?_⟩
  obtain ⟨hT, h⟩ := h
  obtain ⟨ps, hP, ht, ha⟩ := hT _ hm
  refine PySem.W.kla_eval hdef ?_
  rw [hq]
  have bP : s.heap.BuiltinsAt X.mg T := TB.bm.keeps I.bk
  have hP' : s.heap.get? T = some { cls := .none, data := .fields ps } := I.hok T _ hP
  -- the end: the function's object is laid over a heap with a good code object
  have fin : ∀ {H1 : Hp} {h' : Heap} {tk : Nat} {pm ctv : Value} {c' : Addr}, Inv X pins σ H1 { s with heap := h', toks := tk } → Ex Tb H H1 → H1 c' = some (CodeO c' L.qual) →
      EP X pins σ Q (.ref h'.objs.size) { s with heap := h'.push (PySem.W.kla_obj "<lambda>" L.qual params body scope [] pm c' ctv), toks := tk } := fun {H1 h' tk pm ctv c'} I1 e hc => by
    have n1 : H1 h'.objs.size = none := I1.hok.fresh (Nat.le_refl _)
    have I2 := fn_tracked (L := L) (pm := pm) (ctv := ctv) (c' := c') (t' := tk) I1
    have eL : L.obj pm c' ctv = PySem.W.kla_obj "<lambda>" L.qual params body scope [] pm c' ctv := by rw [hL]
    rw [eL] at I2
    refine ⟨.ref h'.objs.size, _, I2, rfl, h _ _ _ (e.trans (Ex.new n1)) (e.thr _ n1) upd_same ?_⟩
    rw [upd_ne (ne_of_none hc n1)]
    exact hc
  cases hc : codeAmong pos ps.toList with
  | none =>
    refine PySem.W.kla_makeFunction (mg := X.mg) (c := c) (P := T) (ps := ps) hfree I.ok.glob (I.mod.glob.keeps I.bk) hcode (TB.code.keeps I.bk) hP' ht hc TB.gP bP fun c' ctv h' tk hx hge hlt hrec htb => ?_
    obtain ⟨c2, oc, vs, t, e2, hoc, hd, hv⟩ := hrec
    cases e2
    have nC : H c' = none := I.hok.fresh hge
    have I1 := LamX.inv_table (t' := tk) (more := #[rawInt pos.line, rawInt pos.col, .ref c']) (h' := h') I hP hx htb hge ⟨oc, vs, t, hoc, hd, hv⟩
    have nT : T ≠ c' := ne_of_none hP nC
    have old : ∀ b o, H b = some o → (∀ ps, o ≠ .tbl ps) → upd (upd H T (.tbl (ps ++ #[rawInt pos.line, rawInt pos.col, .ref c']))) c' (CodeO c' L.qual) b = some o := fun b o e n => by
      have nb : b ≠ T := fun z => by
        rw [z, hP] at e
        exact n ps (Option.some.inj e).symm
      rw [upd_ne (ne_of_none e nC), upd_ne nb]
      exact e
    refine fin I1 ⟨old, fun tt x hx2 => ?_, fun b e => ?_⟩ upd_same
    · by_cases hb : x.1 = T
      · rw [hu x hx2 hb, hb]
        have eL : (ps ++ #[rawInt pos.line, rawInt pos.col, .ref c']).toList = ps.toList ++ [rawInt pos.line, rawInt pos.col, .ref c'] := by simp
        refine ⟨_, by rw [upd_ne nT, upd_same], by rw [eL]; exact PySem.TriplesOk_snoc _ _ _ _ ht, fun p' cv hcv => ?_⟩
        rw [eL] at hcv
        rcases LamX.among_app _ ht hcv with z | z
        · obtain ⟨c0, q1, q2⟩ := ha p' cv z
          exact ⟨c0, q1, old _ _ q2 codeO_ntab⟩
        · exact ⟨c', z, upd_same⟩
      · obtain ⟨ps', a1, a2, a3⟩ := tt x hx2
        refine ⟨ps', by rw [upd_ne (ne_of_none a1 nC), upd_ne hb]; exact a1, a2, fun p' cv hcv => ?_⟩
        obtain ⟨c0, q1, q2⟩ := a3 p' cv hcv
        exact ⟨c0, q1, old _ _ q2 codeO_ntab⟩
    · by_cases hb : b = c'
      · rw [hb]; exact nC
      · rw [upd_ne hb] at e
        by_cases hb2 : b = T
        · rw [hb2, upd_same] at e
          cases e
        · rw [upd_ne hb2] at e
          exact e
  | some cv =>
    obtain ⟨c', e, hco⟩ := ha pos cv hc
    subst e
    refine PySem.W.kla_makeFunctionHit (mg := X.mg) (c := c) (P := T) (ps := ps) hfree I.ok.glob (I.mod.glob.keeps I.bk) hcode (TB.code.keeps I.bk) hP' ht hc bP fun ctv h' tk hx hsz => ?_
    exact fin (I.kept (t' := tk) hx) (Ex.refl H) hco
end
end FpS
/-! # sorted(xs, key=lambda x: ..), the keys pairs -/
namespace FpS
open PySem PySem.Spec PyProof.Rows L2
open LamX (CodeO Tabs TabS TabB)
section
variable {X : Cx} {pins : List (Addr × Obj)} {σ : L2.St} {H : Hp} {s : Shared}
/-- an untracked object of ours is tracked from now on -/
theorem adopt {D : Addr} {o : HO} (I : Inv X pins σ H s) (hD : FpOk X pins H D) (new : ObjOk X.prog X.w (upd H D o) s.heap D o) : Inv X pins σ (upd H D o) s := by
  obtain ⟨f0, f1, f2, f3, f4, f5⟩ := hD
  have nt : ∀ b u, H b = some u → b ≠ D := fun b u e => ne_of_none e f0
  refine ⟨I.ok, I.os, I.bare, ⟨I.base.keep, I.base.slot, fun b ob e n hx => ?_, I.base.there, fun b xs e => ?_, fun b ob u e => ?_, fun b ps e => ?_⟩, I.loc, I.cell, ?_, fun x c e => ?_, fun p hp => ?_, fun b u e => ?_, I.len⟩
  · have nb : b ≠ D := fun z => by
      rcases f3 with q | q
      · exact hx (by rw [z]; exact q)
      · rw [z] at e
        exact absurd (Nat.lt_of_lt_of_le (Heap.lt_size e) q) (Nat.lt_irrefl _)
    rw [upd_ne nb]
    exact I.base.free b ob e n hx
  · have q := I.base.tups b xs e
    rw [upd_ne (nt _ _ q)]
    exact q
  · have q := I.base.frzs b ob u e
    rw [upd_ne (nt _ _ q)]
    exact q
  · obtain ⟨more, q⟩ := I.base.tbls b ps e
    exact ⟨more, by rw [upd_ne (nt _ _ q)]; exact q⟩
  · rw [upd_ne (Ne.symm f1)]
    exact I.free
  · rw [upd_ne (f4 x c e)]
    exact I.freeC x c e
  · obtain ⟨q1, q2, q3, q4, q5⟩ := I.pin p hp
    exact ⟨q1, by rw [upd_ne (f5 p hp)]; exact q2, q3, q4, q5⟩
  · by_cases hb : b = D
    · subst hb
      rw [upd_same] at e
      cases e
      exact new
    · rw [upd_ne hb] at e
      exact (I.hok b u e).stay (fun _ _ _ q => q) (fun c q => by rw [upd_ne (nt _ _ q)]; exact q) fun c xs q => by rw [upd_ne (nt _ _ q)]; exact q
/-- two untracked objects of ours have changed -/
theorem turned2 {h' : Heap} {t' : Nat} {i1 i2 : Addr} (I : Inv X pins σ H s) (g1 : FpOk X pins H i1) (g2 : FpOk X pins H i2) (k : ∀ b o, b ≠ i1 → b ≠ i2 → s.heap.get? b = some o → h'.get? b = some o) : Inv X pins σ H { s with heap := h', toks := t' } := by
  have nit : ∀ b u, H b = some u → b ≠ i1 ∧ b ≠ i2 := fun b u e => ⟨ne_of_none e g1.1, ne_of_none e g2.1⟩
  have hch : ∀ b ∈ [i1, i2], FpOk X pins H b := fun b hb => by
    rcases List.mem_cons.mp hb with e | hb
    · rw [e]; exact g1
    · rw [List.mem_singleton.mp hb]; exact g2
  have out : ∀ b, b ∉ [i1, i2] → b ≠ i1 ∧ b ≠ i2 := fun b hb => ⟨fun e => hb (by rw [e]; exact List.mem_cons_self), fun e => hb (by rw [e]; simp)⟩
  refine I.step (g' := s.gens) (d' := s.drawn) (ch := [i1, i2]) (fun b hb => ?_) (fun b o _ _ hc e _ => k b o (out b hc).1 (out b hc).2 e) (fun b o _ _ hc e _ => ⟨o.slots, k b o (out b hc).1 (out b hc).2 e⟩) (fun _ _ _ _ n => n)
    (fun b o hc e => ⟨o, k b o (out b hc).1 (out b hc).2 e⟩) (fun _ _ e => e) (fun _ _ _ e => e) (fun b ps e => ⟨#[], by rw [e]; simp⟩) (fun m hm => ?_) (fun b u e => ?_) I.bare
  · obtain ⟨_, q1, _, q3, q4, q5⟩ := hch b hb
    exact ⟨q3, q1, q4, q5⟩
  · obtain ⟨o, es, ep, ho, r⟩ := hm
    exact ⟨o, es, ep, k _ o (Ne.symm g1.2.1) (Ne.symm g2.2.1) ho, r⟩
  · refine (I.hok b u e).stay (fun c v hc q => ?_) (fun _ q => q) fun _ _ q => q
    rcases hc with z | z
    · rw [z] at q ⊢
      exact k b v (nit b u e).1 (nit b u e).2 q
    · exact k c v (nit c _ z).1 (nit c _ z).2 q
theorem fp_at {H' : Hp} {b : Addr} (f : FpOk X pins H b) (h : H' b = none) : FpOk X pins H' b := ⟨h, f.2⟩
end
/-- k is the key d, by what is tracked -/
def KeyV (H : Hp) (k : V) (d : KD) : Prop := ∃ t y, k = .ref t ∧ H t = some (.tup [.int d.1, y]) ∧ match d.2 with
  | .inl j => y = .int j
  | .inr l => ∃ b, y = .ref b ∧ H b = some (.lst (l.map V.int))
theorem KeyV.ex {Tb : List (Addr × Str)} {H H' : Hp} {k : V} {d : KD} (e : Ex Tb H H') (h : KeyV H k d) : KeyV H' k d := by
  obtain ⟨t, y, e1, e2, e3⟩ := h
  refine ⟨t, y, e1, e.tup e2, ?_⟩
  obtain ⟨x, z⟩ := d
  cases z with
  | inl j => exact e3
  | inr l =>
    obtain ⟨b, e4, e5⟩ := e3
    exact ⟨b, e4, e.lst e5⟩
theorem KeyV.is {P : Program} {w : World} {H : Hp} {h : Heap} {k : V} {u : Value} {d : KD} (ok : HOk P w H h) (r : RelV k u) (e : KeyV H k d) : IsKey h u d := by
  obtain ⟨t, y, rfl, e2, e3⟩ := e
  obtain rfl : u = Value.ref t := r
  obtain ⟨_, its, rv, o, ho, hc, n, hd⟩ := ok t _ e2
  obtain ⟨u1, u2, rfl, r1, r2⟩ := vals2 rv
  obtain ⟨t1, rfl⟩ := r1
  refine ⟨t, o, t1, u2, n, rfl, ho, hc, hd, ?_⟩
  obtain ⟨x, z⟩ := d
  cases z with
  | inl j =>
    obtain rfl : y = .int j := e3
    exact r2
  | inr l =>
    obtain ⟨b, rfl, e5⟩ := e3
    obtain rfl : u2 = Value.ref b := r2
    obtain ⟨_, its, n, rv, q⟩ := ok b _ e5
    exact ⟨b, its, rfl, ⟨_, q, rfl, n, rfl⟩, Vals.ints rv⟩
theorem IsKey.uniq {h : Heap} {u : Value} {d d' : KD} (a : IsKey h u d) (b : IsKey h u d') : d = d' := by
  obtain ⟨a1, o, t, v, n, rfl, ho, hc, hd, hv⟩ := a
  obtain ⟨a2, o', t', v', n', e, ho', hc', hd', hv'⟩ := b
  cases e
  rw [ho] at ho'
  cases ho'
  rw [hd] at hd'
  injection hd' with h1 _
  have h2 : [Value.int d.1 t, v] = [Value.int d'.1 t', v'] := by simpa using congrArg Array.toList h1
  injection h2 with h3 h4
  injection h3 with h5 _
  injection h4 with h6 _
  subst h6
  obtain ⟨x, z⟩ := d
  obtain ⟨x', z'⟩ := d'
  have ex : x = x' := h5
  subst ex
  cases z with
  | inl i =>
    cases z' with
    | inl j =>
      obtain ⟨_, e1⟩ := hv
      obtain ⟨_, e2⟩ := hv'
      rw [e1] at e2
      cases e2
      rfl
    | inr l =>
      obtain ⟨_, e1⟩ := hv
      obtain ⟨_, _, e2, _⟩ := hv'
      rw [e1] at e2
      cases e2
  | inr l =>
    cases z' with
    | inl j =>
      obtain ⟨_, _, e2, _⟩ := hv
      obtain ⟨_, e1⟩ := hv'
      rw [e1] at e2
      cases e2
    | inr m =>
      obtain ⟨b, its, e1, ⟨o1, q1, _, n1, d1⟩, i1⟩ := hv
      obtain ⟨b', its', e2, ⟨o2, q2, _, n2, d2⟩, i2⟩ := hv'
      rw [e1] at e2
      cases e2
      rw [q1] at q2
      cases q2
      rw [d1] at d2
      injection d2 with d3 _
      have es : its = its' := by simpa using congrArg Array.toList d3
      subst es
      have el : l = m := by rw [← i1.nums, ← i2.nums]
      rw [el]
open Classical in
noncomputable def keyOf (h : Heap) (u : Value) : KD := if hx : ∃ d, IsKey h u d then hx.choose else (0, .inl 0)
theorem keyOf_eq {h : Heap} {u : Value} {d : KD} (a : IsKey h u d) : keyOf h u = d := by
  have hx : ∃ d, IsKey h u d := ⟨d, a⟩
  unfold keyOf
  rw [dif_pos hx]
  exact IsKey.uniq hx.choose_spec a
theorem paired_app {α β : Type} {F : α → β → Prop} : ∀ {l₁ : List α} {l₂ : List β} {m₁ : List α} {m₂ : List β}, Paired F l₁ l₂ → Paired F m₁ m₂ → Paired F (l₁ ++ m₁) (l₂ ++ m₂)
  | _, _, _, _, .nil, h => h
  | _, _, _, _, .cons r t, h => .cons r (paired_app t h)
theorem vals_take_more {xs : List V} {its : List Value} {j : Nat} {u : Value} (r : Vals xs its) (h : its[j]? = some u) : ∃ x, xs[j]? = some x ∧ RelV x u := by
  induction r generalizing j with
  | nil => simp at h
  | cons a t ih =>
    cases j with
    | zero =>
      simp at h
      subst h
      exact ⟨_, rfl, a⟩
    | succ j => exact ih h
theorem list_take_more {α : Type} {l : List α} {j : Nat} {x : α} (h : l[j]? = some x) : l.take (j + 1) = l.take j ++ [x] := by
  rw [List.take_add_one, h]
  rfl
theorem keys_are {P : Program} {w : World} {H : Hp} {h : Heap} {kd : V → KD} (ok : HOk P w H h) : ∀ {kvs : List V} {ks : List Value} {xs : List V}, Vals kvs ks → Paired (fun kv x => KeyV H kv (kd x)) kvs xs → Paired (fun u x => IsKey h u (kd x)) ks xs
  | _, _, _, .nil, .nil => .nil
  | _, _, _, .cons r t, .cons k p => .cons (k.is ok r) (keys_are ok t p)
theorem paired_back {F : Value → V → Prop} : ∀ {ks its : List Value}, Paired F ks (its.map backV) → Paired (fun u v => F u (backV v)) ks its
  | [], [], _ => .nil
  | _ :: _, [], h => by cases h
  | [], _ :: _, h => by cases h
  | _ :: _, _ :: _, .cons r t => .cons r (paired_back t)
theorem paired_left {α β : Type} {F : α → β → Prop} : ∀ {l : List α} {m : List β} {u : α}, Paired F l m → u ∈ l → ∃ x, x ∈ m ∧ F u x
  | _, _, _, .nil, h => by cases h
  | _, _, _, .cons r t, h => by
    rcases List.mem_cons.mp h with e | h
    · subst e
      exact ⟨_, List.mem_cons_self, r⟩
    · obtain ⟨x, h1, h2⟩ := paired_left t h
      exact ⟨x, List.mem_cons_of_mem _ h1, h2⟩
theorem paired_zip {α β : Type} {F : α → β → Prop} : ∀ {l : List α} {m : List β} {p : α × β}, Paired F l m → p ∈ l.zip m → F p.1 p.2
  | _, _, _, .nil, h => by simp at h
  | _, _, _, .cons r t, h => by
    rw [List.zip_cons_cons] at h
    rcases List.mem_cons.mp h with e | h
    · subst e
      exact r
    · exact paired_zip t h
theorem vals_back : ∀ {l : List Value}, (∀ u ∈ l, ∃ a, u = Value.ref a) → Vals (l.map backV) l
  | [], _ => .nil
  | u :: l, h => by
    obtain ⟨a, rfl⟩ := h u List.mem_cons_self
    exact .cons rfl (vals_back fun v hv => h v (List.mem_cons_of_mem _ hv))
/-- sorted(a, key=f) -/
def rSortL (K : PySem.W.Frag) (Tb : List (Addr × Str)) (TT : V → Hp → VK → Prop) (L : Lam) : List V → List V → Hp → VK → Prop := fun vs zs H Q =>
  ∃ (a f c' : Addr) (xs : List V) (kd : V → KD) (b : Bool), vs = [.ref a] ∧ zs = [.ref f] ∧ H f = some (LamO f L c') ∧ H c' = some (CodeO c' L.qual) ∧ SqL K H a xs ∧ (∀ x ∈ xs, ∃ t, x = .ref t) ∧ (∀ x ∈ xs, kindD (kd x) = b) ∧
    (∀ x ∈ xs, ∀ H2, Ex Tb H H2 → ∀ Q' : VK, (∀ k H3, Ex Tb H2 H3 → KeyV H3 k (kd x) → Q' k H3) → TT x H2 Q') ∧
    ∀ out p H3, Ex Tb H H3 → H3 p = none → out.Perm xs → out.Pairwise (fun x y => ltD (kd y) (kd x) = false) → Q (.ref p) (upd H3 p (.lst out))
section
variable {X : Cx} {Tb : List (Addr × Str)}
theorem cr_sortedLam {k : Nat} {L : Lam} {N : List Str} {x : Str} {tb : TE} (hr : Room (k + 3) X.A) (S : FnScope N [x] L.scope)
    (hb : ∀ pm c' ctv us, us.length = 1 → bindArgs (L.fd pm c' ctv) ⟨us, []⟩ = pure ([x].zip us))
    (hbody : ∀ (A : Around) (outer : List Env) (s : Shared) (H : Hp) (f c' : Addr), PE (cxOf CX0 X.prog X.w X.K X.mg X.base N L.qual L.scope f (.ref c') A outer s H E0).nox L.body tb) :
    CallRK X (.builtin "sorted") [Str.ofString "key"] (rSortL X.K Tb (fun v H Q => tb (start N [v]) H Q) L) := by
  intro pins s σ H vs zs us ws Q I r rz h
  obtain ⟨a, f, c', xs, kd, b, rfl, rfl, hf, hc, hs, hrefs, hkind, hbk, q⟩ := h
  obtain rfl := Vals.ref1 r
  obtain rfl := Vals.ref1 rz
  obtain ⟨its, rv, hl, hz⟩ := I.list hs
  have hzi : its.length ≤ sizeLine := by rw [← rv.length]; exact hz
  show wpAny (model X.prog X.w) X.A (call (.builtin "sorted") [.ref a] [(Str.ofString "key", .ref f)]) _ _ _
  refine call_function_entry_kw kind_sorted plain_sorted entry_sorted (ksk_s1 _ _) ?_
  unfold Builtin.«sorted»
  refine wpAny_bind (m := checkCount "sorted" 1 1 _) (wpAny_pure ?_)
  refine wpAny_bind (collect_list hl.isList ?_ hzi)
  refine wpAny_bind (wpAny_newList ?_ hzi)
  generalize hh1 : (s.heap.push (seqObj "list" #[] 0)).update s.heap.objs.size (Obj.mapSeq (· ++ its.toArray)) = h1
  have hsz : h1.objs.size = s.heap.objs.size + 1 := by rw [← hh1, Heap.size_update, size_push']
  have keep1 : ∀ b o, s.heap.get? b = some o → h1.get? b = some o := fun b o e => by
    have hlt : b < s.heap.objs.size := Heap.lt_size e
    rw [← hh1, Heap.get?_update_ne _ _ _ _ (Nat.ne_of_lt hlt)]
    exact Heap.get?_push_of_some _ e
  show wpAny _ _ _ _ _ { s with heap := h1.push (seqObj "list" its.toArray 0) }
  have hoL : (h1.push (seqObj "list" its.toArray 0)).get? h1.objs.size = some (seqObj "list" its.toArray 0) := Heap.get?_push_size _ rfl
  refine wpAny_bind (wpAny_holding (wpAny_call_entry_kw slot_list_sort ⟨_, hoL, rfl⟩ entry_list_sort ?body (ksk_l1 _ _)))
  show wpAny (model X.prog X.w) X.A.in1.in1 (Builtin.«list.sort» ⟨[.ref h1.objs.size], [(Str.ofString "key", .ref f)]⟩) _ _ _
  rw [ksk_t1]
  generalize hD : h1.objs.size = D
  rw [hD] at hoL hsz
  have hDs : s.heap.objs.size ≤ D := by omega
  unfold ksk_tree
  refine wpAny_bind (listItems_at hoL rfl ?_)
  refine wpAny_bind (listUpdate_at hoL rfl ?_ (by rw [List.size_toArray]; exact hzi) (Nat.zero_le _))
  obtain ⟨e1, ho1⟩ : ∃ e1, ((h1.push (seqObj "list" its.toArray 0)).update D (Obj.mapSeq fun _ => (#[] : Array Value))).get? D = some (seqObj "list" #[] e1) := ⟨_, get?_update_seq hoL fun _ => #[]⟩
  refine wpAny_bind (seqEpoch_at ho1 rfl ?_)
  generalize hh2 : (h1.push (seqObj "list" its.toArray 0)).update D (Obj.mapSeq fun _ => (#[] : Array Value)) = h2 at ho1
  have keep2 : ∀ b o, s.heap.get? b = some o → h2.get? b = some o := fun b o e => by
    rw [← hh2, Heap.get?_update_ne _ _ _ _ (Nat.ne_of_lt (Nat.lt_of_lt_of_le (Heap.lt_size e) hDs))]
    exact Heap.get?_push_of_some _ (keep1 b o e)
  have hsz2 : h2.objs.size = D + 1 := by rw [← hh2, Heap.size_update, size_push', hD]
  refine wpAny_bind (wpAny_newTuple ?_ (by show its.length ≤ _; exact hzi))
  refine wpAny_bind (wpAny_newList ?_ (Nat.zero_le _))
  refine wpAny_holding ?_
  show wpAny (model X.prog X.w) X.A.in1.in1 (ksk_rest D (.ref f) false its.toArray e1 (.ref (h2.push (seqObj "tuple" its.toArray 0)).objs.size)) _ _ { s with heap := (h2.push (seqObj "tuple" its.toArray 0)).push (seqObj "list" #[] 0) }
  have hoK : ((h2.push (seqObj "tuple" its.toArray 0)).push (seqObj "list" #[] 0)).get? (h2.push (seqObj "tuple" its.toArray 0)).objs.size = some (seqObj "list" #[] 0) := Heap.get?_push_size _ rfl
  generalize hkS : (h2.push (seqObj "tuple" its.toArray 0)).objs.size = kS at hoK
  have hkD : kS ≠ D := by
    rw [size_push', hsz2] at hkS
    omega
  have hkSs : s.heap.objs.size ≤ kS := by
    rw [size_push', hsz2] at hkS
    omega
  generalize hh3 : (h2.push (seqObj "tuple" its.toArray 0)).push (seqObj "list" #[] 0) = h3 at hoK
  have keep3 : ∀ b o, s.heap.get? b = some o → h3.get? b = some o := fun b o e => by
    rw [← hh3]
    exact Heap.get?_push_of_some _ (Heap.get?_push_of_some _ (keep2 b o e))
  have hoD : h3.get? D = some (seqObj "list" #[] e1) := by
    rw [← hh3]
    exact Heap.get?_push_of_some _ (Heap.get?_push_of_some _ ho1)
  have I3 : Inv X pins σ H { s with heap := h3 } := I.kept (t' := s.toks) keep3
  have gD : FpOk X pins H D := I.fpOk hDs (I.hok.fresh hDs)
  have gK : FpOk X pins H kS := I.fpOk hkSs (I.hok.fresh hkSs)
  unfold ksk_rest
  refine wpAny_bind (wpAny_rule ?_)
  first
    | rw [List.forIn_toArray]
    | (rw [← Array.forIn_toList]; simp only [List.toList_toArray])
    | rw [← Array.forIn_toList]
  refine wpAny_bind (ksk_fold (fun j s' => ∃ H' ks kvs e, Inv X pins σ H' s' ∧ Ex Tb H H' ∧ H' D = none ∧ H' kS = none ∧ s'.heap.get? D = some (seqObj "list" #[] e1) ∧ s'.heap.get? kS = some (seqObj "list" (List.toArray ks) e) ∧ Vals kvs ks ∧ Paired (fun kv x => KeyV H' kv (kd x)) kvs (xs.take j)) its 0 { s with heap := h3 }
    ⟨H, [], [], 0, I3, Ex.refl H, gD.1, gK.1, hoD, hoK, .nil, by rw [List.take_zero]; exact .nil⟩ ?step ?done)
  case step =>
    rintro j u s' hj ⟨H', ks, kvs, e, I', ex, nD, nK, oD, oK, rk, pk⟩
    simp only [Nat.zero_add] at pk ⊢
    obtain ⟨xv, hxv, rx⟩ := vals_take_more rv hj
    have hjl : j < xs.length := (List.getElem?_eq_some_iff.mp hxv).1
    have hmem : xv ∈ xs := List.mem_of_getElem? hxv
    have gD' := fp_at gD nD
    have gK' := fp_at gK nK
    have Ip : Inv X ((D, seqObj "list" #[] e1) :: (kS, seqObj "list" (List.toArray ks) e) :: pins) σ H' s' := I'.pins_of fun p hp => by
      rcases List.mem_cons.mp hp with z | hp
      · rw [z]
        exact ⟨oD, nD, gD'.2.1, gD'.2.2.1, fun v q => by cases q⟩
      · rcases List.mem_cons.mp hp with z | hp
        · rw [z]
          exact ⟨oK, nK, gK'.2.1, gK'.2.2.1, fun v q => by cases q⟩
        · exact I'.pin p (List.mem_append_right _ hp)
    have hroom : Room (k + 1) X.A.in1.in1 := hr.in1.in1
    have hrun := lam_run (k := k) (Q := fun kv H3 => Ex Tb H' H3 ∧ KeyV H3 kv (kd xv)) (us := [u]) (vs := [xv]) (ex.ext hf) (ex.ext hc) S (fun pm ctv => hb pm c' ctv [u] rfl) rfl (.cons rx .nil) hroom Ip.env0.in1.in1
      ⟨tb, hbody _ _ _ _ _ _, hbk xv hmem H' ex _ fun kv H3 ex3 kk => ⟨ex3, kk⟩⟩
    refine wpAny_bind (wpAny_attempt (wpAny_call (codeAny_mono hrun fun r s2 hh => ?_)))
    obtain ⟨u2, rfl, hce⟩ := hh
    obtain ⟨kv, H2, I2, r2, ex2, kk⟩ := Ip.after hce
    show wpAny _ _ _ _ _ _
    try dsimp only
    have pD := I2.pin (D, seqObj "list" #[] e1) (List.mem_append_right _ (.head _))
    have pK := I2.pin (kS, seqObj "list" (List.toArray ks) e) (List.mem_append_right _ (.tail _ (.head _)))
    have I2' : Inv X pins σ H2 s2 := I2.pins_of fun p hp => I2.pin p (List.mem_append_right _ (.tail _ (.tail _ hp)))
    have s1 := Heap.SameBut.update s2.heap kS (Obj.mapSeq (·.push u2))
    obtain ⟨c2, hc2⟩ : ∃ c2, (s2.heap.update kS (Obj.mapSeq (·.push u2))).get? kS = some (seqObj "list" ((List.toArray ks).push u2) c2) := ⟨_, get?_update_seq pK.1 (·.push u2)⟩
    have ek : ((List.toArray ks).push u2) = List.toArray (ks ++ [u2]) := by simp
    have hkl : ks.length = j := by
      rw [← rk.length, pk.length, List.length_take]
      omega
    have hks : ks.length + 1 ≤ sizeLine := by omega
    refine wpAny_bind (listUpdate_at pK.1 rfl ?_ (by rw [List.size_toArray]; omega) (by rw [Array.size_push, List.size_toArray]; omega))
    obtain ⟨g0, g1, g2, g3, g4, g5⟩ := fp_at gK pK.2.1
    refine wpAny_pure ⟨rfl, H2, ks ++ [u2], kvs ++ [kv], c2, I2'.turned (t' := s2.toks) (fun b o hb e => (s1.2 b hb).trans e) g0 g1 g3 g4 g5, ex.trans ex2, pD.2.1, pK.2.1, (s1.2 D hkD.symm).trans pD.1, by rw [← ek]; exact hc2, rk.append (.cons r2 .nil), ?_⟩
    rw [list_take_more hxv]
    exact paired_app (Paired.mapP pk fun a b h => h.ex ex2) (.cons kk .nil)
  case done =>
    rintro s' ⟨H', ks, kvs, e, I', ex, nD, nK, oD, oK, rk, pk⟩
    have hxt : xs.take (0 + its.length) = xs := List.take_of_length_le (by rw [rv.length]; omega)
    rw [hxt] at pk
    have hkl : ks.length = its.length := by rw [← rk.length, pk.length, rv.length]
    try dsimp only
    refine wpAny_bind (listItems_at oK rfl ?_)
    -- the keys by the heap
    have hkey := keys_are I'.hok rk pk
    obtain ⟨ex1, ex2⟩ := refs_back rv hrefs
    have hkey2 : Paired (fun u v => IsKey s'.heap u (kd (backV v))) ks its := paired_back (by rw [← ex1]; exact hkey)
    have hp : ∀ v ∈ ks, IsKey s'.heap v (keyOf s'.heap v) ∧ kindD (keyOf s'.heap v) = b := fun v hv => by
      obtain ⟨x, hx, hk⟩ := paired_left hkey hv
      rw [keyOf_eq hk]
      exact ⟨hk, hkind x hx⟩
    refine sort_end (ltv := fun v u => ltD (keyOf s'.heap v) (keyOf s'.heap u)) oK oD hkD hkl hzi (swo_ltD _) (fun h2 => ⟨_, fun Q E hq => key_kind (by omega) (fun v hv => (hp v hv).1) hq, key_cmp hp (by have := hr.in1.in1.units0; exact this)⟩) fun st h' tk c h1 h2 h3 h4 h5 => ?_
    refine ⟨_, rfl, wpAny_pure ⟨_, rfl, ?_⟩⟩
    have gD2 := fp_at gD nD
    have gK2 := fp_at gK nK
    have I4 : Inv X pins σ H' { s' with heap := h', toks := tk } := turned2 I' gD2 gK2 h3
    have hrel : ∀ p ∈ st, keyOf s'.heap p.1 = kd (backV p.2) ∧ ∃ t, p.2 = Value.ref t := fun p hm => by
      have hm' := h2.perm.mem_iff.mp hm
      exact ⟨keyOf_eq (paired_zip hkey2 hm'), ex2 _ (List.of_mem_zip (a := p.1) (b := p.2) hm').2⟩
    have hmapz : (ks.zip its).map (·.2) = its := List.map_snd_zip (by omega)
    have hperm : ((st.map (·.2)).map backV).Perm xs := by
      rw [ex1]
      have z := (h2.perm.map (·.2)).map backV
      rw [hmapz] at z
      exact z
    have hpw : ((st.map (·.2)).map backV).Pairwise (fun x y => ltD (kd y) (kd x) = false) := by
      rw [List.map_map, List.pairwise_map]
      refine List.Pairwise.imp_of_mem (fun {p q} hp1 hq1 hlt => ?_) h1
      have e1 := (hrel p hp1).1
      have e2 := (hrel q hq1).1
      have hlt' : ltD (keyOf s'.heap q.1) (keyOf s'.heap p.1) = false := hlt
      rw [e1, e2] at hlt'
      exact hlt'
    have hv : Vals ((st.map (·.2)).map backV) (st.map (·.2)) := vals_back fun u hu => by
      obtain ⟨p, hp1, rfl⟩ := List.mem_map.mp hu
      exact (hrel p hp1).2
    have hlen : ((st.map (·.2)).map backV).length ≤ sizeLine := by
      rw [hperm.length_eq]
      exact hz
    exact ⟨.ref D, upd H' D (.lst ((st.map (·.2)).map backV)), adopt I4 gD2 ⟨hlen, _, c, hv, h4⟩, rfl, q _ _ _ ex nD hperm hpw⟩
end
end FpS
/-! # max(xs, default=d), min(xs, default=d) (printed by gen_minmax.py) -/
namespace FpS
open PySem PyProof.Rows
/-- a built-in function called with keywords; it may go on as another one -/
theorem call_on_kw {prog : Program} {w : World} {A : Around} {E : Value → Shared → Prop} {s : Shared} {id : String} {b : Builtin} {args : List Value} {kw : List (Str × Value)} {Q : Value → Shared → Prop} (hk : builtinKind id = none) (hp : plainId id = true)
    (hb : entryFor table id = some b) (ha : argsOk id ⟨args, kw⟩)
    (hc : wpAny (model prog w) A.in1 (b ⟨args, kw⟩) (fun fin s' => match fin with
      | .done f => (match (Except.ok f : Result) with | .ok (.ret v) => Q v s' | .ok _ => False | .error e => E e s')
      | .again c' => c'.quiet = true ∧ codeAny (model prog w) A c' (fun r s' => match r with | .ok (.ret v) => Q v s' | .ok _ => False | .error e => E e s') s') E s) :
    wpAny (model prog w) A (call (.builtin id) args kw) Q E s := by
  refine wpAny_call (codeAny_call_builtin hp hb ?_)
  cases hsig : Manifest.signature? id with
  | none =>
    simp only [checkBuiltinCall, hk, hsig]
    exact wpAny_pure hc
  | some sig =>
    have ok : Bind.checkArgs id sig ⟨args, kw⟩ = pure () := by simpa only [argsOk, hsig] using ha
    simp only [checkBuiltinCall, hk, hsig, ok]
    exact wpAny_pure hc

section
variable {prog : Program} {w : World} {A : Around} {R : Result → Shared → Prop} {I : Addr} {fp wr : List Addr} {n : Nat} {P : Nat → Value → Prop} {St : Nat → Heap → Prop}
/-- max's loop from its second item on, with keywords kw -/
theorem max_on {kw : List (Str × Value)} (W : Walks prog w A.in1 I fp wr n P St) (bt : Nat → Nat → Bool) (hcmp : CmpOf prog w A.in1 .Gt P bt) (S : Addr) (hSf : S ∉ fp) :
    ∀ (k j : Nat) (s : Shared) (vb : Value) (c : Nat), n - (j + 1) = k → j + 1 ≤ n → St (j + 1) s.heap → P (argBest bt j) vb → s.heap.get? S = some (seqObj "list" #[vb, vb] c) →
      (∀ v h' tk, P (argBest bt (n - 1)) v → (∀ b o, b ∉ wr → b ≠ S → s.heap.get? b = some o → h'.get? b = some o) → R (.ok (.ret v)) { s with heap := h', toks := tk }) →
      codeAny (model prog w) A (.builtin "max.loop" ⟨[.ref I, .none, .ref S], kw⟩) R s := by
  have nw : S ∉ wr := fun h => hSf (W.sub _ h)
  have hn : (toString "max" ++ toString ".loop" : String) = "max.loop" := by decide
  intro k
  induction k with
  | zero =>
    intro j s vb c hk hj hst hPb hS hR
    have hin : j + 1 = n := by omega
    refine codeAny_builtin F.entry_max_loop ?_
    rw [Around.under_plainId F.plain_max_loop _]
    refine wpAny_bind (m := seqItems? (.ref S)) (wpAny_seqItems hS rfl ?_)
    show wpAny _ _ (tryCatch (pyNext (.ref I)) _ >>= _) _ _ s
    refine wpAny_bind (wpAny_tryCatch (W.done s _ _ (hin ▸ hst) fun h' tk keep => ?_))
    have hS' := keep S _ nw hS
    refine wpAny_bind (m := updateSeq S fun _ => #[]) (wpAny_updateSeq hS' rfl (wpAny_bind (wpAny_letGo (wpAny_pure ?_))))
    refine hR vb _ tk (by rw [← hin]; exact hPb) fun b o h1 h2 e => ?_
    rw [Heap.get?_update_other _ _ (Ne.symm h2)]
    exact keep b o h1 e
  | succ k ih =>
    intro j s vb c hk hj hst hPb hS hR
    have hlt : j + 1 < n := by omega
    refine codeAny_builtin F.entry_max_loop ?_
    rw [Around.under_plainId F.plain_max_loop _]
    refine wpAny_bind (m := seqItems? (.ref S)) (wpAny_seqItems hS rfl ?_)
    show wpAny _ _ (tryCatch (pyNext (.ref I)) _ >>= _) _ _ s
    refine wpAny_bind (wpAny_tryCatch (W.item (j + 1) s _ _ hlt hst fun v h' tk hP hst' keep => ?_))
    have hS' := keep S _ nw hS
    show wpAny _ _ (tryCatch (holding [v, v] (richCompare .Gt v vb >>= _)) _ >>= _) _ _ _
    refine wpAny_bind (wpAny_tryCatch (wpAny_holding (wpAny_bind (hcmp (j + 1) (argBest bt j) v vb _ _ _ hP hPb ?_))))
    refine wpAny_bind (wpAny_holding (wpAny_truthy_bool ?_))
    refine wpAny_bind (wpAny_letGo (wpAny_pure ?_))
    cases hb : bt (j + 1) (argBest bt j) with
    | true =>
      have ea : argBest bt (j + 1) = j + 1 := by
        show (if bt (j + 1) (argBest bt j) = true then j + 1 else argBest bt j) = j + 1
        rw [if_pos hb]
      simp only [if_true]
      refine wpAny_bind ?_
      refine wpAny_updateSeq hS' rfl (wpAny_bind (wpAny_letGo ?_))
      rw [hn]
      refine wpAny_pure ⟨plainId_quiet F.plain_max_loop _, ih (j + 1) _ v _ (by omega) hlt (W.frame _ _ _ hst' fun b hbf o e => ?_) (by rw [ea]; exact hP) (Heap.get?_update_self _ hS' rfl) fun v2 h2 tk2 hP2 keep2 => ?_⟩
      · rw [Heap.get?_update_other _ _ fun z : S = b => hSf (by rw [z]; exact hbf)]
        exact e
      · refine hR v2 h2 tk2 hP2 fun b o h3 h4 e => keep2 b o h3 h4 ?_
        rw [Heap.get?_update_other _ _ (Ne.symm h4)]
        exact keep b o h3 e
    | false =>
      have ea : argBest bt (j + 1) = argBest bt j := by
        show (if bt (j + 1) (argBest bt j) = true then j + 1 else argBest bt j) = argBest bt j
        rw [if_neg (by rw [hb]; exact Bool.false_ne_true)]
      simp only [Bool.false_eq_true, if_false]
      refine wpAny_bind (wpAny_letGo ?_)
      rw [hn]
      refine wpAny_pure ⟨plainId_quiet F.plain_max_loop _, ih (j + 1) _ vb c (by omega) hlt hst' (by rw [ea]; exact hPb) hS' fun v2 h2 tk2 hP2 keep2 => ?_⟩
      exact hR v2 h2 tk2 hP2 fun b o h3 h4 e => keep2 b o h3 h4 (keep b o h3 e)
/-- from its first item on -/
theorem max_first {kw : List (Str × Value)} (W : Walks prog w A.in1 I fp wr n P St) (bt : Nat → Nat → Bool) (hcmp : CmpOf prog w A.in1 .Gt P bt) (S : Addr) (hSf : S ∉ fp) (hn0 : 0 < n) {s : Shared} {c : Nat} (hst : St 0 s.heap) (hS : s.heap.get? S = some (seqObj "list" #[] c))
    (hR : ∀ v h' tk, P (argBest bt (n - 1)) v → (∀ b o, b ∉ wr → b ≠ S → s.heap.get? b = some o → h'.get? b = some o) → R (.ok (.ret v)) { s with heap := h', toks := tk }) :
    codeAny (model prog w) A (.builtin "max.loop" ⟨[.ref I, .none, .ref S], kw⟩) R s := by
  have nw : S ∉ wr := fun h => hSf (W.sub _ h)
  have hn : (toString "max" ++ toString ".loop" : String) = "max.loop" := by decide
  refine codeAny_builtin F.entry_max_loop ?_
  rw [Around.under_plainId F.plain_max_loop _]
  refine wpAny_bind (m := seqItems? (.ref S)) (wpAny_seqItems hS rfl ?_)
  show wpAny _ _ (tryCatch (pyNext (.ref I)) _ >>= _) _ _ s
  refine wpAny_bind (wpAny_tryCatch (W.item 0 s _ _ hn0 hst fun v h' tk hP hst' keep => ?_))
  have hS' := keep S _ nw hS
  refine wpAny_bind (m := updateSeq S fun _ => #[v, v]) (wpAny_updateSeq hS' rfl ?_)
  rw [hn]
  refine wpAny_pure ⟨plainId_quiet F.plain_max_loop _, max_on W bt hcmp S hSf _ 0 _ v _ rfl hn0 (W.frame _ _ _ hst' fun b hbf o e => ?_) hP (Heap.get?_update_self _ hS' rfl) fun v2 h2 tk2 hP2 keep2 => ?_⟩
  · rw [Heap.get?_update_other _ _ fun z : S = b => hSf (by rw [z]; exact hbf)]
    exact e
  · refine hR v2 h2 tk2 hP2 fun b o h3 h4 e => keep2 b o h3 h4 ?_
    rw [Heap.get?_update_other _ _ (Ne.symm h4)]
    exact keep b o h3 e
/-- of nothing: the default -/
theorem max_none {d : Value} {k : Str} (W : Walks prog w A.in1 I fp wr 0 P St) (S : Addr) {s : Shared} {c : Nat} (hst : St 0 s.heap) (hS : s.heap.get? S = some (seqObj "list" #[] c))
    (hR : ∀ h' tk, (∀ b o, b ∉ wr → s.heap.get? b = some o → h'.get? b = some o) → R (.ok (.ret d)) { s with heap := h', toks := tk }) :
    codeAny (model prog w) A (.builtin "max.loop" ⟨[.ref I, .none, .ref S], [(k, d)]⟩) R s := by
  refine codeAny_builtin F.entry_max_loop ?_
  rw [Around.under_plainId F.plain_max_loop _]
  refine wpAny_bind (m := seqItems? (.ref S)) (wpAny_seqItems hS rfl ?_)
  show wpAny _ _ (tryCatch (pyNext (.ref I)) _ >>= _) _ _ s
  refine wpAny_bind (wpAny_tryCatch (W.done s _ _ hst fun h' tk keep => ?_))
  exact wpAny_bind (wpAny_rule (wpAny_pure (hR h' tk keep)))
end
section
variable {prog : Program} {w : World} {A : Around} {E : Value → Shared → Prop} {s : Shared}
theorem args_max_dflt (a d : Value) : argsOk "max" ⟨[a], [(Str.ofString "default", d)]⟩ := by unfold argsOk; kernel_rfl
theorem max_call {x d : Value} {Q : Value → Shared → Prop}
    (h : wpAny (model prog w) A.in1 (pyIter x) (fun it s₂ => ∃ I fp wr n P St bt, it = .ref I ∧ Walks prog w A.in1 I fp wr n P St ∧ St 0 s₂.heap ∧ (∀ b ∈ fp, b < s₂.heap.objs.size) ∧ CmpOf prog w A.in1 .Gt P bt ∧
      (0 < n → ∀ v h' tk, P (argBest bt (n - 1)) v → (∀ b o, b ∉ wr → s₂.heap.get? b = some o → h'.get? b = some o) → Q v { s₂ with heap := h', toks := tk }) ∧
      (n = 0 → ∀ h' tk, (∀ b o, b ∉ wr → s₂.heap.get? b = some o → h'.get? b = some o) → Q d { s₂ with heap := h', toks := tk })) E s) :
    wpAny (model prog w) A (call (.builtin "max") [x] [(Str.ofString "default", d)]) Q E s := by
  have hn : (toString "max" ++ toString ".loop" : String) = "max.loop" := by decide
  refine call_on_kw F.kind_max F.plain_max F.entry_max (args_max_dflt _ _) ?_
  show wpAny _ A.in1 (Builtin.Builtins.bindParams "max" ["key", "default"] 0 ⟨[], [(Str.ofString "default", d)]⟩ >>= _) _ _ s
  refine wpAny_bind (wpAny_of_eq (show Builtin.Builtins.bindParams "max" ["key", "default"] 0 ⟨[], [(Str.ofString "default", d)]⟩ = pure [none, some d] from by first | rfl | kernel_rfl) ?_)
  refine wpAny_bind (wpAny_pure ?_)
  refine wpAny_bind (wpAny_mono h (fun it s₂ h₂ => ?_) fun _ _ e => e)
  obtain ⟨I, fp, wr, n, P, St, bt, rfl, W, hst, hfp, hcmp, hQ, hQ0⟩ := h₂
  refine wpAny_bind (wpAny_newObj_type ?_)
  have hSf : s₂.heap.objs.size ∉ fp := fun hm => Nat.lt_irrefl _ (hfp _ hm)
  rw [hn]
  have st' := W.frame _ _ (s₂.heap.push { cls := .type "list", data := .seq #[] }) hst fun b _ o e => Heap.get?_push_of_some _ e
  cases n with
  | zero => exact wpAny_pure ⟨plainId_quiet F.plain_max_loop _, max_none W s₂.heap.objs.size st' (Heap.get?_push_size _ rfl) fun h' tk keep => hQ0 rfl h' tk fun b o hb e => keep b o hb (Heap.get?_push_of_some _ e)⟩
  | succ n => exact wpAny_pure ⟨plainId_quiet F.plain_max_loop _, max_first W bt hcmp s₂.heap.objs.size hSf (Nat.succ_pos n) st' (Heap.get?_push_size _ rfl) fun v h' tk hP keep => hQ (Nat.succ_pos n) v h' tk hP fun b o hb e => keep b o hb (Nat.ne_of_lt (Heap.lt_size e)) (Heap.get?_push_of_some _ e)⟩
theorem max_ints {l : Addr} {its : List Value} {ns : List Int} {d : Value} {Q : Value → Shared → Prop} (hh : A.handled = none) (hl : s.heap.IsList l its.toArray) (hi : IntsAre its ns)
    (h : ∀ h' tk m t, (∀ b o, s.heap.get? b = some o → h'.get? b = some o) → m ∈ ns → (∀ a, a ∈ ns → a ≤ m) → Q (.int m t) { s with heap := h', toks := tk })
    (h0 : ns = [] → ∀ h' tk, (∀ b o, s.heap.get? b = some o → h'.get? b = some o) → Q d { s with heap := h', toks := tk }) :
    wpAny (model prog w) A (call (.builtin "max") [.ref l] [(Str.ofString "default", d)]) Q E s := by
  obtain ⟨xs, e⟩ := hi.allInts.items
  have hn : numsOf (intItems xs).toList = ns := by rw [← e]; exact hi.numsOf
  rw [nums_intItems] at hn
  subst hn
  rw [e] at hl
  refine max_call (iter_intList hl fun s₂ e2 st hfp hlI => ?_)
  subst e2
  refine ⟨_, _, _, _, _, _, _, rfl, Walks.list (A := A.in1) hh _ l hlI (intItems xs), st, hfp, CmpOf.ints_gt (numAt xs) (fun _ _ => intItems_at), fun hn0 v h' tk hP hk => ?_, fun hn0 h' tk hk => ?_⟩
  · have hsz : 0 < xs.size := by simpa [intItems] using hn0
    have hP' : (intItems xs)[argBest (fun i j => decide (numAt xs i > numAt xs j)) (xs.size - 1)]? = some v := by simpa [intItems] using hP
    obtain ⟨t, rfl⟩ := intItems_at hP'
    obtain ⟨h1, h2⟩ := argBest_gt (numAt xs) (xs.size - 1)
    refine h h' tk _ t (old_kept hk) ?_ fun a ha => ?_
    · rw [numAt_eq]; exact PySem.getD_mem (by rw [List.length_map, Array.length_toList]; omega)
    · obtain ⟨j, hj, rfl⟩ := mem_getD ha
      rw [List.length_map, Array.length_toList] at hj
      rw [← numAt_eq]; exact h2 j (by omega)
  · have hsz : xs.size = 0 := by simpa [intItems] using hn0
    refine h0 ?_ h' tk (old_kept hk)
    have : xs = #[] := Array.eq_empty_of_size_eq_zero hsz
    subst this
    rfl
end

section
variable {prog : Program} {w : World} {A : Around} {R : Result → Shared → Prop} {I : Addr} {fp wr : List Addr} {n : Nat} {P : Nat → Value → Prop} {St : Nat → Heap → Prop}
/-- min's loop from its second item on, with keywords kw -/
theorem min_on {kw : List (Str × Value)} (W : Walks prog w A.in1 I fp wr n P St) (bt : Nat → Nat → Bool) (hcmp : CmpOf prog w A.in1 .Lt P bt) (S : Addr) (hSf : S ∉ fp) :
    ∀ (k j : Nat) (s : Shared) (vb : Value) (c : Nat), n - (j + 1) = k → j + 1 ≤ n → St (j + 1) s.heap → P (argBest bt j) vb → s.heap.get? S = some (seqObj "list" #[vb, vb] c) →
      (∀ v h' tk, P (argBest bt (n - 1)) v → (∀ b o, b ∉ wr → b ≠ S → s.heap.get? b = some o → h'.get? b = some o) → R (.ok (.ret v)) { s with heap := h', toks := tk }) →
      codeAny (model prog w) A (.builtin "min.loop" ⟨[.ref I, .none, .ref S], kw⟩) R s := by
  have nw : S ∉ wr := fun h => hSf (W.sub _ h)
  have hn : (toString "min" ++ toString ".loop" : String) = "min.loop" := by decide
  intro k
  induction k with
  | zero =>
    intro j s vb c hk hj hst hPb hS hR
    have hin : j + 1 = n := by omega
    refine codeAny_builtin F.entry_min_loop ?_
    rw [Around.under_plainId F.plain_min_loop _]
    refine wpAny_bind (m := seqItems? (.ref S)) (wpAny_seqItems hS rfl ?_)
    show wpAny _ _ (tryCatch (pyNext (.ref I)) _ >>= _) _ _ s
    refine wpAny_bind (wpAny_tryCatch (W.done s _ _ (hin ▸ hst) fun h' tk keep => ?_))
    have hS' := keep S _ nw hS
    refine wpAny_bind (m := updateSeq S fun _ => #[]) (wpAny_updateSeq hS' rfl (wpAny_bind (wpAny_letGo (wpAny_pure ?_))))
    refine hR vb _ tk (by rw [← hin]; exact hPb) fun b o h1 h2 e => ?_
    rw [Heap.get?_update_other _ _ (Ne.symm h2)]
    exact keep b o h1 e
  | succ k ih =>
    intro j s vb c hk hj hst hPb hS hR
    have hlt : j + 1 < n := by omega
    refine codeAny_builtin F.entry_min_loop ?_
    rw [Around.under_plainId F.plain_min_loop _]
    refine wpAny_bind (m := seqItems? (.ref S)) (wpAny_seqItems hS rfl ?_)
    show wpAny _ _ (tryCatch (pyNext (.ref I)) _ >>= _) _ _ s
    refine wpAny_bind (wpAny_tryCatch (W.item (j + 1) s _ _ hlt hst fun v h' tk hP hst' keep => ?_))
    have hS' := keep S _ nw hS
    show wpAny _ _ (tryCatch (holding [v, v] (richCompare .Lt v vb >>= _)) _ >>= _) _ _ _
    refine wpAny_bind (wpAny_tryCatch (wpAny_holding (wpAny_bind (hcmp (j + 1) (argBest bt j) v vb _ _ _ hP hPb ?_))))
    refine wpAny_bind (wpAny_holding (wpAny_truthy_bool ?_))
    refine wpAny_bind (wpAny_letGo (wpAny_pure ?_))
    cases hb : bt (j + 1) (argBest bt j) with
    | true =>
      have ea : argBest bt (j + 1) = j + 1 := by
        show (if bt (j + 1) (argBest bt j) = true then j + 1 else argBest bt j) = j + 1
        rw [if_pos hb]
      simp only [if_true]
      refine wpAny_bind ?_
      refine wpAny_updateSeq hS' rfl (wpAny_bind (wpAny_letGo ?_))
      rw [hn]
      refine wpAny_pure ⟨plainId_quiet F.plain_min_loop _, ih (j + 1) _ v _ (by omega) hlt (W.frame _ _ _ hst' fun b hbf o e => ?_) (by rw [ea]; exact hP) (Heap.get?_update_self _ hS' rfl) fun v2 h2 tk2 hP2 keep2 => ?_⟩
      · rw [Heap.get?_update_other _ _ fun z : S = b => hSf (by rw [z]; exact hbf)]
        exact e
      · refine hR v2 h2 tk2 hP2 fun b o h3 h4 e => keep2 b o h3 h4 ?_
        rw [Heap.get?_update_other _ _ (Ne.symm h4)]
        exact keep b o h3 e
    | false =>
      have ea : argBest bt (j + 1) = argBest bt j := by
        show (if bt (j + 1) (argBest bt j) = true then j + 1 else argBest bt j) = argBest bt j
        rw [if_neg (by rw [hb]; exact Bool.false_ne_true)]
      simp only [Bool.false_eq_true, if_false]
      refine wpAny_bind (wpAny_letGo ?_)
      rw [hn]
      refine wpAny_pure ⟨plainId_quiet F.plain_min_loop _, ih (j + 1) _ vb c (by omega) hlt hst' (by rw [ea]; exact hPb) hS' fun v2 h2 tk2 hP2 keep2 => ?_⟩
      exact hR v2 h2 tk2 hP2 fun b o h3 h4 e => keep2 b o h3 h4 (keep b o h3 e)
/-- from its first item on -/
theorem min_first {kw : List (Str × Value)} (W : Walks prog w A.in1 I fp wr n P St) (bt : Nat → Nat → Bool) (hcmp : CmpOf prog w A.in1 .Lt P bt) (S : Addr) (hSf : S ∉ fp) (hn0 : 0 < n) {s : Shared} {c : Nat} (hst : St 0 s.heap) (hS : s.heap.get? S = some (seqObj "list" #[] c))
    (hR : ∀ v h' tk, P (argBest bt (n - 1)) v → (∀ b o, b ∉ wr → b ≠ S → s.heap.get? b = some o → h'.get? b = some o) → R (.ok (.ret v)) { s with heap := h', toks := tk }) :
    codeAny (model prog w) A (.builtin "min.loop" ⟨[.ref I, .none, .ref S], kw⟩) R s := by
  have nw : S ∉ wr := fun h => hSf (W.sub _ h)
  have hn : (toString "min" ++ toString ".loop" : String) = "min.loop" := by decide
  refine codeAny_builtin F.entry_min_loop ?_
  rw [Around.under_plainId F.plain_min_loop _]
  refine wpAny_bind (m := seqItems? (.ref S)) (wpAny_seqItems hS rfl ?_)
  show wpAny _ _ (tryCatch (pyNext (.ref I)) _ >>= _) _ _ s
  refine wpAny_bind (wpAny_tryCatch (W.item 0 s _ _ hn0 hst fun v h' tk hP hst' keep => ?_))
  have hS' := keep S _ nw hS
  refine wpAny_bind (m := updateSeq S fun _ => #[v, v]) (wpAny_updateSeq hS' rfl ?_)
  rw [hn]
  refine wpAny_pure ⟨plainId_quiet F.plain_min_loop _, min_on W bt hcmp S hSf _ 0 _ v _ rfl hn0 (W.frame _ _ _ hst' fun b hbf o e => ?_) hP (Heap.get?_update_self _ hS' rfl) fun v2 h2 tk2 hP2 keep2 => ?_⟩
  · rw [Heap.get?_update_other _ _ fun z : S = b => hSf (by rw [z]; exact hbf)]
    exact e
  · refine hR v2 h2 tk2 hP2 fun b o h3 h4 e => keep2 b o h3 h4 ?_
    rw [Heap.get?_update_other _ _ (Ne.symm h4)]
    exact keep b o h3 e
/-- of nothing: the default -/
theorem min_none {d : Value} {k : Str} (W : Walks prog w A.in1 I fp wr 0 P St) (S : Addr) {s : Shared} {c : Nat} (hst : St 0 s.heap) (hS : s.heap.get? S = some (seqObj "list" #[] c))
    (hR : ∀ h' tk, (∀ b o, b ∉ wr → s.heap.get? b = some o → h'.get? b = some o) → R (.ok (.ret d)) { s with heap := h', toks := tk }) :
    codeAny (model prog w) A (.builtin "min.loop" ⟨[.ref I, .none, .ref S], [(k, d)]⟩) R s := by
  refine codeAny_builtin F.entry_min_loop ?_
  rw [Around.under_plainId F.plain_min_loop _]
  refine wpAny_bind (m := seqItems? (.ref S)) (wpAny_seqItems hS rfl ?_)
  show wpAny _ _ (tryCatch (pyNext (.ref I)) _ >>= _) _ _ s
  refine wpAny_bind (wpAny_tryCatch (W.done s _ _ hst fun h' tk keep => ?_))
  exact wpAny_bind (wpAny_rule (wpAny_pure (hR h' tk keep)))
end
section
variable {prog : Program} {w : World} {A : Around} {E : Value → Shared → Prop} {s : Shared}
theorem args_min_dflt (a d : Value) : argsOk "min" ⟨[a], [(Str.ofString "default", d)]⟩ := by unfold argsOk; kernel_rfl
theorem min_call {x d : Value} {Q : Value → Shared → Prop}
    (h : wpAny (model prog w) A.in1 (pyIter x) (fun it s₂ => ∃ I fp wr n P St bt, it = .ref I ∧ Walks prog w A.in1 I fp wr n P St ∧ St 0 s₂.heap ∧ (∀ b ∈ fp, b < s₂.heap.objs.size) ∧ CmpOf prog w A.in1 .Lt P bt ∧
      (0 < n → ∀ v h' tk, P (argBest bt (n - 1)) v → (∀ b o, b ∉ wr → s₂.heap.get? b = some o → h'.get? b = some o) → Q v { s₂ with heap := h', toks := tk }) ∧
      (n = 0 → ∀ h' tk, (∀ b o, b ∉ wr → s₂.heap.get? b = some o → h'.get? b = some o) → Q d { s₂ with heap := h', toks := tk })) E s) :
    wpAny (model prog w) A (call (.builtin "min") [x] [(Str.ofString "default", d)]) Q E s := by
  have hn : (toString "min" ++ toString ".loop" : String) = "min.loop" := by decide
  refine call_on_kw F.kind_min F.plain_min F.entry_min (args_min_dflt _ _) ?_
  show wpAny _ A.in1 (Builtin.Builtins.bindParams "min" ["key", "default"] 0 ⟨[], [(Str.ofString "default", d)]⟩ >>= _) _ _ s
  refine wpAny_bind (wpAny_of_eq (show Builtin.Builtins.bindParams "min" ["key", "default"] 0 ⟨[], [(Str.ofString "default", d)]⟩ = pure [none, some d] from by first | rfl | kernel_rfl) ?_)
  refine wpAny_bind (wpAny_pure ?_)
  refine wpAny_bind (wpAny_mono h (fun it s₂ h₂ => ?_) fun _ _ e => e)
  obtain ⟨I, fp, wr, n, P, St, bt, rfl, W, hst, hfp, hcmp, hQ, hQ0⟩ := h₂
  refine wpAny_bind (wpAny_newObj_type ?_)
  have hSf : s₂.heap.objs.size ∉ fp := fun hm => Nat.lt_irrefl _ (hfp _ hm)
  rw [hn]
  have st' := W.frame _ _ (s₂.heap.push { cls := .type "list", data := .seq #[] }) hst fun b _ o e => Heap.get?_push_of_some _ e
  cases n with
  | zero => exact wpAny_pure ⟨plainId_quiet F.plain_min_loop _, min_none W s₂.heap.objs.size st' (Heap.get?_push_size _ rfl) fun h' tk keep => hQ0 rfl h' tk fun b o hb e => keep b o hb (Heap.get?_push_of_some _ e)⟩
  | succ n => exact wpAny_pure ⟨plainId_quiet F.plain_min_loop _, min_first W bt hcmp s₂.heap.objs.size hSf (Nat.succ_pos n) st' (Heap.get?_push_size _ rfl) fun v h' tk hP keep => hQ (Nat.succ_pos n) v h' tk hP fun b o hb e => keep b o hb (Nat.ne_of_lt (Heap.lt_size e)) (Heap.get?_push_of_some _ e)⟩
theorem min_ints {l : Addr} {its : List Value} {ns : List Int} {d : Value} {Q : Value → Shared → Prop} (hh : A.handled = none) (hl : s.heap.IsList l its.toArray) (hi : IntsAre its ns)
    (h : ∀ h' tk m t, (∀ b o, s.heap.get? b = some o → h'.get? b = some o) → m ∈ ns → (∀ a, a ∈ ns → m ≤ a) → Q (.int m t) { s with heap := h', toks := tk })
    (h0 : ns = [] → ∀ h' tk, (∀ b o, s.heap.get? b = some o → h'.get? b = some o) → Q d { s with heap := h', toks := tk }) :
    wpAny (model prog w) A (call (.builtin "min") [.ref l] [(Str.ofString "default", d)]) Q E s := by
  obtain ⟨xs, e⟩ := hi.allInts.items
  have hn : numsOf (intItems xs).toList = ns := by rw [← e]; exact hi.numsOf
  rw [nums_intItems] at hn
  subst hn
  rw [e] at hl
  refine min_call (iter_intList hl fun s₂ e2 st hfp hlI => ?_)
  subst e2
  refine ⟨_, _, _, _, _, _, _, rfl, Walks.list (A := A.in1) hh _ l hlI (intItems xs), st, hfp, CmpOf.ints_lt (numAt xs) (fun _ _ => intItems_at), fun hn0 v h' tk hP hk => ?_, fun hn0 h' tk hk => ?_⟩
  · have hsz : 0 < xs.size := by simpa [intItems] using hn0
    have hP' : (intItems xs)[argBest (fun i j => decide (numAt xs i < numAt xs j)) (xs.size - 1)]? = some v := by simpa [intItems] using hP
    obtain ⟨t, rfl⟩ := intItems_at hP'
    obtain ⟨h1, h2⟩ := argBest_lt (numAt xs) (xs.size - 1)
    refine h h' tk _ t (old_kept hk) ?_ fun a ha => ?_
    · rw [numAt_eq]; exact PySem.getD_mem (by rw [List.length_map, Array.length_toList]; omega)
    · obtain ⟨j, hj, rfl⟩ := mem_getD ha
      rw [List.length_map, Array.length_toList] at hj
      rw [← numAt_eq]; exact h2 j (by omega)
  · have hsz : xs.size = 0 := by simpa [intItems] using hn0
    refine h0 ?_ h' tk (old_kept hk)
    have : xs = #[] := Array.eq_empty_of_size_eq_zero hsz
    subst this
    rfl
end

end FpS
namespace FpS
open PySem PySem.Spec PyProof.Rows L2
section
variable {X : Cx}
/-- max(xs, default=d): d where xs is empty -/
def rMaxD (K : PySem.W.Frag) : List V → List V → Hp → VK → Prop := fun vs zs H Q => ∃ (a : Addr) (ns : List Int) (d : Int), vs = [.ref a] ∧ zs = [.int d] ∧ SqL K H a (ns.map V.int) ∧ (ns = [] → Q (.int d) H) ∧ ∀ m, m ∈ ns → (∀ y, y ∈ ns → y ≤ m) → Q (.int m) H
def rMinD (K : PySem.W.Frag) : List V → List V → Hp → VK → Prop := fun vs zs H Q => ∃ (a : Addr) (ns : List Int) (d : Int), vs = [.ref a] ∧ zs = [.int d] ∧ SqL K H a (ns.map V.int) ∧ (ns = [] → Q (.int d) H) ∧ ∀ m, m ∈ ns → (∀ y, y ∈ ns → m ≤ y) → Q (.int m) H
theorem cr_maxD (hc : X.calm = true) : CallRK X (.builtin "max") [Str.ofString "default"] (rMaxD X.K) := by
  intro pins s σ H vs zs us ws Q I r rz h
  obtain ⟨a, ns, d, rfl, rfl, hs, q0, q⟩ := h
  obtain rfl := Vals.ref1 r
  obtain ⟨w1, rfl, t, rfl⟩ := vals1 rz
  obtain ⟨its, rv, hl, _⟩ := I.list hs
  exact max_ints (I.ok.hd hc) hl.isList rv.ints (fun h' tk m t' hk h1 h2 => ⟨.int _, H, I.kept hk, ⟨_, rfl⟩, q m h1 h2⟩) fun e h' tk hk => ⟨.int _, H, I.kept hk, ⟨_, rfl⟩, q0 e⟩
theorem cr_minD (hc : X.calm = true) : CallRK X (.builtin "min") [Str.ofString "default"] (rMinD X.K) := by
  intro pins s σ H vs zs us ws Q I r rz h
  obtain ⟨a, ns, d, rfl, rfl, hs, q0, q⟩ := h
  obtain rfl := Vals.ref1 r
  obtain ⟨w1, rfl, t, rfl⟩ := vals1 rz
  obtain ⟨its, rv, hl, _⟩ := I.list hs
  exact min_ints (I.ok.hd hc) hl.isList rv.ints (fun h' tk m t' hk h1 h2 => ⟨.int _, H, I.kept hk, ⟨_, rfl⟩, q m h1 h2⟩) fun e h' tk hk => ⟨.int _, H, I.kept hk, ⟨_, rfl⟩, q0 e⟩
end
end FpS
/-! # The program's text by places, and what is used of it (printed by gen.py) -/
namespace FpS
open PySem PySem.Spec PyProof.Rows L2
def top (i : Nat) : Stmt := PySem.Challenge.pw_forgetproof_s01_answers.main.body.getD i (.Pass ⟨0, 0, 0, 0⟩)
abbrev s_bytes_of : Stmt := top 7
abbrev N_bytes_of : List Str := ["number", "found", "rest", "k"]
theorem sc_bytes_of : FnScope N_bytes_of ["number"] (defScope s_bytes_of) := ⟨rfl, rfl, rfl, by decide +kernel, rfl, by decide +kernel, by decide +kernel⟩
abbrev s_hash_of : Stmt := top 8
abbrev N_hash_of : List Str := ["numbers", "value", "number", "byte"]
theorem sc_hash_of : FnScope N_hash_of ["numbers"] (defScope s_hash_of) := ⟨rfl, rfl, rfl, by decide +kernel, rfl, by decide +kernel, by decide +kernel⟩
abbrev s_halves_of : Stmt := top 9
abbrev N_halves_of : List Str := ["value"]
theorem sc_halves_of : FnScope N_halves_of ["value"] (defScope s_halves_of) := ⟨rfl, rfl, rfl, by decide +kernel, rfl, by decide +kernel, by decide +kernel⟩
abbrev s_value_of : Stmt := top 10
abbrev N_value_of : List Str := ["high", "low"]
theorem sc_value_of : FnScope N_value_of ["high", "low"] (defScope s_value_of) := ⟨rfl, rfl, rfl, by decide +kernel, rfl, by decide +kernel, by decide +kernel⟩
abbrev s_ask : Stmt := top 19
abbrev N_ask : List Str := ["good", "code"]
theorem sc_ask : FnScope N_ask ["good", "code"] (defScope s_ask) := ⟨rfl, rfl, rfl, by decide +kernel, rfl, by decide +kernel, by decide +kernel⟩
abbrev s_contribution_of : Stmt := top 21
abbrev N_contribution_of : List Str := ["store", "event", "item", "own", "weight"]
theorem sc_contribution_of : FnScope N_contribution_of ["store", "event", "item"] (defScope s_contribution_of) := ⟨rfl, rfl, rfl, by decide +kernel, rfl, by decide +kernel, by decide +kernel⟩
abbrev s_score_of : Stmt := top 22
abbrev N_score_of : List Str := ["store", "events", "item", "event"]
theorem sc_score_of : FnScope N_score_of ["store", "events", "item"] (defScope s_score_of) := ⟨rfl, rfl, rfl, by decide +kernel, rfl, by decide +kernel, by decide +kernel⟩
abbrev s_ranking_by : Stmt := top 23
abbrev N_ranking_by : List Str := ["store", "everything", "chosen", "concerned", "scored", "item", "weight", "pair"]
theorem sc_ranking_by : FnScope N_ranking_by ["store", "everything", "chosen"] (defScope s_ranking_by) := ⟨rfl, rfl, rfl, by decide +kernel, rfl, by decide +kernel, by decide +kernel⟩
abbrev s_first_by : Stmt := top 24
abbrev N_first_by : List Str := ["store", "everything", "chosen", "ranking"]
theorem sc_first_by : FnScope N_first_by ["store", "everything", "chosen"] (defScope s_first_by) := ⟨rfl, rfl, rfl, by decide +kernel, rfl, by decide +kernel, by decide +kernel⟩
abbrev s_first_of : Stmt := top 25
abbrev N_first_of : List Str := ["store", "member", "first"]
theorem sc_first_of : FnScope N_first_of ["store", "member"] (defScope s_first_of) := ⟨rfl, rfl, rfl, by decide +kernel, rfl, by decide +kernel, by decide +kernel⟩
abbrev s_events_at : Stmt := top 26
abbrev N_events_at : List Str := ["events", "positions", "position"]
theorem sc_events_at : FnScope N_events_at ["events", "positions"] (defScope s_events_at) := ⟨rfl, rfl, rfl, by decide +kernel, rfl, by decide +kernel, by decide +kernel⟩
abbrev s_events_without : Stmt := top 27
abbrev N_events_without : List Str := ["events", "positions", "position", "event"]
theorem sc_events_without : FnScope N_events_without ["events", "positions"] (defScope s_events_without) := ⟨rfl, rfl, rfl, by decide +kernel, rfl, by decide +kernel, by decide +kernel⟩
abbrev s_position_sets : Stmt := top 28
abbrev N_position_sets : List Str := ["many", "found", "position", "one"]
theorem sc_position_sets : FnScope N_position_sets ["many"] (defScope s_position_sets) := ⟨rfl, rfl, rfl, by decide +kernel, rfl, by decide +kernel, by decide +kernel⟩
abbrev s_removal_set_of : Stmt := top 29
abbrev N_removal_set_of : List Str := ["store", "member", "first", "positions"]
theorem sc_removal_set_of : FnScope N_removal_set_of ["store", "member"] (defScope s_removal_set_of) := ⟨rfl, rfl, rfl, by decide +kernel, rfl, by decide +kernel, by decide +kernel⟩
abbrev s_sufficient_set_of : Stmt := top 30
abbrev N_sufficient_set_of : List Str := ["store", "member", "first", "positions"]
theorem sc_sufficient_set_of : FnScope N_sufficient_set_of ["store", "member"] (defScope s_sufficient_set_of) := ⟨rfl, rfl, rfl, by decide +kernel, rfl, by decide +kernel, by decide +kernel⟩
abbrev s_least_weight : Stmt := top 31
abbrev N_least_weight : List Str := ["store", "member", "on", "goal", "most", "weight", "events"]
theorem sc_least_weight : FnScope N_least_weight ["store", "member", "on", "goal", "most"] (defScope s_least_weight) := ⟨rfl, rfl, rfl, by decide +kernel, rfl, by decide +kernel, by decide +kernel⟩
abbrev s_moved_many : Stmt := top 32
abbrev N_moved_many : List Str := ["old", "fresh", "moved", "place", "item", "score"]
theorem sc_moved_many : FnScope N_moved_many ["old", "fresh"] (defScope s_moved_many) := ⟨rfl, rfl, rfl, by decide +kernel, rfl, by decide +kernel, by decide +kernel⟩
abbrev s_factorial_of : Stmt := top 34
abbrev N_factorial_of : List Str := ["number", "found", "factor"]
theorem sc_factorial_of : FnScope N_factorial_of ["number"] (defScope s_factorial_of) := ⟨rfl, rfl, rfl, by decide +kernel, rfl, by decide +kernel, by decide +kernel⟩
abbrev s_common_divisor : Stmt := top 35
abbrev N_common_divisor : List Str := ["one", "other", "left", "right"]
theorem sc_common_divisor : FnScope N_common_divisor ["one", "other"] (defScope s_common_divisor) := ⟨rfl, rfl, rfl, by decide +kernel, rfl, by decide +kernel, by decide +kernel⟩
abbrev s_lowest_terms : Stmt := top 36
abbrev N_lowest_terms : List Str := ["above", "below", "divisor"]
theorem sc_lowest_terms : FnScope N_lowest_terms ["above", "below"] (defScope s_lowest_terms) := ⟨rfl, rfl, rfl, by decide +kernel, rfl, by decide +kernel, by decide +kernel⟩
abbrev s_worth_of : Stmt := top 37
abbrev N_worth_of : List Str := ["store", "member", "item", "positions"]
theorem sc_worth_of : FnScope N_worth_of ["store", "member", "item", "positions"] (defScope s_worth_of) := ⟨rfl, rfl, rfl, by decide +kernel, rfl, by decide +kernel, by decide +kernel⟩
abbrev s_share_of : Stmt := top 38
abbrev N_share_of : List Str := ["store", "member", "item", "position", "many", "above", "positions", "size", "change"]
theorem sc_share_of : FnScope N_share_of ["store", "member", "item", "position"] (defScope s_share_of) := ⟨rfl, rfl, rfl, by decide +kernel, rfl, by decide +kernel, by decide +kernel⟩
abbrev s_Member_init : Stmt := inClass (top 41) 0
abbrev N_Member_init : List Str := ["self", "number"]
theorem sc_Member_init : FnScope N_Member_init ["self", "number"] (defScope s_Member_init) := ⟨rfl, rfl, rfl, by decide +kernel, rfl, by decide +kernel, by decide +kernel⟩
abbrev s_Member_add_event : Stmt := inClass (top 41) 1
abbrev N_Member_add_event : List Str := ["self", "item", "weight"]
theorem sc_Member_add_event : FnScope N_Member_add_event ["self", "item", "weight"] (defScope s_Member_add_event) := ⟨rfl, rfl, rfl, by decide +kernel, rfl, by decide +kernel, by decide +kernel⟩
abbrev s_Member_remove_event : Stmt := inClass (top 41) 2
abbrev N_Member_remove_event : List Str := ["self", "position"]
theorem sc_Member_remove_event : FnScope N_Member_remove_event ["self", "position"] (defScope s_Member_remove_event) := ⟨rfl, rfl, rfl, by decide +kernel, rfl, by decide +kernel, by decide +kernel⟩
abbrev s_Store_init : Stmt := inClass (top 42) 0
abbrev N_Store_init : List Str := ["self", "items_many", "first", "second"]
theorem sc_Store_init : FnScope N_Store_init ["self", "items_many"] (defScope s_Store_init) := ⟨rfl, rfl, rfl, by decide +kernel, rfl, by decide +kernel, by decide +kernel⟩
abbrev s_Store_set_similarity : Stmt := inClass (top 42) 1
abbrev N_Store_set_similarity : List Str := ["self", "first", "second", "value"]
theorem sc_Store_set_similarity : FnScope N_Store_set_similarity ["self", "first", "second", "value"] (defScope s_Store_set_similarity) := ⟨rfl, rfl, rfl, by decide +kernel, rfl, by decide +kernel, by decide +kernel⟩
abbrev s_Store_add_member : Stmt := inClass (top 42) 2
abbrev N_Store_add_member : List Str := ["self", "number", "below", "member"]
theorem sc_Store_add_member : FnScope N_Store_add_member ["self", "number"] (defScope s_Store_add_member) := ⟨rfl, rfl, rfl, by decide +kernel, rfl, by decide +kernel, by decide +kernel⟩
abbrev s_Store_delete_member : Stmt := inClass (top 42) 3
abbrev N_Store_delete_member : List Str := ["self", "number"]
theorem sc_Store_delete_member : FnScope N_Store_delete_member ["self", "number"] (defScope s_Store_delete_member) := ⟨rfl, rfl, rfl, by decide +kernel, rfl, by decide +kernel, by decide +kernel⟩
abbrev s_others_than : Stmt := top 43
abbrev N_others_than : List Str := ["store", "number", "member"]
theorem sc_others_than : FnScope N_others_than ["store", "number"] (defScope s_others_than) := ⟨rfl, rfl, rfl, by decide +kernel, rfl, by decide +kernel, by decide +kernel⟩
abbrev s_has_member : Stmt := top 44
abbrev N_has_member : List Str := ["store", "number", "member"]
theorem sc_has_member : FnScope N_has_member ["store", "number"] (defScope s_has_member) := ⟨rfl, rfl, rfl, by decide +kernel, rfl, by decide +kernel, by decide +kernel⟩
abbrev s_index_of : Stmt := top 45
abbrev N_index_of : List Str := ["store", "number", "member"]
theorem sc_index_of : FnScope N_index_of ["store", "number"] (defScope s_index_of) := ⟨rfl, rfl, rfl, by decide +kernel, rfl, by decide +kernel, by decide +kernel⟩
abbrev s_member_of : Stmt := top 46
abbrev N_member_of : List Str := ["store", "number"]
theorem sc_member_of : FnScope N_member_of ["store", "number"] (defScope s_member_of) := ⟨rfl, rfl, rfl, by decide +kernel, rfl, by decide +kernel, by decide +kernel⟩
abbrev s_need_item : Stmt := top 47
abbrev N_need_item : List Str := ["store", "item"]
theorem sc_need_item : FnScope N_need_item ["store", "item"] (defScope s_need_item) := ⟨rfl, rfl, rfl, by decide +kernel, rfl, by decide +kernel, by decide +kernel⟩
abbrev s_need_event : Stmt := top 48
abbrev N_need_event : List Str := ["member", "position"]
theorem sc_need_event : FnScope N_need_event ["member", "position"] (defScope s_need_event) := ⟨rfl, rfl, rfl, by decide +kernel, rfl, by decide +kernel, by decide +kernel⟩
abbrev s_leaf_of : Stmt := top 54
abbrev N_leaf_of : List Str := ["member", "numbers", "item", "weight"]
theorem sc_leaf_of : FnScope N_leaf_of ["member"] (defScope s_leaf_of) := ⟨rfl, rfl, rfl, by decide +kernel, rfl, by decide +kernel, by decide +kernel⟩
abbrev s_leaves_of : Stmt := top 55
abbrev N_leaves_of : List Str := ["members", "member"]
theorem sc_leaves_of : FnScope N_leaves_of ["members"] (defScope s_leaves_of) := ⟨rfl, rfl, rfl, by decide +kernel, rfl, by decide +kernel, by decide +kernel⟩
abbrev s_level_above : Stmt := top 56
abbrev N_level_above : List Str := ["level", "found", "at"]
theorem sc_level_above : FnScope N_level_above ["level"] (defScope s_level_above) := ⟨rfl, rfl, rfl, by decide +kernel, rfl, by decide +kernel, by decide +kernel⟩
abbrev s_levels_of : Stmt := top 57
abbrev N_levels_of : List Str := ["leaves", "levels"]
theorem sc_levels_of : FnScope N_levels_of ["leaves"] (defScope s_levels_of) := ⟨rfl, rfl, rfl, by decide +kernel, rfl, by decide +kernel, by decide +kernel⟩
abbrev s_root_of : Stmt := top 58
abbrev N_root_of : List Str := ["members"]
theorem sc_root_of : FnScope N_root_of ["members"] (defScope s_root_of) := ⟨rfl, rfl, rfl, by decide +kernel, rfl, by decide +kernel, by decide +kernel⟩
abbrev s_proof_of : Stmt := top 59
abbrev N_proof_of : List Str := ["members", "index", "steps", "at", "level"]
theorem sc_proof_of : FnScope N_proof_of ["members", "index"] (defScope s_proof_of) := ⟨rfl, rfl, rfl, by decide +kernel, rfl, by decide +kernel, by decide +kernel⟩
abbrev s_are_steps : Stmt := top 60
abbrev N_are_steps : List Str := ["numbers", "side"]
theorem sc_are_steps : FnScope N_are_steps ["numbers"] (defScope s_are_steps) := ⟨rfl, rfl, rfl, by decide +kernel, rfl, by decide +kernel, by decide +kernel⟩
abbrev s_end_of : Stmt := top 61
abbrev N_end_of : List Str := ["leaf", "numbers", "value", "at", "partner"]
theorem sc_end_of : FnScope N_end_of ["leaf", "numbers"] (defScope s_end_of) := ⟨rfl, rfl, rfl, by decide +kernel, rfl, by decide +kernel, by decide +kernel⟩
abbrev s_listed : Stmt := top 69
abbrev N_listed : List Str := ["pairs", "found", "one", "other"]
theorem sc_listed : FnScope N_listed ["pairs"] (defScope s_listed) := ⟨rfl, rfl, rfl, by decide +kernel, rfl, by decide +kernel, by decide +kernel⟩
abbrev s_one_more : Stmt := top 70
abbrev N_one_more : List Str := ["first"]
theorem sc_one_more : FnScope N_one_more ["first"] (defScope s_one_more) := ⟨rfl, rfl, rfl, by decide +kernel, rfl, by decide +kernel, by decide +kernel⟩
abbrev s_set_similarity : Stmt := top 71
abbrev N_set_similarity : List Str := ["store", "numbers", "row", "first", "second", "value", "old"]
theorem sc_set_similarity : FnScope N_set_similarity ["store", "numbers", "row"] (defScope s_set_similarity) := ⟨rfl, rfl, rfl, by decide +kernel, rfl, by decide +kernel, by decide +kernel⟩
abbrev s_add_member : Stmt := top 72
abbrev N_add_member : List Str := ["store", "numbers", "row", "number"]
theorem sc_add_member : FnScope N_add_member ["store", "numbers", "row"] (defScope s_add_member) := ⟨rfl, rfl, rfl, by decide +kernel, rfl, by decide +kernel, by decide +kernel⟩
abbrev s_delete_member : Stmt := top 73
abbrev N_delete_member : List Str := ["store", "numbers", "row", "member", "old"]
theorem sc_delete_member : FnScope N_delete_member ["store", "numbers", "row"] (defScope s_delete_member) := ⟨rfl, rfl, rfl, by decide +kernel, rfl, by decide +kernel, by decide +kernel⟩
abbrev s_add_event : Stmt := top 74
abbrev N_add_event : List Str := ["store", "numbers", "row", "number", "item", "weight", "member"]
theorem sc_add_event : FnScope N_add_event ["store", "numbers", "row"] (defScope s_add_event) := ⟨rfl, rfl, rfl, by decide +kernel, rfl, by decide +kernel, by decide +kernel⟩
abbrev s_remove_event : Stmt := top 75
abbrev N_remove_event : List Str := ["store", "numbers", "row", "number", "position", "member"]
theorem sc_remove_event : FnScope N_remove_event ["store", "numbers", "row"] (defScope s_remove_event) := ⟨rfl, rfl, rfl, by decide +kernel, rfl, by decide +kernel, by decide +kernel⟩
abbrev s_tell_events : Stmt := top 76
abbrev N_tell_events : List Str := ["store", "numbers", "row"]
theorem sc_tell_events : FnScope N_tell_events ["store", "numbers", "row"] (defScope s_tell_events) := ⟨rfl, rfl, rfl, by decide +kernel, rfl, by decide +kernel, by decide +kernel⟩
abbrev s_tell_scores : Stmt := top 77
abbrev N_tell_scores : List Str := ["store", "numbers", "row", "member", "item"]
theorem sc_tell_scores : FnScope N_tell_scores ["store", "numbers", "row"] (defScope s_tell_scores) := ⟨rfl, rfl, rfl, by decide +kernel, rfl, by decide +kernel, by decide +kernel⟩
abbrev s_recommend : Stmt := top 78
abbrev N_recommend : List Str := ["store", "numbers", "row", "number", "count", "member"]
theorem sc_recommend : FnScope N_recommend ["store", "numbers", "row"] (defScope s_recommend) := ⟨rfl, rfl, rfl, by decide +kernel, rfl, by decide +kernel, by decide +kernel⟩
abbrev s_tell_contributions : Stmt := top 79
abbrev N_tell_contributions : List Str := ["store", "numbers", "row", "number", "item", "member", "event"]
theorem sc_tell_contributions : FnScope N_tell_contributions ["store", "numbers", "row"] (defScope s_tell_contributions) := ⟨rfl, rfl, rfl, by decide +kernel, rfl, by decide +kernel, by decide +kernel⟩
abbrev s_margin : Stmt := top 80
abbrev N_margin : List Str := ["store", "numbers", "row", "member", "ranking"]
theorem sc_margin : FnScope N_margin ["store", "numbers", "row"] (defScope s_margin) := ⟨rfl, rfl, rfl, by decide +kernel, rfl, by decide +kernel, by decide +kernel⟩
abbrev s_tell_removal_set : Stmt := top 81
abbrev N_tell_removal_set : List Str := ["store", "numbers", "row", "member", "positions", "other"]
theorem sc_tell_removal_set : FnScope N_tell_removal_set ["store", "numbers", "row"] (defScope s_tell_removal_set) := ⟨rfl, rfl, rfl, by decide +kernel, rfl, by decide +kernel, by decide +kernel⟩
abbrev s_tell_sufficient_set : Stmt := top 82
abbrev N_tell_sufficient_set : List Str := ["store", "numbers", "row", "positions"]
theorem sc_tell_sufficient_set : FnScope N_tell_sufficient_set ["store", "numbers", "row"] (defScope s_tell_sufficient_set) := ⟨rfl, rfl, rfl, by decide +kernel, rfl, by decide +kernel, by decide +kernel⟩
abbrev s_robust : Stmt := top 83
abbrev N_robust : List Str := ["store", "numbers", "row", "number", "count"]
theorem sc_robust : FnScope N_robust ["store", "numbers", "row"] (defScope s_robust) := ⟨rfl, rfl, rfl, by decide +kernel, rfl, by decide +kernel, by decide +kernel⟩
abbrev s_shapley : Stmt := top 84
abbrev N_shapley : List Str := ["store", "numbers", "row", "number", "item", "member", "position"]
theorem sc_shapley : FnScope N_shapley ["store", "numbers", "row"] (defScope s_shapley) := ⟨rfl, rfl, rfl, by decide +kernel, rfl, by decide +kernel, by decide +kernel⟩
abbrev s_influence : Stmt := top 85
abbrev N_influence : List Str := ["store", "numbers", "row", "number", "position", "member", "left", "old", "fresh", "firsts", "events"]
theorem sc_influence : FnScope N_influence ["store", "numbers", "row"] (defScope s_influence) := ⟨rfl, rfl, rfl, by decide +kernel, rfl, by decide +kernel, by decide +kernel⟩
abbrev s_needed_weight : Stmt := top 86
abbrev N_needed_weight : List Str := ["store", "numbers", "row", "number", "on", "goal", "member", "weight"]
theorem sc_needed_weight : FnScope N_needed_weight ["store", "numbers", "row"] (defScope s_needed_weight) := ⟨rfl, rfl, rfl, by decide +kernel, rfl, by decide +kernel, by decide +kernel⟩
abbrev s_are_positions : Stmt := top 87
abbrev N_are_positions : List Str := ["member", "row", "rising", "one", "other", "position"]
theorem sc_are_positions : FnScope N_are_positions ["member", "row"] (defScope s_are_positions) := ⟨rfl, rfl, rfl, by decide +kernel, rfl, by decide +kernel, by decide +kernel⟩
abbrev s_what_if : Stmt := top 88
abbrev N_what_if : List Str := ["store", "numbers", "row", "member"]
theorem sc_what_if : FnScope N_what_if ["store", "numbers", "row"] (defScope s_what_if) := ⟨rfl, rfl, rfl, by decide +kernel, rfl, by decide +kernel, by decide +kernel⟩
abbrev s_tell_root : Stmt := top 89
abbrev N_tell_root : List Str := ["store", "numbers", "row"]
theorem sc_tell_root : FnScope N_tell_root ["store", "numbers", "row"] (defScope s_tell_root) := ⟨rfl, rfl, rfl, by decide +kernel, rfl, by decide +kernel, by decide +kernel⟩
abbrev s_tell_leaf : Stmt := top 90
abbrev N_tell_leaf : List Str := ["store", "numbers", "row", "member"]
theorem sc_tell_leaf : FnScope N_tell_leaf ["store", "numbers", "row"] (defScope s_tell_leaf) := ⟨rfl, rfl, rfl, by decide +kernel, rfl, by decide +kernel, by decide +kernel⟩
abbrev s_tell_proof : Stmt := top 91
abbrev N_tell_proof : List Str := ["store", "numbers", "row", "member", "steps", "found", "side", "value"]
theorem sc_tell_proof : FnScope N_tell_proof ["store", "numbers", "row"] (defScope s_tell_proof) := ⟨rfl, rfl, rfl, by decide +kernel, rfl, by decide +kernel, by decide +kernel⟩
abbrev s_check_proof : Stmt := top 92
abbrev N_check_proof : List Str := ["store", "numbers", "row", "leaf_high", "leaf_low", "root_high", "root_low"]
theorem sc_check_proof : FnScope N_check_proof ["store", "numbers", "row"] (defScope s_check_proof) := ⟨rfl, rfl, rfl, by decide +kernel, rfl, by decide +kernel, by decide +kernel⟩
abbrev s_absence : Stmt := top 93
abbrev N_absence : List Str := ["store", "numbers", "row", "number", "below", "above", "member"]
theorem sc_absence : FnScope N_absence ["store", "numbers", "row"] (defScope s_absence) := ⟨rfl, rfl, rfl, by decide +kernel, rfl, by decide +kernel, by decide +kernel⟩
abbrev s_root_without : Stmt := top 94
abbrev N_root_without : List Str := ["store", "numbers", "row", "others"]
theorem sc_root_without : FnScope N_root_without ["store", "numbers", "row"] (defScope s_root_without) := ⟨rfl, rfl, rfl, by decide +kernel, rfl, by decide +kernel, by decide +kernel⟩
abbrev s_status : Stmt := top 95
abbrev N_status : List Str := ["store", "numbers", "row", "member"]
theorem sc_status : FnScope N_status ["store", "numbers", "row"] (defScope s_status) := ⟨rfl, rfl, rfl, by decide +kernel, rfl, by decide +kernel, by decide +kernel⟩
abbrev s_Call_init : Stmt := inClass (top 102) 0
abbrev N_Call_init : List Str := ["self", "operation", "numbers", "row"]
theorem sc_Call_init : FnScope N_Call_init ["self", "operation", "numbers", "row"] (defScope s_Call_init) := ⟨rfl, rfl, rfl, by decide +kernel, rfl, by decide +kernel, by decide +kernel⟩
abbrev s_Desk_init : Stmt := inClass (top 103) 0
abbrev N_Desk_init : List Str := ["self"]
theorem sc_Desk_init : FnScope N_Desk_init ["self"] (defScope s_Desk_init) := ⟨rfl, rfl, rfl, by decide +kernel, rfl, by decide +kernel, by decide +kernel⟩
abbrev s_Desk_create : Stmt := inClass (top 103) 1
abbrev N_Desk_create : List Str := ["self", "call", "items_many"]
theorem sc_Desk_create : FnScope N_Desk_create ["self", "call"] (defScope s_Desk_create) := ⟨rfl, rfl, rfl, by decide +kernel, rfl, by decide +kernel, by decide +kernel⟩
abbrev s_read_calls : Stmt := top 104
abbrev N_read_calls : List Str := ["numbers", "calls", "at", "operation", "begin", "given", "row"]
theorem sc_read_calls : FnScope N_read_calls ["numbers"] (defScope s_read_calls) := ⟨rfl, rfl, rfl, by decide +kernel, rfl, by decide +kernel, by decide +kernel⟩
abbrev s_done : Stmt := top 105
abbrev N_done : List Str := ["desk", "call", "deed"]
theorem sc_done : FnScope N_done ["desk", "call"] (defScope s_done) := ⟨rfl, rfl, rfl, by decide +kernel, rfl, by decide +kernel, by decide +kernel⟩
abbrev s_answer_of : Stmt := top 106
abbrev N_answer_of : List Str := ["desk", "call", "refusal"]
theorem sc_answer_of : FnScope N_answer_of ["desk", "call"] (defScope s_answer_of) := ⟨rfl, rfl, rfl, by decide +kernel, rfl, by decide +kernel, by decide +kernel⟩
abbrev s_answers : Stmt := top 107
abbrev N_answers : List Str := ["calls", "desk", "found", "call", "answer"]
theorem sc_answers : FnScope N_answers ["calls"] (defScope s_answers) := ⟨rfl, rfl, rfl, by decide +kernel, rfl, by decide +kernel, by decide +kernel⟩
/-- a def of the module -/
structure DefAt (K : PySem.W.Frag) (mg : Str → Option Value) (x : Str) (st : Stmt) (ps : List Str) where
  f : Addr
  fd : FuncData
  F : Fun K x x st f fd
  g : mg x = some (.ref f)
  b : Binds K fd ps []
/-- a method -/
structure MetAt (K : PySem.W.Frag) (C : Addr) (x qual : Str) (st : Stmt) (ps : List Str) where
  f : Addr
  fd : FuncData
  F : Fun K x qual st f fd
  m : Meth K C x f
  b : Binds K fd ps []
/-- a class: its __init__ at f -/
structure ClsAt (K : PySem.W.Frag) (mg : Str → Option Value) (x : Str) where
  C : Addr
  f : Addr
  g : mg x = some (.ref C)
  cl : Cls K C
  mkO : Mk K C f
/-- an __init__ -/
structure InitAt (K : PySem.W.Frag) (f : Addr) (qual : Str) (st : Stmt) (ps : List Str) where
  fd : FuncData
  F : Fun K "__init__" qual st f fd
  b : Binds K fd ps []
def NUMB : List Int := [1, 3, 1, 1, 3, 2, 1, 1, 2, 2, 1, 1, 1, 2, 2, 2, 3, 1, 0, 1, 1, 4, 1, 1, 0]
def deedsOf (d0 d1 d2 d3 d4 d5 d6 d7 d8 d9 d10 d11 d12 d13 d14 d15 d16 d17 d18 d19 d20 d21 d22 d23 : Addr) : List V := [d0, d1, d2, d3, d4, d5, d6, d7, d8, d9, d10, d11, d12, d13, d14, d15, d16, d17, d18, d19, d20, d21, d22, d23].map V.ref
/-- a constant of the module -/
structure IntAt (mg : Str → Option Value) (x : Str) (z : Int) where
  u : Nat
  g : mg x = some (.int z u)

structure Txt (K : PySem.W.Frag) (mg : Str → Option Value) where
  START : IntAt mg "START" (14695981039346656037)
  FACTOR : IntAt mg "FACTOR" (1099511628211)
  HALF : IntAt mg "HALF" (4294967296)
  WHOLE : IntAt mg "WHOLE" (18446744073709551616)
  BYTES : IntAt mg "BYTES" (8)
  BYTE : IntAt mg "BYTE" (256)
  NOT_THERE : IntAt mg "NOT_THERE" (-2)
  NO_STORE : IntAt mg "NO_STORE" (-11)
  THERE_ALREADY : IntAt mg "THERE_ALREADY" (-17)
  BAD_ARGUMENT : IntAt mg "BAD_ARGUMENT" (-22)
  FULL : IntAt mg "FULL" (-28)
  NONE_SUCH : IntAt mg "NONE_SUCH" (-33)
  SAME : IntAt mg "SAME" (100)
  NOTHING : IntAt mg "NOTHING" (0)
  LEAF : IntAt mg "LEAF" (1)
  PAIR : IntAt mg "PAIR" (2)
  STEP : IntAt mg "STEP" (3)
  GREATEST_SIMILARITY : IntAt mg "GREATEST_SIMILARITY" (100)
  GREATEST_NUMBER : IntAt mg "GREATEST_NUMBER" (1000000)
  MOST_MEMBERS : IntAt mg "MOST_MEMBERS" (6)
  MOST_EVENTS : IntAt mg "MOST_EVENTS" (7)
  GREATEST_WEIGHT : IntAt mg "GREATEST_WEIGHT" (10)
  GREATEST_TRIED : IntAt mg "GREATEST_TRIED" (100)
  CREATE : IntAt mg "CREATE" (0)
  MOST_ITEMS : IntAt mg "MOST_ITEMS" (6)
  range_ : mg "range" = none
  sum_ : mg "sum" = none
  len_ : mg "len" = none
  sorted_ : mg "sorted" = none
  int_ : mg "int" = none
  abs_ : mg "abs" = none
  enumerate_ : mg "enumerate" = none
  zip_ : mg "zip" = none
  all_ : mg "all" = none
  max_ : mg "max" = none
  min_ : mg "min" = none
  Member : ClsAt K mg "Member"
  Member_no_events : NoAttr K Member.C "events"
  Member_no_number : NoAttr K Member.C "number"
  Store : ClsAt K mg "Store"
  Store_no_items_many : NoAttr K Store.C "items_many"
  Store_no_members : NoAttr K Store.C "members"
  Store_no_similarities : NoAttr K Store.C "similarities"
  Call : ClsAt K mg "Call"
  Call_no_numbers : NoAttr K Call.C "numbers"
  Call_no_operation : NoAttr K Call.C "operation"
  Call_no_row : NoAttr K Call.C "row"
  Desk : ClsAt K mg "Desk"
  Desk_no_store : NoAttr K Desk.C "store"
  bytes_of : DefAt K mg "bytes_of" s_bytes_of ["number"]
  hash_of : DefAt K mg "hash_of" s_hash_of ["numbers"]
  halves_of : DefAt K mg "halves_of" s_halves_of ["value"]
  value_of : DefAt K mg "value_of" s_value_of ["high", "low"]
  ask : DefAt K mg "ask" s_ask ["good", "code"]
  contribution_of : DefAt K mg "contribution_of" s_contribution_of ["store", "event", "item"]
  score_of : DefAt K mg "score_of" s_score_of ["store", "events", "item"]
  ranking_by : DefAt K mg "ranking_by" s_ranking_by ["store", "everything", "chosen"]
  first_by : DefAt K mg "first_by" s_first_by ["store", "everything", "chosen"]
  first_of : DefAt K mg "first_of" s_first_of ["store", "member"]
  events_at : DefAt K mg "events_at" s_events_at ["events", "positions"]
  events_without : DefAt K mg "events_without" s_events_without ["events", "positions"]
  position_sets : DefAt K mg "position_sets" s_position_sets ["many"]
  removal_set_of : DefAt K mg "removal_set_of" s_removal_set_of ["store", "member"]
  sufficient_set_of : DefAt K mg "sufficient_set_of" s_sufficient_set_of ["store", "member"]
  least_weight : DefAt K mg "least_weight" s_least_weight ["store", "member", "on", "goal", "most"]
  moved_many : DefAt K mg "moved_many" s_moved_many ["old", "fresh"]
  factorial_of : DefAt K mg "factorial_of" s_factorial_of ["number"]
  common_divisor : DefAt K mg "common_divisor" s_common_divisor ["one", "other"]
  lowest_terms : DefAt K mg "lowest_terms" s_lowest_terms ["above", "below"]
  worth_of : DefAt K mg "worth_of" s_worth_of ["store", "member", "item", "positions"]
  share_of : DefAt K mg "share_of" s_share_of ["store", "member", "item", "position"]
  Member_init : InitAt K Member.f "Member.__init__" s_Member_init ["self", "number"]
  Member_add_event : MetAt K Member.C "add_event" "Member.add_event" s_Member_add_event ["self", "item", "weight"]
  Member_remove_event : MetAt K Member.C "remove_event" "Member.remove_event" s_Member_remove_event ["self", "position"]
  Store_init : InitAt K Store.f "Store.__init__" s_Store_init ["self", "items_many"]
  Store_set_similarity : MetAt K Store.C "set_similarity" "Store.set_similarity" s_Store_set_similarity ["self", "first", "second", "value"]
  Store_add_member : MetAt K Store.C "add_member" "Store.add_member" s_Store_add_member ["self", "number"]
  Store_delete_member : MetAt K Store.C "delete_member" "Store.delete_member" s_Store_delete_member ["self", "number"]
  others_than : DefAt K mg "others_than" s_others_than ["store", "number"]
  has_member : DefAt K mg "has_member" s_has_member ["store", "number"]
  index_of : DefAt K mg "index_of" s_index_of ["store", "number"]
  member_of : DefAt K mg "member_of" s_member_of ["store", "number"]
  need_item : DefAt K mg "need_item" s_need_item ["store", "item"]
  need_event : DefAt K mg "need_event" s_need_event ["member", "position"]
  leaf_of : DefAt K mg "leaf_of" s_leaf_of ["member"]
  leaves_of : DefAt K mg "leaves_of" s_leaves_of ["members"]
  level_above : DefAt K mg "level_above" s_level_above ["level"]
  levels_of : DefAt K mg "levels_of" s_levels_of ["leaves"]
  root_of : DefAt K mg "root_of" s_root_of ["members"]
  proof_of : DefAt K mg "proof_of" s_proof_of ["members", "index"]
  are_steps : DefAt K mg "are_steps" s_are_steps ["numbers"]
  end_of : DefAt K mg "end_of" s_end_of ["leaf", "numbers"]
  listed : DefAt K mg "listed" s_listed ["pairs"]
  one_more : DefAt K mg "one_more" s_one_more ["first"]
  set_similarity : DefAt K mg "set_similarity" s_set_similarity ["store", "numbers", "row"]
  add_member : DefAt K mg "add_member" s_add_member ["store", "numbers", "row"]
  delete_member : DefAt K mg "delete_member" s_delete_member ["store", "numbers", "row"]
  add_event : DefAt K mg "add_event" s_add_event ["store", "numbers", "row"]
  remove_event : DefAt K mg "remove_event" s_remove_event ["store", "numbers", "row"]
  tell_events : DefAt K mg "tell_events" s_tell_events ["store", "numbers", "row"]
  tell_scores : DefAt K mg "tell_scores" s_tell_scores ["store", "numbers", "row"]
  recommend : DefAt K mg "recommend" s_recommend ["store", "numbers", "row"]
  tell_contributions : DefAt K mg "tell_contributions" s_tell_contributions ["store", "numbers", "row"]
  margin : DefAt K mg "margin" s_margin ["store", "numbers", "row"]
  tell_removal_set : DefAt K mg "tell_removal_set" s_tell_removal_set ["store", "numbers", "row"]
  tell_sufficient_set : DefAt K mg "tell_sufficient_set" s_tell_sufficient_set ["store", "numbers", "row"]
  robust : DefAt K mg "robust" s_robust ["store", "numbers", "row"]
  shapley : DefAt K mg "shapley" s_shapley ["store", "numbers", "row"]
  influence : DefAt K mg "influence" s_influence ["store", "numbers", "row"]
  needed_weight : DefAt K mg "needed_weight" s_needed_weight ["store", "numbers", "row"]
  are_positions : DefAt K mg "are_positions" s_are_positions ["member", "row"]
  what_if : DefAt K mg "what_if" s_what_if ["store", "numbers", "row"]
  tell_root : DefAt K mg "tell_root" s_tell_root ["store", "numbers", "row"]
  tell_leaf : DefAt K mg "tell_leaf" s_tell_leaf ["store", "numbers", "row"]
  tell_proof : DefAt K mg "tell_proof" s_tell_proof ["store", "numbers", "row"]
  check_proof : DefAt K mg "check_proof" s_check_proof ["store", "numbers", "row"]
  absence : DefAt K mg "absence" s_absence ["store", "numbers", "row"]
  root_without : DefAt K mg "root_without" s_root_without ["store", "numbers", "row"]
  status : DefAt K mg "status" s_status ["store", "numbers", "row"]
  Call_init : InitAt K Call.f "Call.__init__" s_Call_init ["self", "operation", "numbers", "row"]
  Desk_init : InitAt K Desk.f "Desk.__init__" s_Desk_init ["self"]
  Desk_create : MetAt K Desk.C "create" "Desk.create" s_Desk_create ["self", "call"]
  read_calls : DefAt K mg "read_calls" s_read_calls ["numbers"]
  done : DefAt K mg "done" s_done ["desk", "call"]
  answer_of : DefAt K mg "answer_of" s_answer_of ["desk", "call"]
  answers : DefAt K mg "answers" s_answers ["calls"]
  RC : Addr
  RI : Addr
  ref : PySem.RefX.RefTxt K mg RC RI
  aNUMBERS : Addr
  gNUMBERS : mg "NUMBERS" = some (.ref aNUMBERS)
  tNUMBERS : ∀ H, SqT K H aNUMBERS (NUMB.map V.int)
  aLISTED : Addr
  gLISTED : mg "LISTED" = some (.ref aLISTED)
  tLISTED : ∀ H, SqT K H aLISTED ([17, 21].map V.int)
  aDEEDS : Addr
  gDEEDS : mg "DEEDS" = some (.ref aDEEDS)
  tDEEDS : ∀ H, SqT K H aDEEDS (deedsOf set_similarity.f add_member.f delete_member.f add_event.f remove_event.f tell_events.f tell_scores.f recommend.f tell_contributions.f margin.f tell_removal_set.f tell_sufficient_set.f robust.f shapley.f influence.f needed_weight.f what_if.f tell_root.f tell_leaf.f tell_proof.f check_proof.f absence.f root_without.f status.f)
  cR : Addr
  pR : Addr
  cP : Addr
  pP : Addr
  kR : ranking_by.fd.code = .ref cR
  kP : position_sets.fd.code = .ref cP
  ne : pR ≠ pP
abbrev Txt.Tb {K : PySem.W.Frag} {mg : Str → Option Value} (T : Txt K mg) : List (Addr × Str) := [(T.pR, "ranking_by.<locals>.<lambda>"), (T.pP, "position_sets.<locals>.<lambda>")]
/-- the tables of the codes that make lambdas -/
structure Bs {K : PySem.W.Frag} {mg : Str → Option Value} (T : Txt K mg) (base : Heap) : Prop where
  bR : LamX.TabB base mg T.cR T.pR
  bP : LamX.TabB base mg T.cP T.pP
end FpS
/-! # Rules that the layer lacks: xs[::k], == with an empty list, a target that may be a list or a tuple, a def held by a name that may raise -/
namespace FpS
open PySem PySem.Spec PyProof.Rows L2
/-! ### xs[::k] -/
/-- every k-th item from the first on -/
def stepV {α : Type} (k : Nat) (xs : List α) : List α := (List.range ((xs.length + k - 1) / k)).filterMap fun i => xs[k * i]?
theorem step_pick (its : List Value) (k : Nat) : slicePick its.toArray none none (some ((k + 1 : Nat) : Int)) = (stepV (k + 1) its).toArray := by
  have hp : ((k + 1 : Nat) : Int) > 0 := by omega
  have hb : sliceBounds none none (some ((k + 1 : Nat) : Int)) its.toArray.size = (0, (its.toArray.size : Int), ((k + 1 : Nat) : Int)) := by
    simp only [sliceBounds, Option.getD_some, hp, if_true]
  unfold slicePick
  rw [hb]
  show ((sliceRange 0 (its.toArray.size : Int) ((k + 1 : Nat) : Int)).filterMap (its.toArray[·]?)).toArray = _
  have hr : sliceRange 0 (its.toArray.size : Int) ((k + 1 : Nat) : Int) = (List.range ((its.length + (k + 1) - 1) / (k + 1))).map fun i => (k + 1) * i := by
    unfold sliceRange
    have hc : (if (0 : Int) < (its.toArray.size : Int) then ((its.toArray.size : Int) - 0 + ((k + 1 : Nat) : Int) - 1) / ((k + 1 : Nat) : Int) else 0).toNat = (its.length + (k + 1) - 1) / (k + 1) := by
      by_cases h : (0 : Int) < (its.toArray.size : Int)
      · rw [if_pos h]
        have e : (its.toArray.size : Int) - 0 + ((k + 1 : Nat) : Int) - 1 = ((its.length + (k + 1) - 1 : Nat) : Int) := by
          rw [List.size_toArray] at h ⊢
          omega
        rw [e, ← Int.natCast_ediv, Int.toNat_natCast]
      · rw [if_neg h]
        have e : its.length = 0 := by
          rw [List.size_toArray] at h
          omega
        rw [e]
        have : (0 + (k + 1) - 1) / (k + 1) = 0 := Nat.div_eq_of_lt (by omega)
        rw [this]
        rfl
    simp only [hp, if_true]
    rw [hc]
    apply List.map_congr_left
    intro i _
    have e : (0 : Int) + ((k + 1 : Nat) : Int) * (i : Int) = (((k + 1) * i : Nat) : Int) := by
      rw [Int.zero_add]
      exact (Int.natCast_mul (k + 1) i).symm
    rw [e, Int.toNat_natCast]
  rw [hr, List.filterMap_map]
  unfold stepV
  have ef : ((fun x => its.toArray[x]?) ∘ fun i => (k + 1) * i) = fun i => its[(k + 1) * i]? := by
    funext i
    simp
  rw [ef]
theorem Vals.at {xs : List V} {its : List Value} (r : Vals xs its) (i : Nat) : (xs[i]? = none ∧ its[i]? = none) ∨ ∃ x u, xs[i]? = some x ∧ its[i]? = some u ∧ RelV x u := by
  cases e : xs[i]? with
  | none => exact .inl ⟨rfl, r.none_of e⟩
  | some x =>
    obtain ⟨u, h1, h2⟩ := r.get e
    exact .inr ⟨x, u, rfl, h1, h2⟩
theorem vals_pick {xs : List V} {its : List Value} (r : Vals xs its) : ∀ js : List Nat, Vals (js.filterMap fun i => xs[i]?) (js.filterMap fun i => its[i]?)
  | [] => .nil
  | j :: js => by
    rcases Vals.at r j with ⟨h1, h2⟩ | ⟨x, u, h1, h2, h3⟩
    · rw [List.filterMap_cons_none h1, List.filterMap_cons_none h2]
      exact vals_pick r js
    · rw [List.filterMap_cons_some h1, List.filterMap_cons_some h2]
      exact .cons h3 (vals_pick r js)
theorem vals_step {xs : List V} {its : List Value} (r : Vals xs its) (k : Nat) : Vals (stepV k xs) (stepV k its) := by
  unfold stepV
  rw [r.length]
  have h := vals_pick r ((List.range ((its.length + k - 1) / k)).map fun i => k * i)
  rw [List.filterMap_map, List.filterMap_map] at h
  exact h
theorem stepV_len {α : Type} (k : Nat) (xs : List α) : (stepV (k + 1) xs).length ≤ xs.length := by
  unfold stepV
  refine Nat.le_trans (List.length_filterMap_le _ _) ?_
  rw [List.length_range]
  cases h : xs.length with
  | zero => rw [Nat.div_eq_of_lt (by omega)] <;> exact Nat.le_refl _
  | succ n =>
    refine Nat.div_le_of_le_mul ?_
    have e1 : (k + 1) * (n + 1) = k * (n + 1) + (n + 1) := Nat.succ_mul k (n + 1)
    have e2 : k * (n + 1) = k * n + k := Nat.mul_succ k n
    rw [e1, e2]
    omega
section
variable {X : Cx}
def tStep (K : PySem.W.Frag) (te ts : TE) : TE := fun σ H Q => te σ H fun x H1 => ts σ H1 fun y H2 => ∃ (a : Addr) (xs : List V) (k : Nat), x = .ref a ∧ y = .int ((k + 1 : Nat) : Int) ∧ SqL K H2 a xs ∧ ∀ p, H2 p = none → Q (.ref p) (upd H2 p (.lst (stepV (k + 1) xs)))
theorem pe_step {e st : Expr} {te ts : TE} {p3 pos : Pos} (he : PE X e te) (hs : PE X st ts) (ht : ∀ v sl, letTemporaryGo e v sl = pure () := by intro _ _; rfl) : PE X (.Subscript e (.Slice none none (some st) p3) pos) (tStep X.K te ts) := by
  refine ⟨fun pins s σ H Q I h => ?_⟩
  refine Subscript_ (thn (he.run pins s σ H _ I h) fun v s1 ⟨x, H1, I1, r1, q1⟩ => ?_)
  refine wpAny_Slice (thn (po_none.run pins s1 σ H1 (fun o H2 => o = none ∧ H2 = H1) I1 ⟨rfl, rfl⟩) fun vl s2 ⟨l, H2, I2, pl, el, e2⟩ => ?_)
  subst el e2
  refine thn (po_none.run pins s2 σ H2 (fun o H3 => o = none ∧ H3 = H2) I2 ⟨rfl, rfl⟩) fun vu s3 ⟨u, H3, I3, pu, eu, e3⟩ => ?_
  subst eu e3
  rw [evalPart_some]
  refine thn (hs.run pins s3 σ H3 _ I3 q1) fun vs s4 ⟨y, H4, I4, r4, a, xs, k, ex, ey, hx, q⟩ => ?_
  subst ex ey
  cases r1
  obtain ⟨t, rfl⟩ := r4
  have I5 : Inv X pins σ H4 { s4 with heap := s4.heap.push { cls := .type "slice", data := .fields #[vl, vu, .int ((k + 1 : Nat) : Int) t] } } := I4.kept (t' := s4.toks) fun b ob q => Heap.get?_push_of_some _ q
  obtain ⟨its, r, hl, hz⟩ := I5.list hx
  have hlen := r.length
  show wpAny (model X.prog X.w) X.A (subscriptTail e (.Slice none none (some st) p3) (.ref a) (.ref s4.heap.objs.size)) (EP X pins σ Q) X.xe { s4 with heap := s4.heap.push { cls := .type "slice", data := .fields #[vl, vu, .int ((k + 1 : Nat) : Int) t] } }
  refine tail_any (ops := [.ref a, .ref s4.heap.objs.size]) hl.isList.typeIs (PySem.slot_list_getitem.lookup) ?_ (by with_unfolding_all rfl)
  refine wpAny_getItem_list_slice hl.isList (Heap.IsSliceOf.new _ vl vu _) pl pu (.int _ _) (by intro z; have := Option.some.inj z; omega) ?_ (by rw [List.size_toArray]; omega)
  rw [step_pick]
  refine ⟨.ref _, _, I5.laid (t' := s4.toks) (o := .lst (stepV (k + 1) xs)) (fun b ob q => Heap.get?_push_of_some _ q) (Nat.le_refl _) ?_, rfl, q _ (I5.hok.fresh (Nat.le_refl _))⟩
  exact ⟨Nat.le_trans (stepV_len k xs) hz, _, 0, vals_step r (k + 1), Heap.get?_push_size _ rfl⟩
/-! ### a list compared with an empty one -/
def rEqE (K : PySem.W.Frag) (neg : Bool) : R2 := fun x y H Q => ∃ (a b : Addr) (xs : List V), x = .ref a ∧ y = .ref b ∧ SqL K H a xs ∧ H b = some (.lst []) ∧ Q (.bl (if neg then !xs.isEmpty else xs.isEmpty)) H
theorem rc_empty {A : Around} {s : Shared} {a b : Addr} {its : List Value} (h1 : s.heap.IsList a its.toArray) (h2 : s.heap.IsList b #[]) (hu : A.units < cLine) : SeqAt.RcAt A s (.ref a) (.ref b) its.isEmpty := by
  cases its with
  | nil =>
    have R := SeqAt.RcAt.lists (A := A) (s := s) (e := fun _ => true) h1 h2 rfl hu (fun j q1 q2 => absurd q2 (Nat.not_lt_zero j))
    exact R
  | cons u its => exact SeqAt.RcAt.lists_lengths (A := A) (s := s) h1 h2 (by simp) hu
theorem vals_isEmpty {xs : List V} {its : List Value} (r : Vals xs its) : its.isEmpty = xs.isEmpty := by cases r <;> rfl
theorem op_eqE (hu : X.A.units < cLine) : OpR X (compareOp .Eq) (rEqE X.K false) := by
  intro pins s σ H x y v u Q I rx ry h
  obtain ⟨a, b, xs, rfl, rfl, ha, hb, q⟩ := h
  cases rx
  cases ry
  obtain ⟨its, rv, hl, _⟩ := I.list ha
  obtain ⟨its2, rv2, hl2, _⟩ := I.list (SqL.of hb)
  cases rv2
  refine rc_empty hl.isList hl2.isList hu X.prog X.w _ _ ?_
  rw [vals_isEmpty rv]
  exact ⟨.bl _, H, I, rfl, q⟩
theorem rcNe_empty {A : Around} {s : Shared} {a b : Addr} {its : List Value} (h1 : s.heap.IsList a its.toArray) (h2 : s.heap.IsList b #[]) (hu : A.units < cLine) : SeqAt.RcNeAt A s (.ref a) (.ref b) (!its.isEmpty) := by
  cases its with
  | nil =>
    have R := SeqAt.RcNeAt.lists (A := A) (s := s) (e := fun _ => true) h1 h2 rfl hu (fun j q1 q2 => absurd q2 (Nat.not_lt_zero j))
    exact R
  | cons u its => exact SeqAt.RcNeAt.lists_lengths (A := A) (s := s) h1 h2 (by simp) hu
theorem op_neE (hu : X.A.units < cLine) : OpR X (compareOp .NotEq) (rEqE X.K true) := by
  intro pins s σ H x y v u Q I rx ry h
  obtain ⟨a, b, xs, rfl, rfl, ha, hb, q⟩ := h
  cases rx
  cases ry
  obtain ⟨its, rv, hl, _⟩ := I.list ha
  obtain ⟨its2, rv2, hl2, _⟩ := I.list (SqL.of hb)
  cases rv2
  refine rcNe_empty hl.isList hl2.isList hu X.prog X.w _ _ ?_
  rw [vals_isEmpty rv]
  exact ⟨.bl _, H, I, rfl, q⟩
/-! ### a target by either of two rules -/
theorem pg_or {tg : Expr} {g1 g2 : TG} (h1 : PG X tg g1) (h2 : PG X tg g2) : PG X tg (fun v σ H Q => g1 v σ H Q ∨ g2 v σ H Q) :=
  ⟨fun pins s σ H v u Q I r h => h.elim (fun q => h1.run pins s σ H v u Q I r q) fun q => h2.run pins s σ H v u Q I r q⟩
/-! ### a name of the def's that holds one of several defs, which may raise -/
structure HeldX (P : Program) (w : World) (K : PySem.W.Frag) (mg : Str → Option Value) (base : Heap) (k : Nat) (f : Addr) (sp : Sp) : Prop where
  ex : ∃ (fd : FuncData) (ps : List Str), FnOk P w K mg base (L2.CX P w) k f fd ps sp ∧ PySem.W.keepIn K (.ref f) = true ∧ Binds K fd ps []
def tCallX (i : Nat) (S : Addr → Sp → Prop) (E : XK) (t : TA) : TE := fun σ H Q => ∃ f sp, σ[i]? = some (some (.ref f)) ∧ S f sp ∧ t σ H fun vs H1 => sp vs H1 Q E
theorem pe_callX {k i : Nat} {S : Addr → Sp → Prop} {E : XK} {x : Str} {p pos : Pos} {e : Expr} {es : List Expr} {t : TA} (A : ∀ f sp, S f sp → HeldX X.prog X.w X.K X.mg X.base k f sp) (hr : Room k X.A) (hN : X.N[i]? = some x) (hv : Vis X.env.scope x) (hx : Passes (L2.CX X.prog X.w) X E) (ha : PA X (e :: es) t)
    (hdb : (x == ("__debug__" : Str)) = false := by decide) (hcd : (x == ("__classdict__" : Str)) = false := by decide)
    (he : starEach (e :: es) X.env = (false, eval e X.env) :: starEach es X.env := by rfl) (hpl : (backTo pos (starEach es X.env)).any (·.1) = false := by rfl) : PE X (.Call (.Name x p) (e :: es) [] pos) (tCallX i S E t) := by
  refine ⟨fun pins s σ H Q I h => ?_⟩
  obtain ⟨f, sp, hs, hS, ht⟩ := h
  obtain ⟨fd, ps, F, hk, hb⟩ := (A f sp hS).ex
  refine (pe_callL (i := i) (f := f) (sp := sp) (dvs := []) (E := E) F hr hN hv hk hb .nil hx ha hdb hcd he hpl).run pins s σ H Q I ⟨hs, ?_⟩
  have e0 : (fun (vs : List V) (H1 : Hp) => sp (vs ++ []) H1 Q E) = fun vs H1 => sp vs H1 Q E := by
    funext vs H1
    rw [List.append_nil]
  show t σ H (fun vs H1 => sp (vs ++ []) H1 Q E)
  rw [e0]
  exact ht
end
/-! ### a def that lets errors out: what its callees let out passes -/
theorem passE {P : Program} {w : World} {K : PySem.W.Frag} {mg : Str → Option Value} {base : Heap} {N : List Str} {qual : Str} {scope : Scope} {f : Addr} {cd : Value} {A : Around} {outer : List Env} {s : Shared} {H : Hp} {E : XK} :
    Passes (L2.CX P w) (cxOf (L2.CX P w) P w K mg base N qual scope f cd A outer s H E) E := passes_call (takes_of rfl rfl rfl rfl) fun _ _ _ _ h => h
/-! ### exclusive or of whole numbers that are not negative -/
theorem bxor_nat (a b : Nat) : Builtin.bitXor (a : Int) (b : Int) = ((a ^^^ b : Nat) : Int) := by
  rw [Bits.bitXor_pp (Int.natCast_nonneg a) (Int.natCast_nonneg b), Int.toNat_natCast, Int.toNat_natCast]
end FpS
/-! # What stands where: lists, pairs, members, the store -/
namespace FpS
open PySem PySem.Spec PyProof.Rows L2
/-! ### two lists, item by item -/
inductive F2 {α β : Type} (R : α → β → Prop) : List α → List β → Prop
  | nil : F2 R [] []
  | cons {a : α} {b : β} {as : List α} {bs : List β} : R a b → F2 R as bs → F2 R (a :: as) (b :: bs)
section
variable {α β γ : Type} {R S : α → β → Prop} {xs xs' : List α} {ys ys' : List β}
theorem F2.length (h : F2 R xs ys) : xs.length = ys.length := by
  induction h with
  | nil => rfl
  | cons _ _ ih => rw [List.length_cons, List.length_cons, ih]
theorem F2.get (h : F2 R xs ys) : ∀ {i : Nat} {x : α}, xs[i]? = some x → ∃ y, ys[i]? = some y ∧ R x y := by
  induction h with
  | nil => intro i x e; cases e
  | cons r _ ih =>
    intro i x e
    cases i with
    | zero => exact ⟨_, rfl, by cases (Option.some.inj e); exact r⟩
    | succ i => exact ih (i := i) (by simpa using e)
theorem F2.get' (h : F2 R xs ys) : ∀ {i : Nat} {y : β}, ys[i]? = some y → ∃ x, xs[i]? = some x ∧ R x y := by
  induction h with
  | nil => intro i x e; cases e
  | cons r _ ih =>
    intro i x e
    cases i with
    | zero => exact ⟨_, rfl, by cases (Option.some.inj e); exact r⟩
    | succ i => exact ih (i := i) (by simpa using e)
theorem F2.imp (h : F2 R xs ys) (f : ∀ x y, x ∈ xs → y ∈ ys → R x y → S x y) : F2 S xs ys := by
  induction h with
  | nil => exact .nil
  | cons r _ ih => exact .cons (f _ _ List.mem_cons_self List.mem_cons_self r) (ih fun x y hx hy => f x y (List.mem_cons_of_mem _ hx) (List.mem_cons_of_mem _ hy))
theorem F2.append (h : F2 R xs ys) (h' : F2 R xs' ys') : F2 R (xs ++ xs') (ys ++ ys') := by
  induction h with
  | nil => exact h'
  | cons r _ ih => exact .cons r ih
theorem F2.take (h : F2 R xs ys) : ∀ n, F2 R (xs.take n) (ys.take n) := by
  induction h with
  | nil => intro n; rw [List.take_nil, List.take_nil]; exact .nil
  | cons r _ ih =>
    intro n
    cases n with
    | zero => exact .nil
    | succ n => exact .cons r (ih n)
theorem F2.drop (h : F2 R xs ys) : ∀ n, F2 R (xs.drop n) (ys.drop n) := by
  induction h with
  | nil => intro n; rw [List.drop_nil, List.drop_nil]; exact .nil
  | cons r h ih =>
    intro n
    cases n with
    | zero => exact .cons r h
    | succ n => exact ih n
theorem F2.one {x : α} {y : β} (r : R x y) : F2 R [x] [y] := .cons r .nil
theorem F2.snoc {x : α} {y : β} (h : F2 R xs ys) (r : R x y) : F2 R (xs ++ [x]) (ys ++ [y]) := h.append (.one r)
theorem F2.set (h : F2 R xs ys) : ∀ {i : Nat} {x : α} {y : β}, R x y → F2 R (xs.set i x) (ys.set i y) := by
  induction h with
  | nil => intro i x y _; exact .nil
  | cons r h ih =>
    intro i x y q
    cases i with
    | zero => exact .cons q h
    | succ i => exact .cons r (ih q)
theorem F2.eq_map {f : β → α} (h : F2 (fun x y => x = f y) xs ys) : xs = ys.map f := by
  induction h with
  | nil => rfl
  | cons r _ ih => rw [r, ih]; rfl
theorem F2.of_map {f : β → α} (h : ∀ y ∈ ys, R (f y) y) : F2 R (ys.map f) ys := by
  induction ys with
  | nil => exact .nil
  | cons y ys ih => exact .cons (h y List.mem_cons_self) (ih fun z hz => h z (List.mem_cons_of_mem _ hz))
theorem F2.mapR {T : α → γ → Prop} {f : β → γ} (h : F2 R xs ys) (g : ∀ x y, x ∈ xs → y ∈ ys → R x y → T x (f y)) : F2 T xs (ys.map f) := by
  induction h with
  | nil => exact .nil
  | cons r _ ih => exact .cons (g _ _ List.mem_cons_self List.mem_cons_self r) (ih fun x y hx hy => g x y (List.mem_cons_of_mem _ hx) (List.mem_cons_of_mem _ hy))
end
theorem tk {α : Type} {l : List α} {i : Nat} {x : α} (h : l[i]? = some x) : l.take (i + 1) = l.take i ++ [x] := by
  rw [List.take_add_one, h]; rfl
theorem lt_of_get {α : Type} {l : List α} {i : Nat} {x : α} (h : l[i]? = some x) : i < l.length := (List.getElem?_eq_some_iff.mp h).1
theorem map_get {α β : Type} {f : α → β} {l : List α} {i : Nat} {y : β} (h : (l.map f)[i]? = some y) : ∃ x, l[i]? = some x ∧ y = f x := by
  rw [List.getElem?_map] at h
  cases e : l[i]? with
  | none => rw [e] at h; cases h
  | some x => rw [e] at h; exact ⟨x, rfl, (Option.some.inj h).symm⟩
/-! ### values -/
abbrev nV (n : Nat) : V := .int (n : Int)
def oV : Option Nat → V
  | none => .non
  | some n => nV n
/-- a list of numbers -/
def NL (H : Hp) (v : V) (l : List Nat) : Prop := ∃ p, v = .ref p ∧ H p = some (.lst (l.map nV))
def IL (H : Hp) (v : V) (l : List Int) : Prop := ∃ p, v = .ref p ∧ H p = some (.lst (l.map V.int))
/-- a pair of numbers -/
def PrV (H : Hp) (v : V) (x : Nat × Nat) : Prop := ∃ p, v = .ref p ∧ H p = some (.tup [nV x.1, nV x.2])
/-- a list of pairs -/
def PL (H : Hp) (v : V) (l : List (Nat × Nat)) : Prop := ∃ p xs, v = .ref p ∧ H p = some (.lst xs) ∧ F2 (PrV H) xs l
/-- a list of lists of numbers -/
def LL (H : Hp) (v : V) (l : List (List Nat)) : Prop := ∃ p xs, v = .ref p ∧ H p = some (.lst xs) ∧ F2 (NL H) xs l
theorem map_nV (l : List Nat) : l.map nV = (l.map fun n : Nat => (n : Int)).map V.int := by rw [List.map_map]; rfl
theorem NL.il {H : Hp} {v : V} {l : List Nat} (h : NL H v l) : IL H v (l.map fun n : Nat => (n : Int)) := by
  obtain ⟨p, e, h⟩ := h
  exact ⟨p, e, by rw [← map_nV]; exact h⟩
section
variable {Tb : List (Addr × Str)} {H H' : Hp} {v : V}
theorem Ex.nl {l : List Nat} (e : Ex Tb H H') (h : NL H v l) : NL H' v l := by
  obtain ⟨p, a, b⟩ := h
  exact ⟨p, a, e.lst b⟩
theorem Ex.il {l : List Int} (e : Ex Tb H H') (h : IL H v l) : IL H' v l := by
  obtain ⟨p, a, b⟩ := h
  exact ⟨p, a, e.lst b⟩
theorem Ex.prv {x : Nat × Nat} (e : Ex Tb H H') (h : PrV H v x) : PrV H' v x := by
  obtain ⟨p, a, b⟩ := h
  exact ⟨p, a, e.tup b⟩
theorem Ex.prs {xs : List V} {l : List (Nat × Nat)} (e : Ex Tb H H') (h : F2 (PrV H) xs l) : F2 (PrV H') xs l := h.imp fun _ _ _ _ q => e.prv q
theorem Ex.nls {xs : List V} {l : List (List Nat)} (e : Ex Tb H H') (h : F2 (NL H) xs l) : F2 (NL H') xs l := h.imp fun _ _ _ _ q => e.nl q
theorem Ex.pl {l : List (Nat × Nat)} (e : Ex Tb H H') (h : PL H v l) : PL H' v l := by
  obtain ⟨p, xs, a, b, c⟩ := h
  exact ⟨p, xs, a, e.lst b, e.prs c⟩
theorem Ex.ll {l : List (List Nat)} (e : Ex Tb H H') (h : LL H v l) : LL H' v l := by
  obtain ⟨p, xs, a, b, c⟩ := h
  exact ⟨p, xs, a, e.lst b, e.nls c⟩
end
/-! ### members and the store -/
abbrev evP (e : Kp433.Event) : Nat × Nat := (e.item, e.weight)
abbrev mF (n : Nat) (ea : Addr) : List (Str × V) := [("number", nV n), ("events", .ref ea)]
abbrev sF (n : Nat) (sa ma : Addr) : List (Str × V) := [("items_many", nV n), ("similarities", .ref sa), ("members", .ref ma)]
section
variable {K : PySem.W.Frag} {mg : Str → Option Value} (T : Txt K mg)
/-- a member -/
def MemR (H : Hp) (v : V) (m : Kp433.Member) : Prop := ∃ p dx ea, v = .ref p ∧ H p = some (.ins T.Member.C dx (mF m.id ea)) ∧ PL H (.ref ea) (m.events.map evP)
/-- a list of members -/
def MsR (H : Hp) (v : V) (l : List Kp433.Member) : Prop := ∃ p xs, v = .ref p ∧ H p = some (.lst xs) ∧ F2 (MemR T H) xs l
/-- a store, to be read -/
def StR (H : Hp) (v : V) (S : Kp433.Store) : Prop := ∃ p dx sa ma, v = .ref p ∧ H p = some (.ins T.Store.C dx (sF S.items sa ma)) ∧ LL H (.ref sa) S.similarities ∧ MsR T H (.ref ma) S.members
end
section
variable {K : PySem.W.Frag} {mg : Str → Option Value} {T : Txt K mg} {Tb : List (Addr × Str)} {H H' : Hp} {v : V}
theorem Ex.mem {m : Kp433.Member} (e : Ex Tb H H') (h : MemR T H v m) : MemR T H' v m := by
  obtain ⟨p, dx, ea, a, b, c⟩ := h
  exact ⟨p, dx, ea, a, e.ins b, e.pl c⟩
theorem Ex.mems {xs : List V} {l : List Kp433.Member} (e : Ex Tb H H') (h : F2 (MemR T H) xs l) : F2 (MemR T H') xs l := h.imp fun _ _ _ _ q => e.mem q
theorem Ex.ms {l : List Kp433.Member} (e : Ex Tb H H') (h : MsR T H v l) : MsR T H' v l := by
  obtain ⟨p, xs, a, b, c⟩ := h
  exact ⟨p, xs, a, e.lst b, e.mems c⟩
theorem Ex.st {S : Kp433.Store} (e : Ex Tb H H') (h : StR T H v S) : StR T H' v S := by
  obtain ⟨p, dx, sa, ma, a, b, c, d⟩ := h
  exact ⟨p, dx, sa, ma, a, e.ins b, e.ll c, e.ms d⟩
end
/-- what the program keeps of a store -/
structure WfM (n : Nat) (m : Kp433.Member) : Prop where
  id : m.id ≤ 1000000
  len : m.events.length ≤ 7
  ev : ∀ e ∈ m.events, e.item < n ∧ 1 ≤ e.weight ∧ e.weight ≤ 10
structure Wf (S : Kp433.Store) : Prop where
  lo : 1 ≤ S.items
  hi : S.items ≤ 6
  rows : S.similarities.length = S.items
  row : ∀ r ∈ S.similarities, r.length = S.items
  sym : ∀ i j, Kp433.similarity S i j = Kp433.similarity S j i
  sim : ∀ i j, Kp433.similarity S i j ≤ 100
  ms : S.members.length ≤ 6
  mem : ∀ m ∈ S.members, WfM S.items m
  inc : S.members.Pairwise fun a b => a.id < b.id
/-! ### a comprehension whose turns only lay new objects -/
theorem upd_eta {H : Hp} {p : Addr} {o : HO} (h : H p = some o) : ∃ G : Hp, G p = none ∧ H = upd G p o := by
  refine ⟨fun b => if b = p then none else H b, if_pos rfl, ?_⟩
  funext b
  by_cases e : b = p
  · rw [e, upd_same, h]
  · rw [upd_ne e, if_neg e]
section
variable {Tb : List (Addr × Str)} {G G' H H' : Hp} {p : Addr} {o o' : HO}
/-- the new list put aside -/
theorem Ex.strip (e : Ex Tb (upd G p o) (upd G' p o')) (h : G p = none) (h' : G' p = none) (pl : Plain o') : Ex Tb G G' := by
  have k : ∀ b u, G b = some u → (∀ ps, u ≠ .tbl ps) → G' b = some u := fun b u q n => by
    have nb : b ≠ p := ne_of_none q h
    have := e.old b u (by rw [upd_ne nb]; exact q) n
    rw [upd_ne nb] at this
    exact this
  refine ⟨k, fun t => ?_, fun b q => ?_⟩
  · have t1 : LamX.Tabs Tb (upd G p o) := tabs_of t (fun P ps e => by rw [upd_ne (ne_of_none e h)]; exact e) (fun c q e => by rw [upd_ne (ne_of_none e h)]; exact e)
    refine tabs_of (e.tab t1) (fun P ps q => ?_) (fun c w q => ?_)
    · have n : P ≠ p := fun z => by rw [z, upd_same] at q; exact pl.ntab ps (Option.some.inj q)
      rw [upd_ne n] at q; exact q
    · have n : c ≠ p := fun z => by
        subst z
        rw [upd_same] at q
        exact pl.ncode c w (Option.some.inj q)
      rw [upd_ne n] at q; exact q
  · by_cases hb : b = p
    · rw [hb]; exact h
    · have := e.thr b (by rw [upd_ne hb]; exact q)
      rw [upd_ne hb] at this; exact this
end
/-- a comprehension: A by the turn, the items made so far and the heap without the new list; Nx is what a turn is to reach, kY reaches it with a new item, kN without -/
theorem lc_ex {Tb : List (Addr × Str)} {J : It} {n : Nat} {Gd : Hp → Prop} {Y : Nat → Hp → V → Hp → Prop} (w : Walk J n Gd Y) {g : TG} {tt : TT} {te : TE} {vs : List Nat} {σ : L2.St} {H1 : Hp} {D : Addr} {Qd : Hp → Prop}
    (A : Nat → List V → Hp → Prop) (hn : n < sizeLine) (hD : H1 D = none) (hG : ∀ H', Ex Tb H1 H' → Gd H') (h0 : A 0 [] H1)
    (hs : ∀ i x acc G H' (Nx : Hp → Prop), i < n → Ex Tb H1 G → G D = none → A i acc G → Y i (upd G D (.lst acc)) x H' →
      (∀ y H4, Ex Tb (upd G D (.lst acc)) H4 → (∀ G', Ex Tb G G' → G' D = none → H4 = upd G' D (.lst acc) → A (i + 1) (acc ++ [y]) G') → ∃ acc, H4 D = some (.lst acc) ∧ acc.length < sizeLine ∧ Nx (upd H4 D (.lst (acc ++ [y])))) →
      (∀ H3, Ex Tb (upd G D (.lst acc)) H3 → (∀ G', Ex Tb G G' → G' D = none → H3 = upd G' D (.lst acc) → A (i + 1) acc G') → Nx H3) →
      g x (wipe σ vs) H' fun σ2 H2 => wipe σ2 vs = wipe σ vs ∧ tt σ2 H2 fun b H3 =>
        if b = true then te σ2 H3 fun y H4 => ∃ acc, H4 D = some (.lst acc) ∧ acc.length < sizeLine ∧ Nx (upd H4 D (.lst (acc ++ [y]))) else Nx H3)
    (hd : ∀ acc G, Ex Tb H1 G → G D = none → A n acc G → Qd (upd G D (.lst acc))) :
    ∃ W : Nat → Nat → Hp → Prop, (∃ m, W 0 m (upd H1 D (.lst []))) ∧ ∀ i m H, W i m H →
      (J.stop i H ∧ Qd H) ∨ (J.go i H ∧ ∃ Nx : Hp → Prop, (∀ H', Nx H' → ∃ m', m' < m ∧ W (i + 1) m' H') ∧ ∀ x H', J.yld i H x H' → g x (wipe σ vs) H' fun σ2 H2 => wipe σ2 vs = wipe σ vs ∧ tt σ2 H2 fun b H3 =>
        if b = true then te σ2 H3 fun y H4 => ∃ acc, H4 D = some (.lst acc) ∧ acc.length < sizeLine ∧ Nx (upd H4 D (.lst (acc ++ [y]))) else Nx H3) := by
  have ug : ∀ (G : Hp) (o o' : HO), upd (upd G D o) D o' = upd G D o' := fun G o o' => by
    funext b
    by_cases e : b = D
    · rw [e, upd_same, upd_same]
    · rw [upd_ne e, upd_ne e, upd_ne e]
  refine lc_it w (fun i H => ∃ acc G, H = upd G D (.lst acc) ∧ Ex Tb H1 G ∧ G D = none ∧ acc.length ≤ i ∧ A i acc G) ⟨[], H1, rfl, .refl _, hD, Nat.le_refl _, h0⟩ ?_ ?_ ?_
  · rintro i H _ ⟨acc, G, rfl, e, gd, _, _⟩
    exact hG _ (e.trans (.new gd))
  · rintro i x H H' hi ⟨acc, G, rfl, e, gd, hl, ha⟩ hy
    have fin : ∀ (acc2 : List V) (H4 : Hp), Ex Tb (upd G D (.lst acc)) H4 → acc2.length ≤ i + 1 → (∀ G', Ex Tb G G' → G' D = none → H4 = upd G' D (.lst acc) → A (i + 1) acc2 G') →
        ∃ acc' G', upd H4 D (.lst acc2) = upd G' D (.lst acc') ∧ Ex Tb H1 G' ∧ G' D = none ∧ acc'.length ≤ i + 1 ∧ A (i + 1) acc' G' := fun acc2 H4 e4 hl2 k => by
      have h4 : H4 D = some (.lst acc) := e4.lst upd_same
      obtain ⟨G', gd', rfl⟩ := upd_eta h4
      have eg : Ex Tb G G' := e4.strip gd gd' True.intro
      exact ⟨acc2, G', ug _ _ _, e.trans eg, gd', hl2, k G' eg gd' rfl⟩
    refine hs i x acc G H' _ hi e gd ha hy (fun y H4 e4 k => ?_) fun H3 e3 k => ?_
    · exact ⟨acc, e4.lst upd_same, by omega, fin _ _ e4 (by rw [List.length_append, List.length_singleton]; omega) k⟩
    · obtain ⟨acc', G', e1, e2⟩ := fin acc H3 e3 (by omega) k
      have h4 : H3 D = some (.lst acc) := e3.lst upd_same
      obtain ⟨G2, gd2, rfl⟩ := upd_eta h4
      rw [ug] at e1
      exact ⟨acc', G', e1, e2⟩
  · rintro H ⟨acc, G, rfl, e, gd, _, ha⟩
    exact hd acc G e gd ha
/-! ### rules with the written part named: within a comprehension -/
section
variable {X : Cx}
theorem pg_tupK (K : PySem.W.Frag) (n : Nat) {es : List Expr} {k : Nat} {t : TGs} {pos : Pos} (hK : X.K = K) (hc : X.calm = true) (h : PGs X es t)
    (hn : (assignEach es X.env).length = n := by rfl) (hst : (assignEach es X.env).findIdx? (·.1) = none := by rfl) : PG X (.Tuple es k pos) (gTup K n t) := by
  subst hK
  exact pg_tup hc h hn hst
theorem ix_tupK (K : PySem.W.Frag) (hK : X.K = K) : IxR X (rIxT K) := by
  subst hK
  exact ix_tup
theorem ix_listK (K : PySem.W.Frag) (hK : X.K = K) : IxR X (rIxL K) := by
  subst hK
  exact ix_list
theorem op_inK (K : PySem.W.Frag) (hK : X.K = K) : OpR X (compareOp .In) (rIn K false) := by
  subst hK
  exact op_in_seq
theorem op_notInK (K : PySem.W.Frag) (hK : X.K = K) : OpR X (compareOp .NotIn) (rIn K true) := by
  subst hK
  exact op_notIn_seq
theorem pe_fldK (K : PySem.W.Frag) {e : Expr} {f : Str} {pos : Pos} {ta : TE} (hK : X.K = K) (he : PE X e ta) (hb : attributeBase e f X.env (eval e X.env) = eval e X.env) : PE X (.Attribute e f pos) (tFld K ta f) := by
  subst hK
  exact pe_fld he hb
theorem call_lenK (K : PySem.W.Frag) (hK : X.K = K) : CallR X (.builtin "len") (fun xs H Q => ∃ p ys, xs = [.ref p] ∧ (SqL K H p ys ∨ SqT K H p ys) ∧ Q (.int ys.length) H) := by
  subst hK
  exact call_len_seq
end
end FpS
/-! # hashing -/
namespace FpS
open PySem PySem.Spec PyProof.Rows L2
open Kp433 (bytesOf halves)
/-! ### plain -/
def hstep (h b : Nat) : Nat := (h ^^^ b) * 1099511628211 % 18446744073709551616
theorem p64 : (2 : Nat) ^ 64 = 18446744073709551616 := by decide
theorem hash_eq (l : List Nat) : Kp433.hash l = l.foldl (fun h n => (bytesOf n).foldl hstep h) 14695981039346656037 := by
  unfold Kp433.hash
  rw [p64, List.foldl_flatMap]
  rfl
theorem hstep_lt (h b : Nat) : hstep h b < 18446744073709551616 := Nat.mod_lt _ (by decide)
theorem hstep_int (u k : Nat) : ((u ^^^ k : Nat) : Int) * 1099511628211 % 18446744073709551616 = ((hstep u k : Nat) : Int) := by
  unfold hstep
  rw [Int.natCast_emod, Int.natCast_mul]
  rfl
theorem foldl_lt (bs : List Nat) : ∀ {h : Nat}, h < 18446744073709551616 → bs.foldl hstep h < 18446744073709551616 := by
  induction bs with
  | nil => intro h q; exact q
  | cons b bs ih => intro h _; exact ih (hstep_lt h b)
theorem hash_lt (l : List Nat) : Kp433.hash l < 18446744073709551616 := by
  rw [hash_eq]
  suffices ∀ (l : List Nat) (h : Nat), h < 18446744073709551616 → l.foldl (fun h n => (bytesOf n).foldl hstep h) h < 18446744073709551616 from this l _ (by decide)
  intro l
  induction l with
  | nil => intro h q; exact q
  | cons n l ih => intro h q; exact ih _ (foldl_lt _ q)
theorem byte_lt {n b : Nat} (h : b ∈ bytesOf n) : b < 256 := by
  unfold bytesOf at h
  rw [List.mem_map] at h
  obtain ⟨k, _, rfl⟩ := h
  exact Nat.mod_lt _ (by decide)
theorem xor_lt64 {a b : Nat} (ha : a < 18446744073709551616) (hb : b < 256) : a ^^^ b < 18446744073709551616 := by
  rw [← p64] at ha ⊢
  exact Nat.xor_lt_two_pow ha (by omega)
section
variable {P : Program} {w : World} {K : PySem.W.Frag} {mg : Str → Option Value} {base : Heap}
/-! ### bytes_of -/
def sp_bytes_of (T : Txt K mg) : Sp := fun vs H Q _ => ∃ n : Nat, vs = [nV n] ∧ ∀ v H', Ex T.Tb H H' → NL H' v (bytesOf n) → Q v H'
theorem ok_bytes_of (T : Txt K mg) : FnOk P w K mg base CX0 4 T.bytes_of.f T.bytes_of.fd ["number"] (sp_bytes_of T) := by
  refine T.bytes_of.F.ok sc_bytes_of (fun vs H Q E h => ?_) (fun cdv A outer s H vs Q E hr h => ⟨_, (pss_cons (ps_set (i := 1) sc_bytes_of.nd rfl (Or.inl rfl) (pe_lst pa_nil))
    (pss_cons (ps_set (i := 2) sc_bytes_of.nd rfl (Or.inl rfl) (pv 0))
    (pss_cons (ps_for PassesOwn.never rfl (pi_range1 (by rfl) T.range_ (pa_cons (pe_glob (v := .int (8)) rfl T.BYTES.g ⟨_, rfl⟩) pa_nil)) (pg_name (i := 3) sc_bytes_of.nd rfl (Or.inl rfl))
    (pss_cons (ps_expr (pe_bm PySem.F.plainAttrs_list PySem.F.slot_list_append PySem.F.type_list_append mt_append (pv 1) (pa_cons (pe_op op_mod (pv 2) (pe_glob (v := .int (256)) rfl T.BYTE.g ⟨_, rfl⟩)) pa_nil)))
    (pss_one (ps_set (i := 2) sc_bytes_of.nd rfl (Or.inl rfl) (pe_op op_fdiv (pv 2) (pe_glob (v := .int (256)) rfl T.BYTE.g ⟨_, rfl⟩))))))
    (pss_one (ps_ret (pv 1)))))), ?_⟩)
  · obtain ⟨n, rfl, _⟩ := h
    rfl
  obtain ⟨n, rfl, q⟩ := h
  refine ⟨Nat.zero_le _, fun p hp => ⟨_, rfl, 8, rfl, by decide, by decide, for_range (n := 8) (fun i σ H' => ∃ y3, σ = [some (nV n), some (.ref p), some (nV (n / 256 ^ i)), y3] ∧ Ex T.Tb H H' ∧ H' p = some (.lst (((List.range i).map fun k => n / 256 ^ k % 256).map nV))) ?_ ?_ ?_⟩⟩
  · exact ⟨none, by rw [Nat.pow_zero, Nat.div_one]; rfl, .new hp, upd_same⟩
  · rintro i σ H' hi ⟨y3, rfl, e, hl⟩
    refine ⟨_, rfl, .inl ⟨rfl, _, SqL.of hl⟩, _, rfl, _, _, rfl, rfl, (by show (0 : Int) < 256; decide), p, _, _, rfl, rfl, hl, ?_, _, rfl, _, _, rfl, rfl, ⟨by decide, by decide⟩, ?_⟩
    · rw [List.length_map, List.length_map, List.length_range]
      exact Nat.lt_trans hi (by decide)
    · refine ⟨some (.int (0 + (i : Nat))), ?_, e.mut hp hl True.intro, ?_⟩
      · show [some (nV n), some (V.ref p), some (nV (n / 256 ^ i / 256)), _] = _
        rw [Nat.div_div_eq_div_mul, ← Nat.pow_succ]
      · rw [upd_same, List.range_succ, List.map_append, List.map_append]
        rfl
  · rintro σ H' ⟨y3, rfl, e, hl⟩
    exact ⟨_, rfl, q _ _ e ⟨p, rfl, hl⟩⟩
/-! ### hash_of -/
def sp_hash_of (T : Txt K mg) : Sp := fun vs H Q _ => ∃ (a : Addr) (l : List Nat), vs = [.ref a] ∧ H a = some (.lst (l.map nV)) ∧ ∀ H', Ex T.Tb H H' → Q (nV (Kp433.hash l)) H'
theorem ok_hash_of (T : Txt K mg) : FnOk P w K mg base CX0 5 T.hash_of.f T.hash_of.fd ["numbers"] (sp_hash_of T) := by
  refine T.hash_of.F.ok sc_hash_of (fun vs H Q E h => ?_) (fun cdv A outer s H vs Q E hr h => ⟨_, (pss_cons (ps_set (i := 1) sc_hash_of.nd rfl (Or.inl rfl) (pe_glob (v := .int (14695981039346656037)) rfl T.START.g ⟨_, rfl⟩))
    (pss_cons (ps_for PassesOwn.never rfl (pi_list (pv 0)) (pg_name (i := 2) sc_hash_of.nd rfl (Or.inl rfl))
    (pss_one (ps_for PassesOwn.never rfl (pi_list (pe_call (ok_bytes_of T) (hr.mono (by decide)) rfl T.bytes_of.g T.bytes_of.F.kp T.bytes_of.b .nil pass0 (pa_cons (pv 2) pa_nil))) (pg_name (i := 3) sc_hash_of.nd rfl (Or.inl rfl))
    (pss_one (ps_set (i := 1) sc_hash_of.nd rfl (Or.inl rfl) (pe_op op_mod (pe_op op_mul (pe_op op_xor (pv 1) (pv 3)) (pe_glob (v := .int (1099511628211)) rfl T.FACTOR.g ⟨_, rfl⟩)) (pe_glob (v := .int (18446744073709551616)) rfl T.WHOLE.g ⟨_, rfl⟩)))))))
    (pss_one (ps_ret (pv 1))))), ?_⟩)
  · obtain ⟨a, l, rfl, _⟩ := h
    rfl
  obtain ⟨a, l, rfl, ha, q⟩ := h
  refine ⟨_, rfl, a, rfl, ⟨_, SqL.of ha⟩, for_list (xs := l.map nV) (fun i σ H' => ∃ y2 y3, ∃ v : Nat, σ = [some (.ref a), some (nV v), y2, y3] ∧ v < 18446744073709551616 ∧ v = (l.take i).foldl (fun h n => (bytesOf n).foldl hstep h) 14695981039346656037 ∧ Ex T.Tb H H') ⟨none, none, 14695981039346656037, rfl, by decide, rfl, .refl _⟩ (fun i σ H' _ ⟨_, _, _, _, _, _, e⟩ => SqL.of (e.lst ha)) ?_ ?_⟩
  · rintro i x σ H' hi ⟨y2, y3, v, rfl, hv, ev, e⟩
    obtain ⟨n, hn, rfl⟩ := map_get hi
    refine ⟨_, rfl, n, rfl, fun b H1 e1 ⟨p, eb, hb⟩ => ?_⟩
    subst eb
    refine ⟨p, rfl, ⟨_, SqL.of hb⟩, for_list (xs := (bytesOf n).map nV) (fun j σ H' => ∃ y3, ∃ u : Nat, σ = [some (.ref a), some (nV u), some (nV n), y3] ∧ u < 18446744073709551616 ∧ u = ((bytesOf n).take j).foldl hstep v ∧ Ex T.Tb H1 H') ⟨_, _, rfl, hv, rfl, .refl _⟩ (fun i σ H' _ ⟨_, _, _, _, _, e⟩ => SqL.of (e.lst hb)) ?_ ?_⟩
    · rintro j x σ H2 hj ⟨y3, u, rfl, hu, eu, e2⟩
      obtain ⟨k, hk, rfl⟩ := map_get hj
      have kb : k < 256 := byte_lt (List.mem_of_getElem? hk)
      have x64 := xor_lt64 hu kb
      refine ⟨_, rfl, _, rfl, _, _, rfl, rfl, _, _, rfl, rfl, ?_, _, _, rfl, rfl, (by show (0 : Int) < 18446744073709551616; decide), ?_⟩
      · rw [bxor_nat]
        exact .inl ⟨by omega, by omega⟩
      · refine ⟨some (nV k), hstep u k, ?_, hstep_lt _ _, ?_, e2⟩
        · show [_, some (V.int (Builtin.bitXor (u : Int) (k : Int) * 1099511628211 % 18446744073709551616)), _, _] = _
          rw [bxor_nat, hstep_int]
        · rw [tk hk, List.foldl_append, ← eu, List.foldl_cons, List.foldl_nil]
    · rintro σ H2 ⟨y3, u, rfl, hu, eu, e2⟩
      rw [List.length_map, List.take_length] at eu
      refine ⟨_, y3, u, rfl, hu, ?_, (e.trans e1).trans e2⟩
      rw [tk hn, List.foldl_append, ← ev, List.foldl_cons, List.foldl_nil]
      exact eu
  · rintro σ H' ⟨y2, y3, v, rfl, hv, ev, e⟩
    rw [List.length_map, List.take_length, ← hash_eq] at ev
    have q2 := q H' e
    rw [← ev] at q2
    exact ⟨_, rfl, q2⟩
/-! ### halves_of, value_of -/
def sp_halves_of (T : Txt K mg) : Sp := fun vs H Q _ => ∃ n : Nat, vs = [nV n] ∧ ∀ v H', Ex T.Tb H H' → NL H' v (halves n) → Q v H'
theorem ok_halves_of (T : Txt K mg) : FnOk P w K mg base CX0 4 T.halves_of.f T.halves_of.fd ["value"] (sp_halves_of T) := by
  refine T.halves_of.F.ok sc_halves_of (fun vs H Q E h => ?_) (fun cdv A outer s H vs Q E hr h => ⟨_, (pss_one (ps_ret (pe_lst (pa_cons (pe_op op_fdivW (pv 0) (pe_glob (v := .int (4294967296)) rfl T.HALF.g ⟨_, rfl⟩)) (pa_cons (pe_op op_mod (pv 0) (pe_glob (v := .int (4294967296)) rfl T.HALF.g ⟨_, rfl⟩)) pa_nil))))), ?_⟩)
  · obtain ⟨a, rfl, _⟩ := h
    rfl
  obtain ⟨n, rfl, q⟩ := h
  refine ⟨_, rfl, _, _, rfl, rfl, wide_div (b := 33) (by decide) (by decide) (by decide) (by decide), _, rfl, _, _, rfl, rfl, (by show (0 : Int) < 4294967296; decide), (by show 2 ≤ sizeLine; decide), fun p hp => ?_⟩
  exact q _ _ (.new hp) ⟨p, rfl, upd_same⟩
def sp_value_of (T : Txt K mg) : Sp := fun vs H Q _ => ∃ a b : Nat, vs = [nV a, nV b] ∧ Q (nV (Kp433.join a b)) H
theorem ok_value_of (T : Txt K mg) : FnOk P w K mg base CX0 4 T.value_of.f T.value_of.fd ["high", "low"] (sp_value_of T) := by
  refine T.value_of.F.ok sc_value_of (fun vs H Q E h => ?_) (fun cdv A outer s H vs Q E hr h => ⟨_, (pss_one (ps_ret (pe_op op_add (pe_op op_mul (pv 0) (pe_glob (v := .int (4294967296)) rfl T.HALF.g ⟨_, rfl⟩)) (pv 1)))), ?_⟩)
  · obtain ⟨a, b, rfl, _⟩ := h
    rfl
  obtain ⟨a, b, rfl, q⟩ := h
  exact ⟨_, rfl, _, _, rfl, rfl, .inr (by decide), _, rfl, _, _, rfl, rfl, q⟩
end
end FpS
/-! # Plain: the ranking, the sets of positions -/
namespace FpS
open Kp433
/-! ### the ranking -/
section
variable {key : Nat → Nat}
def Ahead (key : Nat → Nat) (i j : Nat) : Prop := key j < key i ∨ (key i = key j ∧ i < j)
theorem insertBy_perm (x : Nat) : ∀ l : List Nat, (insertBy key x l).Perm (x :: l)
  | [] => .refl _
  | y :: rest => by
    unfold insertBy
    by_cases h : key y < key x
    · rw [if_pos h]
    · rw [if_neg h]
      exact ((insertBy_perm x rest).cons y).trans (List.Perm.swap x y rest)
theorem insertBy_mem {x z : Nat} {l : List Nat} : z ∈ insertBy key x l ↔ z = x ∨ z ∈ l := by
  rw [(insertBy_perm x l).mem_iff, List.mem_cons]
theorem Ahead.trans {i j k : Nat} (a : Ahead key i j) (b : Ahead key j k) : Ahead key i k := by
  unfold Ahead at *
  omega
theorem insertBy_sorted (x : Nat) : ∀ l : List Nat, l.Pairwise (Ahead key) → (∀ y ∈ l, y < x) → (insertBy key x l).Pairwise (Ahead key)
  | [], _, _ => by simp [insertBy]
  | y :: rest, h, hlt => by
    rw [List.pairwise_cons] at h
    unfold insertBy
    by_cases c : key y < key x
    · rw [if_pos c, List.pairwise_cons]
      refine ⟨fun z hz => ?_, List.pairwise_cons.mpr h⟩
      have a1 : Ahead key x y := .inl c
      rcases List.mem_cons.mp hz with e | e
      · rw [e]; exact a1
      · exact a1.trans (h.1 z e)
    · rw [if_neg c, List.pairwise_cons]
      refine ⟨fun z hz => ?_, insertBy_sorted x rest h.2 fun z hz => hlt z (List.mem_cons_of_mem _ hz)⟩
      rcases insertBy_mem.mp hz with e | e
      · rw [e]
        have := hlt y List.mem_cons_self
        unfold Ahead
        omega
      · exact h.1 z e
theorem foldl_insert (key : Nat → Nat) : ∀ (xs l : List Nat), l.Pairwise (Ahead key) → xs.Pairwise (· < ·) → (∀ y ∈ l, ∀ x ∈ xs, y < x) →
    (xs.foldl (fun (l : List Nat) (i : Nat) => insertBy key i l) l).Pairwise (Ahead key) ∧ (xs.foldl (fun (l : List Nat) (i : Nat) => insertBy key i l) l).Perm (xs ++ l)
  | [], l, h, _, _ => ⟨h, .refl _⟩
  | x :: xs, l, h, hx, hlt => by
    rw [List.pairwise_cons] at hx
    rw [List.foldl_cons]
    obtain ⟨a, b⟩ := foldl_insert key xs (insertBy key x l) (insertBy_sorted x l h fun y hy => hlt y hy x List.mem_cons_self) hx.2 fun y hy z hz => by
      rcases insertBy_mem.mp hy with e | e
      · rw [e]; exact hx.1 z hz
      · exact hlt y e z (List.mem_cons_of_mem _ hz)
    refine ⟨a, b.trans (((insertBy_perm x l).append_left xs).trans ?_)⟩
    exact List.perm_middle
end
def cands (s : Store) (whole part : List Event) : List Nat := (candidates s whole).filter fun i => decide (0 < scoreOf s part i)
theorem cands_lt (s : Store) (whole part : List Event) : (cands s whole part).Pairwise (· < ·) := by
  unfold cands candidates
  exact (List.pairwise_lt_range.filter _).filter _
theorem ranking_sorted (s : Store) (whole part : List Event) : (ranking s whole part).Pairwise (Ahead (scoreOf s part)) := (foldl_insert (scoreOf s part) (cands s whole part) [] .nil (cands_lt s whole part) (by simp)).1
theorem ranking_perm (s : Store) (whole part : List Event) : (ranking s whole part).Perm (cands s whole part) := by
  have := (foldl_insert (scoreOf s part) (cands s whole part) [] .nil (cands_lt s whole part) (by simp)).2
  rw [List.append_nil] at this
  exact this
/-- the ranking with its scores -/
def rankP (s : Store) (whole part : List Event) : List (Nat × Nat) := (ranking s whole part).map fun i => (i, scoreOf s part i)
def candP (s : Store) (whole part : List Event) : List (Nat × Nat) := (cands s whole part).map fun i => (i, scoreOf s part i)
theorem rankP_eq {s : Store} {whole part : List Event} {l : List (Nat × Nat)} (hp : l.Perm (candP s whole part)) (hs : l.Pairwise fun x y => ¬ (x.2 < y.2 ∨ (y.2 = x.2 ∧ y.1 < x.1))) : l = rankP s whole part := by
  refine List.Perm.eq_of_pairwise (le := fun x y : Nat × Nat => ¬ (x.2 < y.2 ∨ (y.2 = x.2 ∧ y.1 < x.1))) (fun a b _ _ h1 h2 => ?_) hs ?_ (hp.trans ((ranking_perm s whole part).symm.map _))
  · rcases a with ⟨a1, a2⟩
    rcases b with ⟨b1, b2⟩
    simp only at h1 h2
    have : a1 = b1 ∧ a2 = b2 := by omega
    rw [this.1, this.2]
  · unfold rankP
    rw [List.pairwise_map]
    refine (ranking_sorted s whole part).imp fun {i j} h => ?_
    unfold Ahead at h
    simp only
    omega
theorem rankP_head (s : Store) (whole part : List Event) : (rankP s whole part).head? = (first s whole part).map fun i => (i, scoreOf s part i) := by
  unfold rankP first
  rw [List.head?_map]
theorem rankP_len (s : Store) (whole part : List Event) : (rankP s whole part).length = (ranking s whole part).length := List.length_map _
theorem rankP_get (s : Store) (whole part : List Event) (k : Nat) : (rankP s whole part)[k]? = ((ranking s whole part)[k]?).map fun i => (i, scoreOf s part i) := List.getElem?_map
theorem ranking_mem {s : Store} {whole part : List Event} {i : Nat} (h : i ∈ ranking s whole part) : i < s.items ∧ 0 < scoreOf s part i := by
  have := (ranking_perm s whole part).mem_iff.mp h
  unfold cands candidates at this
  simp only [List.mem_filter, List.mem_range, decide_eq_true_eq] at this
  exact ⟨this.1.1, this.2⟩
theorem ranking_len (s : Store) (whole part : List Event) : (ranking s whole part).length ≤ s.items := by
  rw [(ranking_perm s whole part).length_eq]
  unfold cands candidates
  refine Nat.le_trans (List.length_filter_le _ _) (Nat.le_trans (List.length_filter_le _ _) ?_)
  rw [List.length_range]
  exact Nat.le_refl _
/-! ### the sets of positions -/
/-- the sets in the order in which the program makes them -/
def grown : Nat → List (List Nat)
  | 0 => [[]]
  | n + 1 => grown n ++ (grown n).map fun l => l ++ [n]
def lexN : List Nat → List Nat → Bool
  | [], [] => false
  | [], _ :: _ => true
  | _ :: _, [] => false
  | x :: xs, y :: ys => if x = y then lexN xs ys else decide (x < y)
/-- by size, then lexicographic -/
def ltS (a b : List Nat) : Bool := if a.length = b.length then lexN a b else decide (a.length < b.length)
theorem lexN_anti : ∀ a b : List Nat, a.length = b.length → lexN a b = false → lexN b a = false → a = b
  | [], [], _, _, _ => rfl
  | [], _ :: _, h, _, _ => by simp at h
  | _ :: _, [], h, _, _ => by simp at h
  | x :: a, y :: b, h, h1, h2 => by
    unfold lexN at h1 h2
    by_cases e : x = y
    · subst e
      rw [if_pos rfl] at h1 h2
      rw [lexN_anti a b (by simpa using h) h1 h2]
    · rw [if_neg e] at h1
      rw [if_neg (Ne.symm e)] at h2
      have := of_decide_eq_false h1
      have := of_decide_eq_false h2
      omega
theorem ltS_anti {a b : List Nat} (h1 : ltS a b = false) (h2 : ltS b a = false) : a = b := by
  unfold ltS at h1 h2
  by_cases e : a.length = b.length
  · rw [if_pos e] at h1
    rw [if_pos e.symm] at h2
    exact lexN_anti a b e h1 h2
  · rw [if_neg e] at h1
    rw [if_neg (Ne.symm e)] at h2
    have := of_decide_eq_false h1
    have := of_decide_eq_false h2
    omega
def pwB : List (List Nat) → Bool
  | [] => true
  | x :: l => l.all (fun y => !ltS y x) && pwB l
theorem pwB_ok : ∀ {l : List (List Nat)}, pwB l = true → l.Pairwise fun x y => ltS y x = false
  | [], _ => .nil
  | x :: l, h => by
    unfold pwB at h
    rw [Bool.and_eq_true, List.all_eq_true] at h
    exact List.pairwise_cons.mpr ⟨fun y hy => by simpa using h.1 y hy, pwB_ok h.2⟩
theorem sets_ok : ∀ n, n ≤ 7 → pwB (sets n) = true ∧ (sets n).isPerm (grown n) = true := by
  intro n h
  have : n = 0 ∨ n = 1 ∨ n = 2 ∨ n = 3 ∨ n = 4 ∨ n = 5 ∨ n = 6 ∨ n = 7 := by omega
  rcases this with e | e | e | e | e | e | e | e <;> subst e <;> decide +kernel
theorem sets_eq {n : Nat} (h : n ≤ 7) {l : List (List Nat)} (hp : l.Perm (grown n)) (hs : l.Pairwise fun x y => ltS y x = false) : l = sets n := by
  obtain ⟨h1, h2⟩ := sets_ok n h
  refine List.Perm.eq_of_pairwise (le := fun x y => ltS y x = false) (fun a b _ _ q1 q2 => ltS_anti q2 q1) hs (pwB_ok h1) (hp.trans (List.isPerm_iff.mp h2).symm)
def incB : List Nat → Bool
  | a :: b :: r => decide (a < b) && incB (b :: r)
  | _ => true
theorem sets_facts : ∀ n, n ≤ 7 → (sets n).length ≤ 128 ∧ (sets n).all (fun l => l.all (fun i => decide (i < n)) && incB l && decide (l.length ≤ n)) = true ∧ List.range n ∈ sets n ∧ (grown n).length ≤ 128 := by
  intro n h
  have : n = 0 ∨ n = 1 ∨ n = 2 ∨ n = 3 ∨ n = 4 ∨ n = 5 ∨ n = 6 ∨ n = 7 := by omega
  rcases this with e | e | e | e | e | e | e | e <;> subst e <;> decide +kernel
theorem sets_lt {n : Nat} (h : n ≤ 7) {l : List Nat} (hl : l ∈ sets n) : ∀ i ∈ l, i < n := fun i hi => by
  have := (List.all_eq_true.mp (sets_facts n h).2.1) l hl
  simp only [Bool.and_eq_true, List.all_eq_true, decide_eq_true_eq] at this
  exact this.1.1 i hi
theorem sets_len {n : Nat} (h : n ≤ 7) {l : List Nat} (hl : l ∈ sets n) : l.length ≤ n := by
  have := (List.all_eq_true.mp (sets_facts n h).2.1) l hl
  simp only [Bool.and_eq_true, List.all_eq_true, decide_eq_true_eq] at this
  exact this.2
theorem sets_inc {n : Nat} (h : n ≤ 7) {l : List Nat} (hl : l ∈ sets n) : incB l = true := by
  have := (List.all_eq_true.mp (sets_facts n h).2.1) l hl
  simp only [Bool.and_eq_true] at this
  exact this.1.2
/-! ### parts -/
theorem part_range (l : List Event) : ∀ n, part l (List.range n) = l.take n
  | 0 => rfl
  | n + 1 => by
    have ih := part_range l n
    unfold part at ih ⊢
    rw [List.range_succ, List.filterMap_append, ih, List.take_add_one]
    cases e : l[n]? <;> simp [e]
theorem part_all (l : List Event) : part l (List.range l.length) = l := by rw [part_range, List.take_length]
theorem part_nil (l : List Event) : part l [] = [] := rfl
theorem part_snoc (l : List Event) (x : List Nat) {i : Nat} {e : Event} (h : l[i]? = some e) : part l (x ++ [i]) = part l x ++ [e] := by
  unfold part
  rw [List.filterMap_append]
  simp [h]
theorem part_mem {l : List Event} {x : List Nat} {e : Event} (h : e ∈ part l x) : e ∈ l := by
  unfold part at h
  rw [List.mem_filterMap] at h
  obtain ⟨i, _, hi⟩ := h
  exact List.mem_of_getElem? hi
theorem part_len (l : List Event) (x : List Nat) : (part l x).length ≤ x.length := List.length_filterMap_le _ _
theorem without_mem {l : List Event} {x : List Nat} {e : Event} (h : e ∈ without l x) : e ∈ l := part_mem h
theorem without_len (l : List Event) (x : List Nat) : (without l x).length ≤ l.length := by
  refine Nat.le_trans (part_len _ _) (Nat.le_trans (List.length_filter_le _ _) ?_)
  rw [List.length_range]
  exact Nat.le_refl _
/-- the events one by one, kept where the position is not in x -/
def keepFrom (x : List Nat) (l : List Event) (n : Nat) : List Event := part l ((List.range n).filter fun i => !x.contains i)
theorem keep_succ (x : List Nat) (l : List Event) {n : Nat} {e : Event} (h : l[n]? = some e) : keepFrom x l (n + 1) = keepFrom x l n ++ (if x.contains n then [] else [e]) := by
  unfold keepFrom
  rw [List.range_succ, List.filter_append]
  by_cases c : x.contains n = true
  · rw [if_pos c]
    have : List.filter (fun i => !x.contains i) [n] = [] := by rw [List.filter_cons, c]; rfl
    rw [this, List.append_nil, List.append_nil]
  · rw [if_neg c]
    have : List.filter (fun i => !x.contains i) [n] = [n] := by rw [List.filter_cons, Bool.eq_false_iff.mpr c]; rfl
    rw [this]
    exact part_snoc _ _ h
/-! ### the first set -/
theorem first_nil (s : Store) (whole : List Event) : first s whole [] = none := by
  have : ranking s whole [] = [] := by
    unfold ranking
    have : (candidates s whole).filter (fun i => decide (0 < scoreOf s [] i)) = [] := by
      rw [List.filter_eq_nil_iff]
      intro i _
      simp [scoreOf]
    rw [this]
    rfl
  unfold first
  rw [this]
  rfl
theorem without_all (l : List Event) : without l (List.range l.length) = [] := by
  unfold without
  have : (List.range l.length).filter (fun i => !(List.range l.length).contains i) = [] := by
    rw [List.filter_eq_nil_iff]
    intro i hi
    simp only [List.mem_range] at hi
    simp [hi]
  rw [this]
  rfl
theorem find_some {α : Type} {p : α → Bool} {l : List α} {x : α} (h : x ∈ l) (hp : p x = true) : ∃ y, l.find? p = some y := by
  cases e : l.find? p with
  | some y => exact ⟨y, rfl⟩
  | none =>
    have := List.find?_eq_none.mp e x h
    exact absurd hp this
theorem removal_some {s : Store} {l : List Event} (h : l.length ≤ 7) (hf : first s l l ≠ none) : ∃ x, removalSet s l = some x ∧ x ∈ sets l.length := by
  obtain ⟨x, hx⟩ := find_some (p := fun x => first s l (without l x) != first s l l) (sets_facts l.length h).2.2.1 (by
    rw [without_all, first_nil]
    simpa using hf.symm)
  exact ⟨x, hx, List.mem_of_find?_eq_some hx⟩
theorem sufficient_some {s : Store} {l : List Event} (h : l.length ≤ 7) : ∃ x, sufficientSet s l = some x ∧ x ∈ sets l.length := by
  obtain ⟨x, hx⟩ := find_some (p := fun x => first s l (part l x) == first s l l) (sets_facts l.length h).2.2.1 (by
    rw [part_all]
    simp)
  exact ⟨x, hx, List.mem_of_find?_eq_some hx⟩
/-- robust: no set of at most k events changes the first one -/
theorem sizes_up : ∀ n, n ≤ 7 → ∀ k : Nat, k < (sets n).length → ∀ a b, (sets n)[k]? = some a → (sets n)[k + 1]? = some b → a.length ≤ b.length := by
  intro n h k hk a b h1 h2
  have hp := pwB_ok (sets_ok n h).1
  have k2 : k + 1 < (sets n).length := (List.getElem?_eq_some_iff.mp h2).1
  have := (List.pairwise_iff_getElem.mp hp) k (k + 1) hk k2 (by omega)
  rw [List.getElem?_eq_getElem hk] at h1
  rw [List.getElem?_eq_getElem k2] at h2
  rw [Option.some.inj h1, Option.some.inj h2] at this
  unfold ltS at this
  by_cases e : b.length = a.length
  · omega
  · rw [if_neg e] at this
    have := of_decide_eq_false this
    omega
theorem find_pw {α : Type} {R : α → α → Prop} {p : α → Bool} : ∀ {l : List α} {x : α}, l.Pairwise R → l.find? p = some x → ∀ y ∈ l, p y = true → y = x ∨ R x y
  | [], _, _, h, _, _, _ => by cases h
  | z :: l, x, hp, h, y, hy, py => by
    rw [List.pairwise_cons] at hp
    by_cases c : p z = true
    · rw [List.find?_cons_of_pos c] at h
      cases h
      rcases List.mem_cons.mp hy with e | e
      · exact .inl e
      · exact .inr (hp.1 y e)
    · rw [List.find?_cons_of_neg (by simpa using c)] at h
      rcases List.mem_cons.mp hy with e | e
      · rw [e] at py; exact absurd py c
      · exact find_pw hp.2 h y e py
theorem robust_eq {s : Store} {l : List Event} {x : List Nat} {k : Nat} (h : l.length ≤ 7) (hx : removalSet s l = some x) : isRobust s l k = decide (k < x.length) := by
  have hp := pwB_ok (sets_ok l.length h).1
  have hm := List.mem_of_find?_eq_some hx
  have hx2 : (first s l (without l x) != first s l l) = true := List.find?_some (p := fun x => first s l (without l x) != first s l l) hx
  rw [Bool.eq_iff_iff, decide_eq_true_eq]
  unfold isRobust
  rw [List.all_eq_true]
  constructor
  · intro q
    refine Nat.lt_of_not_le fun c => ?_
    have := q x (List.mem_filter.mpr ⟨hm, decide_eq_true c⟩)
    rw [bne, this] at hx2
    cases hx2
  · intro c y hy
    rw [List.mem_filter] at hy
    have hl := of_decide_eq_true hy.2
    rcases e : first s l (without l y) == first s l l with _ | _
    · have py : (first s l (without l y) != first s l l) = true := by rw [bne, e]; rfl
      rcases find_pw hp hx y hy.1 py with r | r
      · rw [r] at hl; omega
      · unfold ltS at r
        by_cases e2 : y.length = x.length
        · omega
        · rw [if_neg e2] at r
          have := of_decide_eq_false r
          omega
    · rfl
end FpS
/-! # ranking: contributions, scores, the ranking -/
namespace FpS
open PySem PySem.Spec PyProof.Rows L2
open Kp433 (Store contribution scoreOf)
theorem sF_items (n : Nat) (sa ma : Addr) : List.lookup ("items_many" : Str) (sF n sa ma) = some (nV n) := by rfl
theorem sF_sim (n : Nat) (sa ma : Addr) : List.lookup ("similarities" : Str) (sF n sa ma) = some (.ref sa) := by rfl
theorem sF_mem (n : Nat) (sa ma : Addr) : List.lookup ("members" : Str) (sF n sa ma) = some (.ref ma) := by rfl
theorem mF_num (n : Nat) (ea : Addr) : List.lookup ("number" : Str) (mF n ea) = some (nV n) := by rfl
theorem mF_ev (n : Nat) (ea : Addr) : List.lookup ("events" : Str) (mF n ea) = some (.ref ea) := by rfl
section
variable {P : Program} {w : World} {K : PySem.W.Frag} {mg : Str → Option Value} {base : Heap}
/-- an error with the code c is let out -/
def Rz (T : Txt K mg) (H : Hp) (c : Int) (E : XK) : Prop := ∀ d H', Ex T.Tb H H' → H' d = some (.xd [(("code" : Str), .int c)]) → E (.ref T.RC) (some d) H'
theorem Rz.mono {T : Txt K mg} {H H1 : Hp} {c : Int} {E : XK} (e : Ex T.Tb H H1) (h : Rz T H c E) : Rz T H1 c E := fun d H' e' hd => h d H' (e.trans e') hd
/-! ### ask -/
def sp_ask (T : Txt K mg) : Sp := fun vs H Q E => ∃ (b : Bool) (c : Int), vs = [.bl b, .int c] ∧ (b = true → Q .non H) ∧ (b = false → Rz T H c E)
theorem ok_ask (T : Txt K mg) : FnOk P w K mg base (L2.CX P w) 4 T.ask.f T.ask.fd ["good", "code"] (sp_ask T) := by
  refine T.ask.F.okX sc_ask (fun vs H Q E h => ?_) (fun cdv A outer s H vs Q E hr h => ⟨_, (pss_one (ps_if (pt_not (pt_val (pv 0))) (pss_one (ps_raiseRef rfl T.ref hr (takes_of rfl rfl rfl rfl) (by exact (pa_cons (pv 1) pa_nil)))) pss_nil)), ?_⟩)
  · obtain ⟨b, c, rfl, _⟩ := h
    rfl
  obtain ⟨b, c, rfl, kT, kF⟩ := h
  refine ⟨_, rfl, b, rfl, ?_⟩
  cases b with
  | true => exact iteF (kT rfl)
  | false => exact iteT ⟨_, rfl, _, rfl, fun d hd => kF rfl d _ (.new hd) upd_same⟩
/-! ### contribution_of -/
theorem sim_at {S : Store} (W : Wf S) {i j : Nat} (hi : i < S.items) (hj : j < S.items) : ∃ r, S.similarities[i]? = some r ∧ r[j]? = some (Kp433.similarity S i j) := by
  have h1 : i < S.similarities.length := by rw [W.rows]; exact hi
  have h2 : j < (S.similarities[i]).length := by rw [W.row _ (List.getElem_mem h1)]; exact hj
  refine ⟨S.similarities[i], List.getElem?_eq_getElem h1, ?_⟩
  rw [List.getElem?_eq_getElem h2]
  have e1 : S.similarities.getD i [] = S.similarities[i] := by rw [List.getD_eq_getElem?_getD, List.getElem?_eq_getElem h1]; rfl
  have e2 : Kp433.similarity S i j = (S.similarities[i]).getD j 0 := by unfold Kp433.similarity; rw [e1]
  rw [e2, List.getD_eq_getElem?_getD, List.getElem?_eq_getElem h2]
  rfl
def sp_contribution_of (T : Txt K mg) : Sp := fun vs H Q _ => ∃ (x y : V) (S : Store) (e : Kp433.Event) (i : Nat), vs = [x, y, nV i] ∧ StR T H x S ∧ PrV H y (evP e) ∧ Wf S ∧ i < S.items ∧ e.item < S.items ∧ e.weight ≤ 100 ∧ Q (nV (contribution S i e)) H
theorem ok_contribution_of (T : Txt K mg) : FnOk P w K mg base CX0 4 T.contribution_of.f T.contribution_of.fd ["store", "event", "item"] (sp_contribution_of T) := by
  refine T.contribution_of.F.ok sc_contribution_of (fun vs H Q E h => ?_) (fun cdv A outer s H vs Q E hr h => ⟨_, (pss_cons (ps_asg (pv 1) (pg_tup (by rfl) (pgs_cons (pg_name (i := 3) sc_contribution_of.nd rfl (Or.inl rfl)) (pgs_cons (pg_name (i := 4) sc_contribution_of.nd rfl (Or.inl rfl)) pgs_nil))))
    (pss_one (ps_ret (pe_op op_mul (pv 4) (pe_ix ix_list (pe_ix ix_list (pe_fld (pv 0) rfl) (pv 3) (fun _ _ => rfl)) (pv 2) (fun _ _ => rfl)))))), ?_⟩)
  · obtain ⟨_, _, _, _, _, rfl, _⟩ := h
    rfl
  obtain ⟨x, y, S, e, i, rfl, ⟨p, dx, sa, ma, rfl, hp, ⟨sa', rows, e1, hsa, hrows⟩, _⟩, ⟨t, rfl, ht⟩, W, hi, he, hw, q⟩ := h
  cases e1
  obtain ⟨r, hr1, hr2⟩ := sim_at W he hi
  obtain ⟨rv, hrv, rp, rfl, hrp⟩ := hrows.get' hr1
  refine ⟨_, rfl, t, _, rfl, SqT.of ht, rfl, _, _, rfl, _, _, rfl, rfl, ?_⟩
  refine ⟨_, rfl, _, rfl, p, _, dx, _, _, rfl, hp, T.Store.cl, T.Store_no_similarities, sF_sim _ _ _, _, rfl, sa, _, _, _, rfl, rfl, SqL.of hsa, atI_nat hrv, _, rfl, rp, _, _, _, rfl, rfl, SqL.of hrp, atI_nat (by rw [List.getElem?_map, hr2]; rfl), _, _, rfl, rfl, .inl ⟨by show -(2 ^ 64) < (e.weight : Int); omega, by show (e.weight : Int) < 2 ^ 64; omega⟩, ?_⟩
  have ec : (e.weight : Int) * ((Kp433.similarity S e.item i : Nat) : Int) = ((contribution S i e : Nat) : Int) := by
    unfold contribution
    rw [W.sym i e.item, Int.natCast_mul]
  show Q (.int ((e.weight : Int) * ((Kp433.similarity S e.item i : Nat) : Int))) H
  rw [ec]
  exact q
/-! ### score_of -/
/-- events that a store can have -/
def EvsOk (S : Store) (l : List Kp433.Event) : Prop := l.length ≤ 8 ∧ ∀ e ∈ l, e.item < S.items ∧ e.weight ≤ 100
def sp_score_of (T : Txt K mg) : Sp := fun vs H Q _ => ∃ (x y : V) (S : Store) (l : List Kp433.Event) (i : Nat), vs = [x, y, nV i] ∧ StR T H x S ∧ PL H y (l.map evP) ∧ Wf S ∧ i < S.items ∧ EvsOk S l ∧ ∀ H', Ex T.Tb H H' → Q (nV (scoreOf S l i)) H'
theorem ok_score_of (T : Txt K mg) : FnOk P w K mg base CX0 5 T.score_of.f T.score_of.fd ["store", "events", "item"] (sp_score_of T) := by
  refine T.score_of.F.ok sc_score_of (fun vs H Q E h => ?_) (fun cdv A outer s H vs Q E hr h => ⟨_, (pss_one (ps_ret (pe_callB (cr_sum rfl) (by rfl) T.sum_ (by decide +kernel) (pa_cons (by exact (pe_lc (own := [("event", 3)]) (by rfl) sc_score_of.nd (pi_list (pv 1)) (blkOk_by (own := [("event", 3)]) (N := N_score_of) (sc := defScope s_score_of) (by decide +kernel)) (fun _ _ _ _ _ => (pg_name (i := 3) sc_score_of.nd rfl (Or.inl rfl))) (fun _ _ _ _ _ => pts_nil) (fun _ _ _ _ _ => (pe_call (ok_contribution_of T) (hr.mono (by decide)) rfl T.contribution_of.g T.contribution_of.F.kp T.contribution_of.b .nil pass0 (pa_cons (pv 0) (pa_cons (pv 3) (pa_cons (pv 2) pa_nil))))))) pa_nil)))), ?_⟩)
  · obtain ⟨_, _, _, _, _, rfl, _⟩ := h
    rfl
  obtain ⟨x, y, S, l, i, rfl, hS, ⟨ea, xs, rfl, hea, hpr⟩, W, hi, ho, q⟩ := h
  have hlen : xs.length = l.length := by rw [hpr.length, List.length_map]
  refine ⟨_, rfl, ea, rfl, ⟨_, SqL.of hea⟩, fun D hD => lc_ex (walk_list (K := K) (a := ea) (xs := xs)) (Tb := T.Tb) (fun j acc G => acc = ((l.take j).map (contribution S i)).map nV) (by rw [hlen]; exact Nat.lt_of_le_of_lt ho.1 (by decide)) hD (fun H' e => SqL.of (e.lst hea)) rfl ?_ ?_⟩
  · rintro j x acc G H' Nx hj eG gD rfl ⟨rfl, hx⟩ kY kN
    obtain ⟨pr, hpr1, hpr2⟩ := hpr.get hx
    obtain ⟨e, he, rfl⟩ := map_get hpr1
    have hem := ho.2 e (List.mem_of_getElem? he)
    have eH : Ex T.Tb H (upd G D (.lst (((l.take j).map (contribution S i)).map nV))) := eG.trans (.new gD)
    refine ⟨rfl, _, rfl, _, rfl, _, rfl, _, _, S, e, i, rfl, eH.st hS, eH.prv hpr2, W, hi, hem.1, hem.2, kY _ _ (.refl _) fun G' _ _ _ => ?_⟩
    rw [tk he, List.map_append, List.map_append]
    rfl
  · rintro acc G eG gD rfl
    rw [hlen, List.take_length]
    refine ⟨D, (l.map (contribution S i)).map (fun n : Nat => (n : Int)), rfl, SqL.of (by rw [upd_same, ← map_nV]), ?_⟩
    have es : ((l.map (contribution S i)).map (fun n : Nat => (n : Int))).sum = ((scoreOf S l i : Nat) : Int) := by
      unfold scoreOf
      generalize l.map (contribution S i) = ns
      induction ns with
      | nil => rfl
      | cons n ns ih => rw [List.map_cons, List.sum_cons, List.sum_cons, ih, Int.natCast_add]
    rw [es]
    exact q _ (eG.trans (.new gD))
end
end FpS
/-! # ranking_by -/
namespace FpS
open PySem PySem.Spec PyProof.Rows L2
open Kp433 (Store contribution scoreOf)
theorem F2.perm {α β : Type} {R : α → β → Prop} {xs xs' : List α} (p : xs'.Perm xs) : ∀ {ys : List β}, F2 R xs ys → ∃ ys', ys'.Perm ys ∧ F2 R xs' ys' := by
  induction p with
  | nil => intro ys h; cases h; exact ⟨[], .refl _, .nil⟩
  | cons x _ ih =>
    intro ys h
    cases h with
    | cons r t =>
      obtain ⟨ys', p', f'⟩ := ih t
      exact ⟨_ :: ys', p'.cons _, .cons r f'⟩
  | swap x y l =>
    intro ys h
    cases h with
    | cons r t =>
      cases t with
      | cons r2 t2 => exact ⟨_, List.Perm.swap _ _ _, .cons r2 (.cons r t2)⟩
  | trans p1 p2 ih1 ih2 =>
    intro ys h
    obtain ⟨y1, q1, f1⟩ := ih2 h
    obtain ⟨y2, q2, f2⟩ := ih1 f1
    exact ⟨y2, q2.trans q1, f2⟩
theorem F2.pairwise {α β : Type} {R : α → β → Prop} {S : α → α → Prop} {S' : β → β → Prop} {xs : List α} {ys : List β} (h : F2 R xs ys) (hp : xs.Pairwise S) (k : ∀ x y x' y', x ∈ xs → x' ∈ xs → R x y → R x' y' → S x x' → S' y y') : ys.Pairwise S' := by
  induction h with
  | nil => exact .nil
  | @cons a b as bs r t ih =>
    rw [List.pairwise_cons] at hp ⊢
    refine ⟨fun y hy => ?_, ih hp.2 fun x y x' y' h1 h2 => k x y x' y' (List.mem_cons_of_mem _ h1) (List.mem_cons_of_mem _ h2)⟩
    obtain ⟨i, hi⟩ := List.getElem?_of_mem hy
    obtain ⟨x, hx, rx⟩ := t.get' hi
    exact k a b x y List.mem_cons_self (List.mem_cons_of_mem _ (List.mem_of_getElem? hx)) r rx (hp.1 x (List.mem_of_getElem? hx))
theorem F2.mem {α β : Type} {R : α → β → Prop} {xs : List α} {ys : List β} (h : F2 R xs ys) {x : α} (hx : x ∈ xs) : ∃ y, y ∈ ys ∧ R x y := by
  obtain ⟨i, hi⟩ := List.getElem?_of_mem hx
  obtain ⟨y, hy, r⟩ := h.get hi
  exact ⟨y, List.mem_of_getElem? hy, r⟩
theorem inV_nV (n : Nat) (l : List Nat) : inV (nV n) (l.map nV) = l.contains n := by
  unfold inV
  rw [List.any_map]
  induction l with
  | nil => rfl
  | cons m l ih =>
    rw [List.any_cons, ih, List.contains_cons]
    congr 1
    show ((m : Int) == (n : Int)) = (n == m)
    rw [Bool.eq_iff_iff, beq_iff_eq, beq_iff_eq]
    omega
theorem flat_nV (l : List Nat) : (l.map nV).all flatV = true := by
  rw [List.all_eq_true]
  intro x hx
  rw [List.mem_map] at hx
  obtain ⟨n, _, rfl⟩ := hx
  rfl
/-! ### the key of a pair -/
def kdP (H : Hp) : V → KD
  | .ref t => match H t with
    | some (.tup [.int i, .int s]) => (0 - s, .inl i)
    | _ => (0, .inl 0)
  | _ => (0, .inl 0)
theorem kdP_eq {H : Hp} {v : V} {x : Nat × Nat} (h : PrV H v x) : kdP H v = (0 - (x.2 : Int), .inl (x.1 : Int)) := by
  obtain ⟨p, rfl, h⟩ := h
  show (match H p with
    | some (.tup [.int i, .int s]) => ((0 - s, .inl i) : KD)
    | _ => (0, .inl 0)) = _
  rw [h]
theorem ltP_iff (x y : Nat × Nat) : ltD (0 - (y.2 : Int), .inl (y.1 : Int)) (0 - (x.2 : Int), .inl (x.1 : Int)) = false ↔ ¬ (x.2 < y.2 ∨ (y.2 = x.2 ∧ y.1 < x.1)) := by
  unfold ltD
  by_cases e : y.2 = x.2
  · have e1 : (0 - (y.2 : Int)) = 0 - (x.2 : Int) := by omega
    rw [if_pos e1]
    show decide ((y.1 : Int) < (x.1 : Int)) = false ↔ _
    rw [decide_eq_false_iff_not]
    omega
  · have e1 : ¬ (0 - (y.2 : Int)) = 0 - (x.2 : Int) := by omega
    rw [if_neg e1, decide_eq_false_iff_not]
    show ¬ (0 - (y.2 : Int) < 0 - (x.2 : Int)) ↔ _
    omega
/-! ### the lambdas -/
def kwLam (s : Stmt) (q : Str) : Lam := match s with
  | .Return (some (.Call _ _ [⟨_, .Lambda p b sc _, _⟩] _)) _ => ⟨p, b, sc, q⟩
  | _ => ⟨defArgs (.Pass ⟨0, 0, 0, 0⟩), .Constant (.int 0) 0 ⟨0, 0, 0, 0⟩, defScope (.Pass ⟨0, 0, 0, 0⟩), q⟩
abbrev lamR : Lam := kwLam ((defBody s_ranking_by).getD 2 (.Pass ⟨0, 0, 0, 0⟩)) "ranking_by.<locals>.<lambda>"
abbrev lamP : Lam := kwLam ((defBody s_position_sets).getD 2 (.Pass ⟨0, 0, 0, 0⟩)) "position_sets.<locals>.<lambda>"
theorem sc_lamR : FnScope ["pair"] ["pair"] lamR.scope := ⟨rfl, rfl, rfl, by decide +kernel, rfl, by decide +kernel, by decide +kernel⟩
theorem sc_lamP : FnScope ["one"] ["one"] lamP.scope := ⟨rfl, rfl, rfl, by decide +kernel, rfl, by decide +kernel, by decide +kernel⟩
section
variable {P : Program} {w : World} {K : PySem.W.Frag} {mg : Str → Option Value} {base : Heap}
theorem okC {x qual : Str} {st : Stmt} {f : Addr} {fd : FuncData} {N ps : List Str} {k : Nat} {sp : Sp} (F : Fun K x qual st f fd) (S : FnScope N ps (defScope st)) (len : ∀ vs H Q E, sp vs H Q E → vs.length = ps.length)
    (hbody : ∀ (cdv : Value) (A : Around) (outer : List Env) (s : Shared) (H : Hp) (vs : List V) (Q : VK) (E : XK), fd.code = cdv → Room k (A.deeper (envOfC qual (defScope st) s.heap.objs.size f cdv)) → sp vs H Q E →
      ∃ t, PSs (cxOf CX0 P w K mg base N qual (defScope st) f cdv A outer s H E).nox (defBody st) t ∧ t { nx := fun _ H' => Q .non H', rt := Q } (start N vs) H) : FnOk P w K mg base CX0 (k + 1) f fd ps sp := by
  obtain ⟨oc, od, kV, doc, pm, an, cdv, ct, osl, rfl, lk, hcd⟩ := F.ex
  refine fn_of lk hcd S len fun A outer s H vs Q E hr hsp => ?_
  obtain ⟨t, h, q⟩ := hbody cdv A outer s H vs Q E rfl hr hsp
  exact ⟨t, h.nox, q⟩
theorem qual_R : (("ranking_by" : Str) ++ ".<locals>.") ++ "<lambda>" = lamR.qual := by decide +kernel
theorem qual_P : (("position_sets" : Str) ++ ".<locals>.") ++ "<lambda>" = lamP.qual := by decide +kernel
theorem Tb_mR (T : Txt K mg) : (T.pR, lamR.qual) ∈ T.Tb := List.mem_cons_self
theorem Tb_mP (T : Txt K mg) : (T.pP, lamP.qual) ∈ T.Tb := List.mem_cons_of_mem _ List.mem_cons_self
theorem Tb_uR (T : Txt K mg) : ∀ p ∈ T.Tb, p.1 = T.pR → p.2 = lamR.qual := fun p hp e => by
  rcases List.mem_cons.mp hp with q | q
  · rw [q]; rfl
  · rw [List.mem_singleton.mp q] at e
    exact absurd e.symm T.ne
theorem Tb_uP (T : Txt K mg) : ∀ p ∈ T.Tb, p.1 = T.pP → p.2 = lamP.qual := fun p hp e => by
  rcases List.mem_cons.mp hp with q | q
  · rw [q] at e
    exact absurd e T.ne
  · rw [List.mem_singleton.mp q]; rfl
/-! ### ranking_by -/
def sp_ranking_by (T : Txt K mg) : Sp := fun vs H Q _ => ∃ (x y z : V) (S : Store) (l m : List Kp433.Event), vs = [x, y, z] ∧ StR T H x S ∧ PL H y (l.map evP) ∧ PL H z (m.map evP) ∧ Wf S ∧ l.length ≤ 8 ∧ EvsOk S m ∧ LamX.Tabs T.Tb H ∧
  ∀ v H', Ex T.Tb H H' → PL H' v (rankP S l m) → Q v H'
theorem ok_ranking_by (T : Txt K mg) (B : Bs T base) : FnOk P w K mg base CX0 9 T.ranking_by.f T.ranking_by.fd ["store", "everything", "chosen"] (sp_ranking_by T) := by
  refine okC T.ranking_by.F sc_ranking_by (fun vs H Q E h => ?_) (fun cdv A outer s H vs Q E hcd hr h => ⟨_, (pss_cons (ps_set (i := 3) sc_ranking_by.nd rfl (Or.inr rfl) (by exact (pe_lc (own := [("item", 5), ("weight", 6)]) (by rfl) sc_ranking_by.nd (pi_list (pv 1)) (blkOk_by (own := [("item", 5), ("weight", 6)]) (N := N_ranking_by) (sc := defScope s_ranking_by) (by decide +kernel)) (fun _ _ _ _ _ => (pg_tupK K 2 rfl (by rfl) (pgs_cons (pg_name (i := 5) sc_ranking_by.nd rfl (Or.inl rfl)) (pgs_cons (pg_name (i := 6) sc_ranking_by.nd rfl (Or.inl rfl)) pgs_nil)))) (fun _ _ _ _ _ => pts_nil) (fun _ _ _ _ _ => (pv 5)))))
    (pss_cons (ps_setLc (i := 4) (own := [("item", 5)]) (by rfl) sc_ranking_by.nd rfl rfl (sw_true rfl rfl rfl (by decide +kernel)) (pi_range1 (by rfl) T.range_ (pa_cons (pe_fld (pv 0) rfl) pa_nil)) (blkOk_by (own := [("item", 5)]) (N := N_ranking_by) (sc := defScope s_ranking_by) (by decide +kernel)) (fun _ _ _ _ _ => (pg_name (i := 5) sc_ranking_by.nd rfl (Or.inl rfl))) (fun _ _ _ _ _ => (pts_one (pt_cmpR (op_notInK K rfl) (pv 5) (pv 3) (by rfl)))) (fun _ _ _ _ _ => (pe_tup (pa_cons (pv 5) (pa_cons (pe_call (ok_score_of T) (hr.mono (by decide)) rfl T.score_of.g T.score_of.F.kp T.score_of.b .nil pass0 (pa_cons (pv 0) (pa_cons (pv 2) (pa_cons (pv 5) pa_nil)))) pa_nil)))))
    (pss_one (ps_ret (pe_callBK (cr_sortedLam (k := 5) (Tb := T.Tb) (L := lamR) (N := ["pair"]) (x := "pair") (hr.mono (by decide)) sc_lamR (fun _ _ _ us h => match us, h with | [_], _ => rfl) (fun A outer s H f c => (pe_tup (pa_cons (pe_op op_sub pe_int (pe_ix (ix_tupK K rfl) (pv 0) pe_int (fun _ _ => rfl))) (pa_cons (pe_ix (ix_tupK K rfl) (pv 0) pe_int (fun _ _ => rfl)) pa_nil))))) (by rfl) T.sorted_ (by decide +kernel) (pa_cons (by exact (pe_lc (own := [("pair", 7)]) (by rfl) sc_ranking_by.nd (pi_list (pv 4)) (blkOk_by (own := [("pair", 7)]) (N := N_ranking_by) (sc := defScope s_ranking_by) (by decide +kernel)) (fun _ _ _ _ _ => (pg_name (i := 7) sc_ranking_by.nd rfl (Or.inl rfl))) (fun _ _ _ _ _ => (pts_one (pt_cmpR op_gt (pe_ix (ix_tupK K rfl) (pv 7) pe_int (fun _ _ => rfl)) pe_int (nomark _)))) (fun _ _ _ _ _ => (pv 7)))) pa_nil) (pk_cons (pe_lam (L := lamR) B.bR (by exact hcd.symm.trans T.kR) (Tb_mR T) (Tb_uR T) qual_R rfl rfl rfl) pk_nil)))))), ?_⟩)
  · obtain ⟨_, _, _, _, _, _, rfl, _⟩ := h
    rfl
  obtain ⟨x, y, z, S, l, m, rfl, hS, ⟨ea, xs, rfl, hea, hpr⟩, hz, W, hl8, ho, hT, q⟩ := h
  have hlen : xs.length = l.length := by rw [hpr.length, List.length_map]
  -- concerned
  refine ⟨_, rfl, ea, rfl, ⟨_, SqL.of hea⟩, fun D hD => lc_ex (walk_list (K := K) (a := ea) (xs := xs)) (Tb := T.Tb) (fun j acc G => acc = ((l.take j).map fun e => e.item).map nV) (by rw [hlen]; exact Nat.lt_of_le_of_lt hl8 (by decide)) hD (fun H' e => SqL.of (e.lst hea)) rfl ?_ ?_⟩
  · rintro j x acc G H' Nx hj eG gD rfl ⟨rfl, hx⟩ kY kN
    obtain ⟨pr, hpr1, hpr2⟩ := hpr.get hx
    obtain ⟨e, he, rfl⟩ := map_get hpr1
    have eH : Ex T.Tb H (upd G D (.lst (((l.take j).map fun e => e.item).map nV))) := eG.trans (.new gD)
    obtain ⟨t, rfl, ht⟩ := eH.prv hpr2
    refine ⟨t, _, rfl, SqT.of ht, rfl, _, _, rfl, _, _, rfl, rfl, rfl, _, rfl, kY _ _ (.refl _) fun G' _ _ _ => ?_⟩
    rw [tk he, List.map_append, List.map_append]
    rfl
  rintro acc G eG gD rfl
  rw [hlen, List.take_length]
  generalize hH1 : upd G D (.lst ((l.map fun e => e.item).map nV)) = H1
  have e1 : Ex T.Tb H H1 := hH1 ▸ eG.trans (.new gD)
  have hD1 : H1 D = some (.lst ((l.map fun e => e.item).map nV)) := hH1 ▸ upd_same
  obtain ⟨p, dx, sa, ma, rfl, hp, _⟩ := e1.st hS
  -- scored
  have it6 := W.hi
  refine ⟨_, rfl, p, _, dx, _, _, rfl, hp, T.Store.cl, T.Store_no_items_many, sF_items _ _ _, _, rfl, by omega, by omega, fun D2 hD2 => lc_ex (walk_range (lo := 0) (n := ((S.items : Nat) : Int).toNat)) (Tb := T.Tb) (fun j acc G => F2 (PrV G) acc (((List.range j).filter fun i => !l.any fun e => e.item == i).map fun i => (i, scoreOf S m i))) (by rw [Int.toNat_natCast]; exact Nat.lt_of_le_of_lt it6 (by decide)) hD2 (fun _ _ => True.intro) .nil ?_ ?_⟩
  · rintro j x acc G2 H' Nx hj eG2 gD2 hacc ⟨rfl, hx⟩ kY kN
    rw [Int.toNat_natCast] at hj
    have ej : x = nV j := by rw [hx]; show V.int (0 + ((j : Nat) : Int)) = _; rw [Int.zero_add]
    subst ej
    have eH : Ex T.Tb H1 (upd G2 D2 (.lst acc)) := eG2.trans (.new gD2)
    refine ⟨rfl, _, rfl, _, rfl, D, _, rfl, .inl (SqL.of (eH.lst hD1)), rfl, flat_nV _, _, rfl, ?_⟩
    rw [inV_nV]
    have ec : (l.map fun e => e.item).contains j = l.any fun e => e.item == j := by
      rw [List.contains_eq_any_beq, List.any_map]
      congr 1
      funext e
      show (j == e.item) = (e.item == j)
      rw [Bool.eq_iff_iff, beq_iff_eq, beq_iff_eq]
      exact eq_comm
    rw [ec]
    cases hc : l.any fun e => e.item == j with
    | true =>
      refine iteF (kN _ (.refl _) fun G' e' _ _ => ?_)
      rw [List.range_succ, List.filter_append, List.filter_cons, hc]
      show F2 (PrV G') acc (((List.range j).filter _ ++ []).map _)
      rw [List.append_nil]
      exact e'.prs hacc
    | false =>
      refine iteT ⟨_, rfl, _, rfl, _, rfl, _, rfl, _, _, S, m, j, rfl, (e1.trans eH).st hS, (e1.trans eH).pl hz, W, hj, ho, fun H3 e3 => ⟨(by show 2 ≤ sizeLine; decide), fun t ht => kY _ _ (e3.trans (.new ht)) fun G' e' gd' e4 => ?_⟩⟩
      rw [List.range_succ, List.filter_append, List.filter_cons, hc, List.map_append]
      refine (e'.prs hacc).append (.one ⟨t, rfl, ?_⟩)
      have ht2 : t ≠ D2 := fun z => by
        rw [z] at ht
        rw [e3.lst upd_same] at ht
        cases ht
      have := congrFun e4 t
      rw [upd_same, upd_ne ht2] at this
      exact this.symm
  rintro acc2 G2 eG2 gD2 hacc2
  rw [Int.toNat_natCast] at hacc2
  generalize hH2 : upd G2 D2 (.lst acc2) = H2
  have e2 : Ex T.Tb H1 H2 := hH2 ▸ eG2.trans (.new gD2)
  have hD2' : H2 D2 = some (.lst acc2) := hH2 ▸ upd_same
  have hc2 : F2 (PrV H2) acc2 ((Kp433.candidates S l).map fun i => (i, scoreOf S m i)) := hH2 ▸ (Ex.new (Tb := T.Tb) gD2).prs hacc2
  have hl2 : acc2.length ≤ 6 := by
    rw [hc2.length, List.length_map]
    refine Nat.le_trans (List.length_filter_le _ _) ?_
    rw [List.length_range]
    exact it6
  -- the ones that have a score
  refine ⟨_, rfl, D2, rfl, ⟨_, SqL.of hD2'⟩, fun D3 hD3 => lc_ex (walk_list (K := K) (a := D2) (xs := acc2)) (Tb := T.Tb) (fun j acc G => F2 (PrV G) acc ((((Kp433.candidates S l).map fun i => (i, scoreOf S m i)).take j).filter fun x => decide (0 < x.2))) (Nat.lt_of_le_of_lt hl2 (by decide)) hD3 (fun H' e => SqL.of (e.lst hD2')) .nil ?_ ?_⟩
  · rintro j x acc G3 H' Nx hj eG3 gD3 hacc ⟨rfl, hx⟩ kY kN
    obtain ⟨pr, hpr1, hpr2⟩ := hc2.get hx
    have eH : Ex T.Tb H2 (upd G3 D3 (.lst acc)) := eG3.trans (.new gD3)
    obtain ⟨t, rfl, ht⟩ := eH.prv hpr2
    refine ⟨rfl, _, rfl, t, _, _, _, rfl, rfl, SqT.of ht, atI_nat (j := 1) rfl, _, _, rfl, rfl, _, rfl, ?_⟩
    have ef : ((((Kp433.candidates S l).map fun i => (i, scoreOf S m i)).take (j + 1)).filter fun x => decide (0 < x.2)) = ((((Kp433.candidates S l).map fun i => (i, scoreOf S m i)).take j).filter fun x => decide (0 < x.2)) ++ if 0 < pr.2 then [pr] else [] := by
      rw [tk hpr1, List.filter_append, List.filter_cons]
      by_cases c : 0 < pr.2
      · rw [if_pos c, if_pos (decide_eq_true c)]; rfl
      · rw [if_neg c, decide_eq_false c]; rfl
    by_cases c : 0 < pr.2
    · rw [if_pos c] at ef
      rw [decide_eq_true (show (0 : Int) < (pr.2 : Int) by omega)]
      refine iteT ⟨_, rfl, kY _ _ (.refl _) fun G' e' _ e4 => ?_⟩
      rw [ef]
      exact (e'.prs hacc).append (.one ((eG3.trans e').prv hpr2))
    · rw [if_neg c, List.append_nil] at ef
      rw [decide_eq_false (show ¬ (0 : Int) < (pr.2 : Int) by omega)]
      refine iteF (kN _ (.refl _) fun G' e' _ _ => ?_)
      rw [ef]
      exact e'.prs hacc
  rintro acc3 G3 eG3 gD3 hacc3
  rw [hc2.length, List.take_length] at hacc3
  generalize hH3 : upd G3 D3 (.lst acc3) = H3
  have e3 : Ex T.Tb H2 H3 := hH3 ▸ eG3.trans (.new gD3)
  have hD3' : H3 D3 = some (.lst acc3) := hH3 ▸ upd_same
  have hc3 : F2 (PrV H3) acc3 (candP S l m) := by
    have q3 : F2 (PrV H3) acc3 (((Kp433.candidates S l).map fun i => (i, scoreOf S m i)).filter fun x => decide (0 < x.2)) := hH3 ▸ (Ex.new (Tb := T.Tb) gD3).prs hacc3
    rw [List.filter_map] at q3
    exact q3
  -- sorted
  refine ⟨((e1.trans e2).trans e3).tab hT, fun f c' H4 e4 nf hf hc' => ?_⟩
  have hc4 := e4.prs hc3
  refine ⟨D3, f, c', acc3, kdP H4, false, rfl, rfl, hf, hc', SqL.of (e4.lst hD3'), fun x hx => ?_, fun x hx => ?_, fun x hx H5 e5 Q' k => ?_, fun out p H5 e5 np hperm hpw => ?_⟩
  · obtain ⟨y, _, t, ht, _⟩ := hc4.mem hx
    exact ⟨t, ht⟩
  · obtain ⟨y, _, r⟩ := hc4.mem hx
    rw [kdP_eq r]
    rfl
  · obtain ⟨y, _, r⟩ := hc4.mem hx
    rw [kdP_eq r] at k
    obtain ⟨t, rfl, ht⟩ := e5.prv r
    refine ⟨_, rfl, t, _, _, _, rfl, rfl, SqT.of ht, atI_nat (j := 1) rfl, _, _, rfl, rfl, _, rfl, t, _, _, _, rfl, rfl, SqT.of ht, atI_nat (j := 0) rfl, (by show 2 ≤ sizeLine; decide), fun u hu => k _ _ (.new hu) ?_⟩
    exact ⟨u, _, rfl, upd_same, rfl⟩
  · obtain ⟨ys, hys, hf2⟩ := hc4.perm hperm
    have hs := hf2.pairwise hpw (S' := fun x y : Nat × Nat => ¬ (x.2 < y.2 ∨ (y.2 = x.2 ∧ y.1 < x.1))) fun x y x' y' _ _ r r' h => by
      rw [kdP_eq r, kdP_eq r'] at h
      exact (ltP_iff y y').mp h
    have ey := rankP_eq hys hs
    subst ey
    have ee := (((e1.trans e2).trans e3).trans e4).trans (e5.trans (.new (o := .lst out) np))
    exact q _ _ ee ⟨p, out, rfl, upd_same, (e5.trans (.new np)).prs hf2⟩
end
end FpS
/-! # Plain: trees, proofs' steps -/
namespace FpS
open Kp433
theorem range_cons (n : Nat) : List.range (n + 1) = 0 :: (List.range n).map Nat.succ := List.range_succ_eq_map
def pairAt (l : List Nat) (i : Nat) : Nat := nodeHash (l.getD (2 * i) 0) (l.getD (2 * i + 1) 0)
theorem pairAt_zero (a b : Nat) (rest : List Nat) : pairAt (a :: b :: rest) 0 = nodeHash a b := rfl
theorem pairAt_succ (a b : Nat) (rest : List Nat) (i : Nat) : pairAt (a :: b :: rest) (i + 1) = pairAt rest i := by
  unfold pairAt
  have e1 : 2 * (i + 1) = 2 * i + 1 + 1 := by omega
  rw [e1, List.getD_cons_succ, List.getD_cons_succ, List.getD_cons_succ, List.getD_cons_succ]
theorem next_eq : ∀ l : List Nat, nextLevel l = (List.range (l.length / 2)).map (pairAt l) ++ l.drop (2 * (l.length / 2))
  | [] => by simp [nextLevel]
  | [a] => by simp [nextLevel]
  | a :: b :: rest => by
    have ih := next_eq rest
    have e : (a :: b :: rest).length / 2 = rest.length / 2 + 1 := by
      rw [List.length_cons, List.length_cons]; omega
    have e2 : 2 * (rest.length / 2 + 1) = 2 * (rest.length / 2) + 1 + 1 := by omega
    have e3 : nextLevel (a :: b :: rest) = nodeHash a b :: nextLevel rest := by rw [nextLevel]
    have e4 : (List.range (rest.length / 2)).map (pairAt (a :: b :: rest) ∘ Nat.succ) = (List.range (rest.length / 2)).map (pairAt rest) := by
      refine List.map_congr_left fun i _ => ?_
      rw [Function.comp_apply, Nat.succ_eq_add_one]
      exact pairAt_succ a b rest i
    have e5 := pairAt_zero a b rest
    generalize nodeHash a b = x at e3 e5
    rw [e3, ih, e, range_cons, List.map_cons, List.map_map, e4, e5, e2, List.drop_succ_cons, List.drop_succ_cons, List.cons_append]
theorem next_len (l : List Nat) : (nextLevel l).length = (l.length + 1) / 2 := by
  rw [next_eq, List.length_append, List.length_map, List.length_range, List.length_drop]
  omega
/-- the levels, the leaves first -/
def chain : Nat → List Nat → List (List Nat)
  | 0, l => [l]
  | k + 1, l => if l.length ≤ 1 then [l] else l :: chain k (nextLevel l)
theorem chain_last : ∀ (k : Nat) (l : List Nat), ∃ d x, chain k l = d ++ [x] ∧ x.headD (hash [0]) = rootFrom k l ∧ (l ≠ [] → l.length ≤ k + 1 → x ≠ [])
  | 0, l => ⟨[], l, rfl, rfl, fun h _ => h⟩
  | k + 1, l => by
    unfold chain rootFrom
    by_cases c : l.length ≤ 1
    · rw [if_pos c, if_pos c]
      exact ⟨[], l, rfl, rfl, fun h _ => h⟩
    · rw [if_neg c, if_neg c]
      obtain ⟨d, x, h1, h2, h3⟩ := chain_last k (nextLevel l)
      refine ⟨l :: d, x, by rw [h1]; rfl, h2, fun _ hl => h3 ?_ ?_⟩
      · intro z
        have := next_len l
        rw [z] at this
        simp only [List.length_nil] at this
        omega
      · rw [next_len]; omega
/-! ### the proof's steps -/
def stepAt (l : List Nat) (i : Nat) : List (Nat × Nat) := if i % 2 = 1 then [(0, l.getD (i - 1) 0)] else if i + 1 < l.length then [(1, l.getD (i + 1) 0)] else []
def proofC : List (List Nat) → Nat → List (Nat × Nat)
  | [], _ => []
  | l :: ls, i => stepAt l i ++ proofC ls (i / 2)
def okL : List (List Nat) → Nat → Prop
  | [], _ => True
  | l :: ls, i => i < l.length ∧ okL ls (i / 2)
theorem getD_some {l : List Nat} {i : Nat} (h : i < l.length) : l[i]? = some (l.getD i 0) := by
  rw [List.getD_eq_getElem?_getD, List.getElem?_eq_getElem h]; rfl
theorem okL_chain : ∀ (k : Nat) (l : List Nat) (i : Nat), i < l.length → okL (chain k l) i
  | 0, l, i, h => ⟨h, True.intro⟩
  | k + 1, l, i, h => by
    unfold chain
    by_cases c : l.length ≤ 1
    · rw [if_pos c]; exact ⟨h, True.intro⟩
    · rw [if_neg c]
      exact ⟨h, okL_chain k _ _ (by rw [next_len]; omega)⟩
theorem proofFrom_succ {k : Nat} {l : List Nat} {i : Nat} (c : ¬ l.length ≤ 1) (h : i < l.length) : proofFrom (k + 1) l i = stepAt l i ++ proofFrom k (nextLevel l) (i / 2) := by
  rw [proofFrom, if_neg c]
  unfold stepAt
  have m : i % 2 = 0 ∨ i % 2 = 1 := by omega
  rcases m with m | m
  · rw [if_neg (by omega)]
    by_cases c : i + 1 < l.length
    · rw [if_pos c]
      have h1 := getD_some c
      cases h2 : l[i - 1]? <;> simp only [m, h1]
    · rw [if_neg c]
      have h1 : l[i + 1]? = none := List.getElem?_eq_none (by omega)
      cases h2 : l[i - 1]? <;> simp only [m, h1]
  · rw [if_pos m]
    have h1 := getD_some (show i - 1 < l.length by omega)
    simp only [m, h1]
theorem proof_chain : ∀ (k : Nat) (l : List Nat) (i : Nat), i < l.length → l.length ≤ k + 1 → proofC (chain k l) i = proofFrom k l i
  | 0, l, i, h, hl => by
    show stepAt l i ++ [] = []
    have e : i = 0 := by omega
    rw [List.append_nil, e]
    unfold stepAt
    rw [if_neg (by decide), if_neg (by omega)]
  | k + 1, l, i, h, hl => by
    unfold chain
    by_cases c : l.length ≤ 1
    · rw [if_pos c, proofFrom, if_pos c]
      show stepAt l i ++ [] = []
      have e : i = 0 := by omega
      rw [List.append_nil, e]
      unfold stepAt
      rw [if_neg (by decide), if_neg (by omega)]
    · rw [if_neg c, proofFrom_succ c h]
      show stepAt l i ++ proofC (chain k (nextLevel l)) (i / 2) = _
      rw [proof_chain k _ _ (by rw [next_len]; omega) (by rw [next_len]; omega)]
theorem proofC_at : ∀ (ls : List (List Nat)) (i j : Nat) (l : List Nat), ls[j]? = some l → proofC (ls.drop j) i = stepAt l i ++ proofC (ls.drop (j + 1)) (i / 2)
  | [], _, _, _, h => by cases h
  | x :: ls, i, 0, l, h => by cases Option.some.inj h; rfl
  | x :: ls, i, j + 1, l, h => by
    rw [List.drop_succ_cons, List.drop_succ_cons]
    exact proofC_at ls i j l (by simpa using h)
theorem okL_at : ∀ (ls : List (List Nat)) (i j : Nat) (l : List Nat), ls[j]? = some l → okL (ls.drop j) i → i < l.length ∧ okL (ls.drop (j + 1)) (i / 2)
  | [], _, _, _, h, _ => by cases h
  | x :: ls, i, 0, l, h, o => by cases Option.some.inj h; exact o
  | x :: ls, i, j + 1, l, h, o => by
    rw [List.drop_succ_cons] at o ⊢
    exact okL_at ls i j l (by simpa using h) o
theorem chain_len : ∀ (k : Nat) (l : List Nat), (chain k l).length ≤ k + 1
  | 0, l => Nat.le_refl _
  | k + 1, l => by
    unfold chain
    by_cases c : l.length ≤ 1
    · rw [if_pos c]; simp
    · rw [if_neg c, List.length_cons]
      have := chain_len k (nextLevel l)
      omega
theorem proofC_len : ∀ (ls : List (List Nat)) (i : Nat), (proofC ls i).length ≤ ls.length
  | [], _ => Nat.le_refl _
  | l :: ls, i => by
    unfold proofC
    rw [List.length_append, List.length_cons]
    have := proofC_len ls (i / 2)
    have : (stepAt l i).length ≤ 1 := by
      unfold stepAt
      split
      · exact Nat.le_refl _
      · split
        · exact Nat.le_refl _
        · exact Nat.zero_le _
    omega
/-! ### a proof that is handed in -/
theorem steps_facts : ∀ {row : List Nat} {st : List (Nat × Nat)}, stepsOf row = some st → row.length = 3 * st.length ∧ ∀ j x, st[j]? = some x → x = (row.getD (3 * j) 0, join (row.getD (3 * j + 1) 0) (row.getD (3 * j + 2) 0))
  | [], st, h => by
    cases Option.some.inj h
    exact ⟨rfl, fun j x q => by cases q⟩
  | [_], _, h => by cases h
  | [_, _], _, h => by cases h
  | a :: b :: c :: rest, st, h => by
    unfold stepsOf at h
    by_cases k : 1 < a
    · rw [if_pos k] at h; cases h
    · rw [if_neg k] at h
      cases e : stepsOf rest with
      | none => rw [e] at h; cases h
      | some st' =>
        rw [e] at h
        cases Option.some.inj h
        obtain ⟨h1, h2⟩ := steps_facts e
        refine ⟨by rw [List.length_cons, List.length_cons, List.length_cons, List.length_cons, h1]; omega, fun j x q => ?_⟩
        cases j with
        | zero => cases Option.some.inj q; rfl
        | succ j =>
          have := h2 j x (by simpa using q)
          rw [this]
          rfl
/-- the sides: every third number -/
def sides : List Nat → List Nat
  | a :: _ :: _ :: rest => a :: sides rest
  | a :: _ => [a]
  | [] => []
theorem steps_some : ∀ row : List Nat, (stepsOf row).isSome = (decide (row.length % 3 = 0) && (sides row).all fun s => decide (s ≤ 1))
  | [] => rfl
  | [_] => rfl
  | [_, _] => rfl
  | a :: b :: c :: rest => by
    have ih := steps_some rest
    unfold stepsOf sides
    have e : (a :: b :: c :: rest).length % 3 = rest.length % 3 := by
      rw [List.length_cons, List.length_cons, List.length_cons]; omega
    rw [e, List.all_cons]
    by_cases k : 1 < a
    · rw [if_pos k, decide_eq_false (show ¬ a ≤ 1 by omega), Bool.false_and, Bool.and_false]
      rfl
    · rw [if_neg k, decide_eq_true (show a ≤ 1 by omega), Bool.true_and, Option.isSome_map, ih]
end FpS
/-! # Plain: members by their numbers -/
namespace FpS
open Kp433
def Inc (l : List Member) : Prop := l.Pairwise fun a b => a.id < b.id
def belowN (l : List Member) (n : Nat) : List Member := l.filter fun m => decide (m.id < n)
theorem below_ge {n : Nat} : ∀ {l : List Member}, Inc l → (∀ m ∈ l, n ≤ m.id) → belowN l n = [] := fun {l} _ h => by
  unfold belowN
  rw [List.filter_eq_nil_iff]
  intro m hm
  have := h m hm
  simp only [decide_eq_true_eq]
  omega
theorem idx_facts {n : Nat} : ∀ {l : List Member} {m : Member}, Inc l → (l.find? fun x => x.id == n) = some m →
    l[(belowN l n).length]? = some m ∧ m.id = n ∧ (l.findIdx fun x => x.id == n) = (belowN l n).length
  | [], _, _, h => by cases h
  | x :: l, m, hi, h => by
    unfold Inc at hi
    rw [List.pairwise_cons] at hi
    by_cases c : x.id = n
    · have hb : belowN (x :: l) n = [] := below_ge (List.pairwise_cons.mpr hi) fun y hy => by
        rcases List.mem_cons.mp hy with e | e
        · rw [e]; omega
        · have := hi.1 y e; omega
      rw [List.find?_cons_of_pos (by rw [c]; exact beq_self_eq_true n)] at h
      rw [hb]
      refine ⟨h, by rw [← Option.some.inj h]; exact c, ?_⟩
      rw [List.findIdx_cons, c, beq_self_eq_true]
      rfl
    · have cb : (x.id == n) = false := by simpa using c
      rw [List.find?_cons_of_neg (by rw [cb]; exact Bool.false_ne_true)] at h
      obtain ⟨h1, h2, h3⟩ := idx_facts hi.2 h
      have mm := List.mem_of_find?_eq_some h
      have lt : x.id < n := by rw [← h2]; exact hi.1 m mm
      have hb : belowN (x :: l) n = x :: belowN l n := by
        unfold belowN
        rw [List.filter_cons, if_pos (decide_eq_true lt)]
      rw [hb]
      refine ⟨h1, h2, ?_⟩
      rw [List.findIdx_cons, cb]
      show List.findIdx _ l + 1 = _
      rw [h3]
      rfl
theorem find_none_iff {l : List Member} {n : Nat} : (l.find? fun x => x.id == n) = none ↔ (l.map Member.id).contains n = false := by
  rw [List.find?_eq_none, List.contains_eq_any_beq, List.any_map]
  constructor
  · intro h
    rw [List.any_eq_false]
    intro x hx z
    have := h x hx
    have z' : (n == x.id) = true := z
    rw [beq_iff_eq] at z'
    exact this (by rw [z']; exact beq_self_eq_true _)
  · intro h x hx z
    rw [List.any_eq_false] at h
    exact h x hx (by show (n == x.id) = true; rw [beq_iff_eq] at z ⊢; exact z.symm)
theorem insert_eq {n : Nat} : ∀ {l : List Member}, Inc l → (∀ m ∈ l, m.id ≠ n) → insertMember ⟨n, []⟩ l = belowN l n ++ [⟨n, []⟩] ++ l.drop (belowN l n).length
  | [], _, _ => rfl
  | x :: l, hi, hn => by
    unfold Inc at hi
    rw [List.pairwise_cons] at hi
    unfold insertMember
    have nx := hn x List.mem_cons_self
    by_cases c : n < x.id
    · have hb : belowN (x :: l) n = [] := below_ge (List.pairwise_cons.mpr hi) fun y hy => by
        rcases List.mem_cons.mp hy with e | e
        · rw [e]; omega
        · have := hi.1 y e; omega
      rw [if_pos (show (⟨n, []⟩ : Member).id < x.id from c), hb]
      rfl
    · have lt : x.id < n := by omega
      have hb : belowN (x :: l) n = x :: belowN l n := by
        unfold belowN
        rw [List.filter_cons, if_pos (decide_eq_true lt)]
      rw [if_neg (show ¬ (⟨n, []⟩ : Member).id < x.id from c), hb, insert_eq hi.2 fun m hm => hn m (List.mem_cons_of_mem _ hm)]
      rfl
theorem insert_mem {m : Member} : ∀ {l : List Member} {x : Member}, x ∈ insertMember m l → x = m ∨ x ∈ l
  | [], x, h => .inl (List.mem_singleton.mp h)
  | y :: l, x, h => by
    unfold insertMember at h
    by_cases c : m.id < y.id
    · rw [if_pos c] at h
      rcases List.mem_cons.mp h with e | e
      · exact .inl e
      · exact .inr e
    · rw [if_neg c] at h
      rcases List.mem_cons.mp h with e | e
      · exact .inr (by rw [e]; exact List.mem_cons_self)
      · rcases insert_mem e with q | q
        · exact .inl q
        · exact .inr (List.mem_cons_of_mem _ q)
theorem insert_inc {m : Member} : ∀ {l : List Member}, Inc l → (∀ x ∈ l, x.id ≠ m.id) → Inc (insertMember m l)
  | [], _, _ => by unfold Inc insertMember; simp
  | y :: l, hi, hn => by
    unfold Inc at hi ⊢
    rw [List.pairwise_cons] at hi
    unfold insertMember
    by_cases c : m.id < y.id
    · rw [if_pos c, List.pairwise_cons]
      refine ⟨fun z hz => ?_, List.pairwise_cons.mpr hi⟩
      rcases List.mem_cons.mp hz with e | e
      · rw [e]; exact c
      · have := hi.1 z e; omega
    · rw [if_neg c, List.pairwise_cons]
      refine ⟨fun z hz => ?_, insert_inc hi.2 fun x hx => hn x (List.mem_cons_of_mem _ hx)⟩
      rcases insert_mem hz with e | e
      · have := hn y List.mem_cons_self
        rw [e]; omega
      · exact hi.1 z e
theorem insert_len (m : Member) : ∀ l : List Member, (insertMember m l).length = l.length + 1
  | [] => rfl
  | y :: l => by
    unfold insertMember
    by_cases c : m.id < y.id
    · rw [if_pos c]; rfl
    · rw [if_neg c, List.length_cons, insert_len m l]; rfl
/-! ### what a deed leaves is well formed -/
theorem setEvents_get {s : Store} {k : Nat} {m : Member} (hi : Inc s.members) (h : s.members[k]? = some m) (l : List Event) : (setEvents s m.id l).members = s.members.set k ⟨m.id, l⟩ := by
  unfold setEvents
  show s.members.map _ = _
  have aux : ∀ (ms : List Member) (k : Nat), Inc ms → ms[k]? = some m → (ms.map fun x => if x.id = m.id then { x with events := l } else x) = ms.set k ⟨m.id, l⟩ := by
    intro ms
    induction ms with
    | nil => intro k _ h; cases h
    | cons y ms ih =>
      intro k hi h
      unfold Inc at hi
      rw [List.pairwise_cons] at hi
      cases k with
      | zero =>
        cases Option.some.inj h
        rw [List.map_cons, if_pos rfl, List.set_cons_zero]
        congr 1
        conv => rhs; rw [← List.map_id ms]
        refine List.map_congr_left fun z hz => ?_
        have := hi.1 z hz
        rw [if_neg (by omega)]
        rfl
      | succ k =>
        have h' : ms[k]? = some m := by simpa using h
        have := hi.1 m (List.mem_of_getElem? h')
        rw [List.map_cons, if_neg (by omega), List.set_cons_succ, ih k hi.2 h']
  exact aux s.members k hi h
end FpS
/-! # stores -/
namespace FpS
open PySem PySem.Spec PyProof.Rows L2
open Kp433 (Store)
/-! ### slices -/
theorem cut_to (xs : List V) (k : Nat) : cutV xs none (some (k : Int)) = xs.take k := by
  unfold cutV
  rw [HT.sIx_nat, HT.sIx_none, List.drop_zero, Nat.sub_zero, List.take_eq_take_iff]
  omega
theorem cut_from (xs : List V) (k : Nat) : cutV xs (some (k : Int)) none = xs.drop k := by
  unfold cutV
  rw [HT.sIx_nat, HT.sIx_none]
  by_cases h : k ≤ xs.length
  · rw [Nat.min_eq_left h, List.take_of_length_le (by rw [List.length_drop]; exact Nat.le_refl _)]
  · rw [Nat.min_eq_right (by omega), List.drop_of_length_le (Nat.le_refl _), List.drop_of_length_le (by omega), List.take_nil]
theorem cut_mid (xs : List V) (a b : Nat) : cutV xs (some (a : Int)) (some (b : Int)) = (xs.drop a).take (b - a) := by
  unfold cutV
  rw [HT.sIx_nat, HT.sIx_nat]
  by_cases h : a ≤ xs.length
  · rw [Nat.min_eq_left h, List.take_eq_take_iff, List.length_drop]
    omega
  · have e : min a xs.length = xs.length := by omega
    rw [e, List.drop_of_length_le (Nat.le_refl _), List.drop_of_length_le (by omega), List.take_nil, List.take_nil]
theorem upd_upd {H : Hp} {p : Addr} {o o' : HO} : upd (upd H p o) p o' = upd H p o' := by
  funext b
  by_cases e : b = p
  · rw [e, upd_same, upd_same]
  · rw [upd_ne e, upd_ne e, upd_ne e]
theorem upd_comm {H : Hp} {p q : Addr} {o o' : HO} (h : p ≠ q) : upd (upd H p o) q o' = upd (upd H q o') p o := by
  funext b
  by_cases e : b = p
  · subst e; rw [upd_same, upd_ne h, upd_same]
  · by_cases e2 : b = q
    · subst e2; rw [upd_same, upd_ne e, upd_same]
    · rw [upd_ne e2, upd_ne e, upd_ne e, upd_ne e2]
/-! ### a store and its addresses -/
structure MA where
  p : Addr
  dx : Addr
  ea : Addr
structure SA where
  p : Addr
  dx : Addr
  sa : Addr
  ma : Addr
  rows : List Addr
  mems : List MA
def mfoot (l : List MA) : List Addr := l.flatMap fun m => [m.p, m.ea]
def SA.foot (A : SA) : List Addr := A.p :: A.sa :: A.ma :: (A.rows ++ mfoot A.mems)
section
variable {K : PySem.W.Frag} {mg : Str → Option Value} (T : Txt K mg)
def MemA (H : Hp) (m : MA) (x : Kp433.Member) : Prop := H m.p = some (.ins T.Member.C m.dx (mF x.id m.ea)) ∧ PL H (.ref m.ea) (x.events.map evP)
structure SF (H : Hp) (A : SA) (S : Store) : Prop where
  obj : H A.p = some (.ins T.Store.C A.dx (sF S.items A.sa A.ma))
  sim : H A.sa = some (.lst (A.rows.map V.ref))
  row : F2 (fun r (l : List Nat) => H r = some (.lst (l.map nV))) A.rows S.similarities
  mem : H A.ma = some (.lst (A.mems.map fun m => V.ref m.p))
  ms : F2 (MemA T H) A.mems S.members
  nd : A.foot.Nodup
end
section
variable {K : PySem.W.Frag} {mg : Str → Option Value} {T : Txt K mg} {Tb : List (Addr × Str)} {H H' H1 : Hp} {A : SA} {S : Store}
theorem MemA.r {m : MA} {x : Kp433.Member} (h : MemA T H m x) : MemR T H (.ref m.p) x := ⟨m.p, m.dx, m.ea, rfl, h.1, h.2⟩
theorem F2.mapL {α β γ : Type} {R : α → β → Prop} {S : γ → β → Prop} {f : α → γ} {xs : List α} {ys : List β} (h : F2 R xs ys) (g : ∀ x y, x ∈ xs → y ∈ ys → R x y → S (f x) y) : F2 S (xs.map f) ys := by
  induction h with
  | nil => exact .nil
  | cons r _ ih => exact .cons (g _ _ List.mem_cons_self List.mem_cons_self r) (ih fun x y hx hy => g x y (List.mem_cons_of_mem _ hx) (List.mem_cons_of_mem _ hy))
theorem SF.msr (h : SF T H A S) : MsR T H (.ref A.ma) S.members := ⟨A.ma, _, rfl, h.mem, h.ms.mapL fun _ _ _ _ r => r.r⟩
theorem SF.st (h : SF T H A S) : StR T H (.ref A.p) S :=
  ⟨A.p, A.dx, A.sa, A.ma, rfl, h.obj, ⟨A.sa, _, rfl, h.sim, h.row.mapL fun x y _ _ r => ⟨x, rfl, r⟩⟩, h.msr⟩
theorem Ex.mema {m : MA} {x : Kp433.Member} (e : Ex Tb H H') (h : MemA T H m x) : MemA T H' m x := ⟨e.ins h.1, e.pl h.2⟩
theorem Ex.sf (e : Ex Tb H H') (h : SF T H A S) : SF T H' A S :=
  ⟨e.ins h.obj, e.lst h.sim, h.row.imp fun _ _ _ _ r => e.lst r, e.lst h.mem, h.ms.imp fun _ _ _ _ r => e.mema r, h.nd⟩
/-- all but F is as it was -/
structure Fr (Tb : List (Addr × Str)) (F : List Addr) (H H' : Hp) : Prop where
  old : ∀ b o, H b = some o → b ∉ F → (∀ ps, o ≠ .tbl ps) → H' b = some o
  tab : LamX.Tabs Tb H → LamX.Tabs Tb H'
  thr : ∀ b, H' b = none → H b = none
theorem Ex.fr (e : Ex Tb H H') (F : List Addr) : Fr Tb F H H' := ⟨fun b o h _ n => e.old b o h n, e.tab, e.thr⟩
theorem Fr.upd {F : List Addr} {p : Addr} {o o' : HO} (e : Fr Tb F H H') (hp : p ∈ F) (h : H' p = some o) (pl : Plain o) : Fr Tb F H (upd H' p o') :=
  ⟨fun b u hb nb n => by rw [upd_ne (fun z => nb (by rw [z]; exact hp))]; exact e.old b u hb nb n, fun t => tabs_upd (e.tab t) h pl, fun b q => by
    by_cases hb : b = p
    · rw [hb, upd_same] at q; cases q
    · rw [upd_ne hb] at q; exact e.thr b q⟩
theorem Fr.ex {F : List Addr} (e : Fr Tb F H H1) (e' : Ex Tb H1 H') : Fr Tb F H H' := ⟨fun b o h nb n => e'.old b o (e.old b o h nb n) n, fun t => e'.tab (e.tab t), fun b h => e.thr b (e'.thr b h)⟩
/-- b is tracked and not in F: a list, a tuple .. elsewhere -/
theorem pair_upd {p : Addr} {o o' : HO} {v : V} {x : Nat × Nat} (h : PrV H v x) (hp : H p = some o) (ho : ∀ xs, o ≠ .tup xs) : PrV (upd H p o') v x := by
  obtain ⟨t, rfl, ht⟩ := h
  exact ⟨t, rfl, by rw [upd_ne (fun z => by rw [z, hp] at ht; exact ho _ (Option.some.inj ht))]; exact ht⟩
theorem pairs_upd {p : Addr} {o o' : HO} {xs : List V} {l : List (Nat × Nat)} (h : F2 (PrV H) xs l) (hp : H p = some o) (ho : ∀ xs, o ≠ .tup xs) : F2 (PrV (upd H p o')) xs l := h.imp fun _ _ _ _ r => pair_upd r hp ho
theorem pl_upd {p a : Addr} {o o' : HO} {l : List (Nat × Nat)} (h : PL H (.ref a) l) (hp : H p = some o) (ho : ∀ xs, o ≠ .tup xs) (ne : a ≠ p) : PL (upd H p o') (.ref a) l := by
  obtain ⟨t, xs, e, ht, hxs⟩ := h
  cases e
  exact ⟨a, xs, rfl, by rw [upd_ne ne]; exact ht, pairs_upd hxs hp ho⟩
end
theorem putF_num (n : Nat) : putF "number" (nV n) [] = ([("number", nV n)] : List (Str × V)) := by rfl
theorem putF_ev (n : Nat) (l : Addr) : putF "events" (.ref l) ([("number", nV n)] : List (Str × V)) = mF n l := by rfl
theorem putF_ev2 (n : Nat) (l l' : Addr) : putF "events" (.ref l') (mF n l) = mF n l' := by rfl
theorem putF_mem2 (n : Nat) (a b b' : Addr) : putF "members" (.ref b') (sF n a b) = sF n a b' := by rfl
section
variable {P : Program} {w : World} {K : PySem.W.Frag} {mg : Str → Option Value} {base : Heap}
/-! ### Member -/
def sp_Member_init (T : Txt K mg) : Sp := fun vs H Q _ => ∃ (G : Hp) (p dx : Addr) (n : Nat), vs = [.ref p, nV n] ∧ G p = none ∧ H = upd G p (.ins T.Member.C dx []) ∧
  ∀ l, G l = none → l ≠ p → Q .non (upd (upd G l (.lst [])) p (.ins T.Member.C dx (mF n l)))
theorem ok_Member_init (T : Txt K mg) : FnOk P w K mg base CX0 4 T.Member.f T.Member_init.fd ["self", "number"] (sp_Member_init T) := by
  refine T.Member_init.F.ok sc_Member_init (fun vs H Q E h => ?_) (fun cdv A outer s H vs Q E hr h => ⟨_, (pss_cons (ps_fld (pv 0) (pv 1) rfl)
    (pss_one (ps_fld (pv 0) (pe_lst pa_nil) rfl))), ?_⟩)
  · obtain ⟨_, _, _, _, rfl, _⟩ := h
    rfl
  obtain ⟨G, p, dx, n, rfl, hp, rfl, q⟩ := h
  refine ⟨_, rfl, _, rfl, p, _, dx, _, rfl, upd_same, T.Member.cl, T.Member_no_number, (by show 0 < 1000; decide), Nat.zero_le _, fun l hl => ?_⟩
  rw [putF_num, upd_upd] at hl ⊢
  have nlp : l ≠ p := fun z => by rw [z, upd_same] at hl; cases hl
  rw [upd_ne nlp] at hl
  refine ⟨_, rfl, p, _, dx, _, rfl, by rw [upd_ne nlp.symm, upd_same], T.Member.cl, T.Member_no_events, (by show 1 < 1000; decide), ?_⟩
  rw [putF_ev, upd_comm nlp.symm, upd_upd]
  exact q l hl nlp
def sp_Member_add_event (T : Txt K mg) : Sp := fun vs H Q _ => ∃ (p dx ea : Addr) (n i w : Nat) (xs : List V), vs = [.ref p, nV i, nV w] ∧ H p = some (.ins T.Member.C dx (mF n ea)) ∧ H ea = some (.lst xs) ∧ xs.length ≤ 100 ∧
  ∀ t, H t = none → Q .non (upd (upd H t (.tup [nV i, nV w])) ea (.lst (xs ++ [.ref t])))
theorem ok_Member_add_event (T : Txt K mg) : FnOk P w K mg base CX0 4 T.Member_add_event.f T.Member_add_event.fd ["self", "item", "weight"] (sp_Member_add_event T) := by
  refine T.Member_add_event.F.ok sc_Member_add_event (fun vs H Q E h => ?_) (fun cdv A outer s H vs Q E hr h => ⟨_, (pss_one (ps_expr (pe_bm PySem.F.plainAttrs_list PySem.F.slot_list_append PySem.F.type_list_append mt_append (pe_fld (pv 0) rfl) (pa_cons (pe_tup (pa_cons (pv 1) (pa_cons (pv 2) pa_nil))) pa_nil)))), ?_⟩)
  · obtain ⟨_, _, _, _, _, _, _, rfl, _⟩ := h
    rfl
  obtain ⟨p, dx, ea, n, i, w, xs, rfl, hp, hea, hl, q⟩ := h
  refine ⟨_, rfl, p, _, dx, _, _, rfl, hp, T.Member.cl, T.Member_no_events, mF_ev _ _, .inl ⟨rfl, _, SqL.of hea⟩, _, rfl, _, rfl, (by show 2 ≤ sizeLine; decide), fun t ht => ?_⟩
  exact ⟨ea, xs, _, rfl, rfl, by rw [upd_ne (ne_of_none hea ht)]; exact hea, small1000 (by omega), q t ht⟩
def sp_Member_remove_event (T : Txt K mg) : Sp := fun vs H Q _ => ∃ (p dx ea : Addr) (n k : Nat) (xs : List V), vs = [.ref p, nV k] ∧ H p = some (.ins T.Member.C dx (mF n ea)) ∧ H ea = some (.lst xs) ∧ xs.length ≤ 100 ∧
  ∀ G c, Ex T.Tb H G → H c = none → G c = some (.lst (xs.take k ++ xs.drop (k + 1))) → Q .non (upd G p (.ins T.Member.C dx (mF n c)))
theorem ok_Member_remove_event (T : Txt K mg) : FnOk P w K mg base CX0 4 T.Member_remove_event.f T.Member_remove_event.fd ["self", "position"] (sp_Member_remove_event T) := by
  refine T.Member_remove_event.F.ok sc_Member_remove_event (fun vs H Q E h => ?_) (fun cdv A outer s H vs Q E hr h => ⟨_, (pss_one (ps_fld (pv 0) (pe_op op_cat (pe_slice sl_list (pe_fld (pv 0) rfl) po_none (po_some (pv 1))) (pe_slice sl_list (pe_fld (pv 0) rfl) (po_some (pe_op op_add (pv 1) pe_int)) po_none)) rfl)), ?_⟩)
  · obtain ⟨_, _, _, _, _, _, rfl, _⟩ := h
    rfl
  obtain ⟨p, dx, ea, n, k, xs, rfl, hp, hea, hl, q⟩ := h
  refine ⟨_, rfl, p, _, dx, _, _, rfl, hp, T.Member.cl, T.Member_no_events, mF_ev _ _, _, rfl, _, rfl, ea, xs, rfl, SqL.of hea, fun c1 h1 => ?_⟩
  rw [cut_to]
  have e1 : Ex T.Tb H (upd H c1 (.lst (xs.take k))) := .new h1
  refine ⟨_, rfl, p, _, dx, _, _, rfl, e1.ins hp, T.Member.cl, T.Member_no_events, mF_ev _ _, _, rfl, _, _, rfl, rfl, _, rfl, ea, xs, rfl, SqL.of (e1.lst hea), fun c2 h2 => ?_⟩
  rw [show ((k : Int) + 1) = ((k + 1 : Nat) : Int) from rfl, cut_from]
  have e2 : Ex T.Tb (upd H c1 (.lst (xs.take k))) (upd (upd H c1 (.lst (xs.take k))) c2 (.lst (xs.drop (k + 1)))) := .new h2
  refine ⟨c1, c2, _, _, rfl, rfl, e2.lst upd_same, upd_same, Nat.le_trans (show (xs.take k).length + (xs.drop (k + 1)).length ≤ 100 by rw [List.length_take, List.length_drop]; omega) (by decide), fun c3 h3 => ?_⟩
  generalize hG : upd (upd (upd H c1 (.lst (xs.take k))) c2 (.lst (xs.drop (k + 1)))) c3 (.lst (xs.take k ++ xs.drop (k + 1))) = G
  have e3 : Ex T.Tb H G := hG ▸ (e1.trans e2).trans (.new h3)
  refine ⟨_, rfl, p, _, dx, _, rfl, e3.ins hp, T.Member.cl, T.Member_no_events, (by show 2 < 1000; decide), ?_⟩
  rw [putF_ev2]
  exact q G c3 e3 ((e1.trans e2).thr _ h3) (hG ▸ upd_same)
/-! ### the store's readers -/
theorem SA.mem_p {A : SA} {m : MA} (h : m ∈ A.mems) : m.p ∈ A.foot := by
  unfold SA.foot mfoot
  simp only [List.mem_cons, List.mem_append, List.mem_flatMap]
  exact .inr (.inr (.inr (.inr ⟨m, h, .inl rfl⟩)))
theorem SA.mem_e {A : SA} {m : MA} (h : m ∈ A.mems) : m.ea ∈ A.foot := by
  unfold SA.foot mfoot
  simp only [List.mem_cons, List.mem_append, List.mem_flatMap]
  exact .inr (.inr (.inr (.inr ⟨m, h, .inr (.inl rfl)⟩)))
theorem ms_get {T : Txt K mg} {H : Hp} {A : SA} {S : Store} (h : SF T H A S) {j : Nat} {x : V} (hx : (A.mems.map fun m => V.ref m.p)[j]? = some x) : ∃ m a, A.mems[j]? = some m ∧ S.members[j]? = some a ∧ x = .ref m.p ∧ MemA T H m a := by
  obtain ⟨m, hm, rfl⟩ := map_get hx
  obtain ⟨a, ha, r⟩ := h.ms.get hm
  exact ⟨m, a, hm, ha, rfl, r⟩
def sp_others_than (T : Txt K mg) : Sp := fun vs H Q _ => ∃ (A : SA) (S : Store) (n : Nat), vs = [.ref A.p, nV n] ∧ SF T H A S ∧ Wf S ∧
  ∀ c H' ms, Ex T.Tb H H' → H c = none → H' c = some (.lst (ms.map fun m : MA => V.ref m.p)) → ms.Sublist A.mems → F2 (MemA T H') ms (S.members.filter fun x => x.id != n) → Q (.ref c) H'
theorem ok_others_than (T : Txt K mg) : FnOk P w K mg base CX0 4 T.others_than.f T.others_than.fd ["store", "number"] (sp_others_than T) := by
  refine T.others_than.F.ok sc_others_than (fun vs H Q E h => ?_) (fun cdv A outer s H vs Q E hr h => ⟨_, (pss_one (ps_ret (by exact (pe_lc (own := [("member", 2)]) (by rfl) sc_others_than.nd (pi_list (pe_fld (pv 0) rfl)) (blkOk_by (own := [("member", 2)]) (N := N_others_than) (sc := defScope s_others_than) (by decide +kernel)) (fun _ _ _ _ _ => (pg_name (i := 2) sc_others_than.nd rfl (Or.inl rfl))) (fun _ _ _ _ _ => (pts_one (pt_cmpR op_ne (pe_fldK K rfl (pv 2) rfl) (pv 1) (nomark _)))) (fun _ _ _ _ _ => (pv 2)))))), ?_⟩)
  · obtain ⟨_, _, _, rfl, _⟩ := h
    rfl
  obtain ⟨A, S, n, rfl, hF, W, q⟩ := h
  have hl : A.mems.length ≤ 6 := by rw [hF.ms.length]; exact W.ms
  refine ⟨_, rfl, A.p, _, A.dx, _, _, rfl, hF.obj, T.Store.cl, T.Store_no_members, sF_mem _ _ _, A.ma, rfl, ⟨_, SqL.of hF.mem⟩, fun D hD => lc_ex (walk_list (K := K) (a := A.ma) (xs := A.mems.map fun m => V.ref m.p)) (Tb := T.Tb) (fun j acc G => ∃ ms : List MA, acc = ms.map (fun m => V.ref m.p) ∧ ms.Sublist (A.mems.take j) ∧ F2 (MemA T G) ms ((S.members.take j).filter fun x => x.id != n)) (by rw [List.length_map]; exact Nat.lt_of_le_of_lt hl (by decide)) hD (fun H' e => SqL.of (e.lst hF.mem)) ⟨[], rfl, List.nil_sublist _, .nil⟩ ?_ ?_⟩
  · rintro j x acc G H' Nx hj eG gD ⟨ms, rfl, hsub, hms⟩ ⟨rfl, hx⟩ kY kN
    obtain ⟨m, a, hm, ha, rfl, r⟩ := ms_get hF hx
    have eH : Ex T.Tb H (upd G D (.lst (ms.map fun m => V.ref m.p))) := eG.trans (.new gD)
    refine ⟨rfl, _, rfl, m.p, _, m.dx, _, _, rfl, (eH.mema r).1, T.Member.cl, T.Member_no_number, mF_num _ _, _, rfl, rfl, _, rfl, ?_⟩
    have ef : (S.members.take (j + 1)).filter (fun x => x.id != n) = ((S.members.take j).filter fun x => x.id != n) ++ if a.id = n then [] else [a] := by
      rw [tk ha, List.filter_append, List.filter_cons]
      by_cases c : a.id = n
      · rw [if_pos c, c, bne_self_eq_false]; rfl
      · rw [if_neg c, if_pos (by simpa using c)]; rfl
    by_cases c : a.id = n
    · rw [if_pos c, List.append_nil] at ef
      rw [decide_eq_true (show nV a.id = nV n by rw [c])]
      refine iteF (kN _ (.refl _) fun G' e' _ _ => ⟨ms, rfl, ?_, ?_⟩)
      · rw [tk hm]; exact hsub.trans (List.sublist_append_left _ _)
      · rw [ef]; exact hms.imp fun _ _ _ _ r => e'.mema r
    · rw [if_neg c] at ef
      rw [decide_eq_false (show ¬ nV a.id = nV n from fun z => c (by have := V.int.inj z; omega))]
      refine iteT ⟨_, rfl, kY _ _ (.refl _) fun G' e' _ _ => ⟨ms ++ [m], by rw [List.map_append]; rfl, ?_, ?_⟩⟩
      · rw [tk hm]; exact hsub.append (List.Sublist.refl _)
      · rw [ef]; exact (hms.imp fun _ _ _ _ r => e'.mema r).append (.one ((eG.trans e').mema r))
  · rintro acc G eG gD ⟨ms, rfl, hsub, hms⟩
    rw [List.length_map, List.take_length] at hsub
    rw [List.length_map, hF.ms.length, List.take_length] at hms
    exact q D _ ms (eG.trans (.new gD)) hD upd_same hsub (hms.imp fun _ _ _ _ r => (Ex.new (Tb := T.Tb) gD).mema r)
def sp_has_member (T : Txt K mg) : Sp := fun vs H Q _ => ∃ (A : SA) (S : Store) (n : Nat), vs = [.ref A.p, nV n] ∧ SF T H A S ∧ Wf S ∧ ∀ H', Ex T.Tb H H' → Q (.bl (Kp433.memberWith S n).isSome) H'
theorem has_eq (S : Store) (n : Nat) : (S.members.map Kp433.Member.id).contains n = (Kp433.memberWith S n).isSome := by
  unfold Kp433.memberWith
  cases h : (S.members.map Kp433.Member.id).contains n with
  | false => rw [find_none_iff.mpr h]; rfl
  | true =>
    cases h2 : S.members.find? fun x => x.id == n with
    | some _ => rfl
    | none => rw [find_none_iff.mp h2] at h; cases h
theorem ok_has_member (T : Txt K mg) : FnOk P w K mg base CX0 4 T.has_member.f T.has_member.fd ["store", "number"] (sp_has_member T) := by
  refine T.has_member.F.ok sc_has_member (fun vs H Q E h => ?_) (fun cdv A outer s H vs Q E hr h => ⟨_, (pss_one (ps_ret (pe_cmpR op_in_seq (pv 1) (by exact (pe_lc (own := [("member", 2)]) (by rfl) sc_has_member.nd (pi_list (pe_fld (pv 0) rfl)) (blkOk_by (own := [("member", 2)]) (N := N_has_member) (sc := defScope s_has_member) (by decide +kernel)) (fun _ _ _ _ _ => (pg_name (i := 2) sc_has_member.nd rfl (Or.inl rfl))) (fun _ _ _ _ _ => pts_nil) (fun _ _ _ _ _ => (pe_fldK K rfl (pv 2) rfl)))) (by rfl)))), ?_⟩)
  · obtain ⟨_, _, _, rfl, _⟩ := h
    rfl
  obtain ⟨A, S, n, rfl, hF, W, q⟩ := h
  have hl : A.mems.length ≤ 6 := by rw [hF.ms.length]; exact W.ms
  refine ⟨_, rfl, _, rfl, A.p, _, A.dx, _, _, rfl, hF.obj, T.Store.cl, T.Store_no_members, sF_mem _ _ _, A.ma, rfl, ⟨_, SqL.of hF.mem⟩, fun D hD => lc_ex (walk_list (K := K) (a := A.ma) (xs := A.mems.map fun m => V.ref m.p)) (Tb := T.Tb) (fun j acc G => acc = ((S.members.take j).map Kp433.Member.id).map nV) (by rw [List.length_map]; exact Nat.lt_of_le_of_lt hl (by decide)) hD (fun H' e => SqL.of (e.lst hF.mem)) rfl ?_ ?_⟩
  · rintro j x acc G H' Nx hj eG gD rfl ⟨rfl, hx⟩ kY kN
    obtain ⟨m, a, hm, ha, rfl, r⟩ := ms_get hF hx
    have eH : Ex T.Tb H (upd G D (.lst (((S.members.take j).map Kp433.Member.id).map nV))) := eG.trans (.new gD)
    refine ⟨rfl, _, rfl, m.p, _, m.dx, _, _, rfl, (eH.mema r).1, T.Member.cl, T.Member_no_number, mF_num _ _, kY _ _ (.refl _) fun G' _ _ _ => ?_⟩
    rw [tk ha, List.map_append, List.map_append]
    rfl
  · rintro acc G eG gD rfl
    rw [List.length_map, hF.ms.length, List.take_length]
    refine ⟨D, _, rfl, .inl (SqL.of upd_same), rfl, flat_nV _, ?_⟩
    rw [inV_nV, has_eq]
    exact q _ (eG.trans (.new gD))
def sp_index_of (T : Txt K mg) : Sp := fun vs H Q _ => ∃ (A : SA) (S : Store) (n : Nat), vs = [.ref A.p, nV n] ∧ SF T H A S ∧ Wf S ∧ ∀ H', Ex T.Tb H H' → Q (nV (belowN S.members n).length) H'
theorem ok_index_of (T : Txt K mg) : FnOk P w K mg base CX0 4 T.index_of.f T.index_of.fd ["store", "number"] (sp_index_of T) := by
  refine T.index_of.F.ok sc_index_of (fun vs H Q E h => ?_) (fun cdv A outer s H vs Q E hr h => ⟨_, (pss_one (ps_ret (pe_callB call_len_seq (by rfl) T.len_ PySem.boot_len (pa_cons (by exact (pe_lc (own := [("member", 2)]) (by rfl) sc_index_of.nd (pi_list (pe_fld (pv 0) rfl)) (blkOk_by (own := [("member", 2)]) (N := N_index_of) (sc := defScope s_index_of) (by decide +kernel)) (fun _ _ _ _ _ => (pg_name (i := 2) sc_index_of.nd rfl (Or.inl rfl))) (fun _ _ _ _ _ => (pts_one (pt_cmpR op_lt (pe_fldK K rfl (pv 2) rfl) (pv 1) (nomark _)))) (fun _ _ _ _ _ => (pv 2)))) pa_nil)))), ?_⟩)
  · obtain ⟨_, _, _, rfl, _⟩ := h
    rfl
  obtain ⟨A, S, n, rfl, hF, W, q⟩ := h
  have hl : A.mems.length ≤ 6 := by rw [hF.ms.length]; exact W.ms
  refine ⟨_, rfl, A.p, _, A.dx, _, _, rfl, hF.obj, T.Store.cl, T.Store_no_members, sF_mem _ _ _, A.ma, rfl, ⟨_, SqL.of hF.mem⟩, fun D hD => lc_ex (walk_list (K := K) (a := A.ma) (xs := A.mems.map fun m => V.ref m.p)) (Tb := T.Tb) (fun j acc G => acc.length = (belowN (S.members.take j) n).length) (by rw [List.length_map]; exact Nat.lt_of_le_of_lt hl (by decide)) hD (fun H' e => SqL.of (e.lst hF.mem)) rfl ?_ ?_⟩
  · rintro j x acc G H' Nx hj eG gD hacc ⟨rfl, hx⟩ kY kN
    obtain ⟨m, a, hm, ha, rfl, r⟩ := ms_get hF hx
    have eH : Ex T.Tb H (upd G D (.lst acc)) := eG.trans (.new gD)
    refine ⟨rfl, _, rfl, m.p, _, m.dx, _, _, rfl, (eH.mema r).1, T.Member.cl, T.Member_no_number, mF_num _ _, _, rfl, _, _, rfl, rfl, _, rfl, ?_⟩
    have ef : belowN (S.members.take (j + 1)) n = belowN (S.members.take j) n ++ if a.id < n then [a] else [] := by
      unfold belowN
      rw [tk ha, List.filter_append, List.filter_cons]
      by_cases c : a.id < n
      · rw [if_pos c, if_pos (decide_eq_true c)]; rfl
      · rw [if_neg c, decide_eq_false c]; rfl
    by_cases c : a.id < n
    · rw [decide_eq_true (show (a.id : Int) < (n : Int) by omega)]
      refine iteT ⟨_, rfl, kY _ _ (.refl _) fun G' _ _ _ => ?_⟩
      rw [ef, if_pos c, List.length_append, List.length_append, hacc]
      rfl
    · rw [decide_eq_false (show ¬ (a.id : Int) < (n : Int) by omega)]
      refine iteF (kN _ (.refl _) fun G' _ _ _ => ?_)
      rw [ef, if_neg c, List.append_nil, hacc]
  · rintro acc G eG gD hacc
    rw [List.length_map, hF.ms.length, List.take_length] at hacc
    refine ⟨D, acc, rfl, .inl (SqL.of upd_same), ?_⟩
    rw [hacc]
    exact q _ (eG.trans (.new gD))
def sp_member_of (T : Txt K mg) : Sp := fun vs H Q E => ∃ (A : SA) (S : Store) (n : Nat), vs = [.ref A.p, nV n] ∧ SF T H A S ∧ Wf S ∧
  (∀ k M m H', Kp433.memberWith S n = some m → A.mems[k]? = some M → S.members[k]? = some m → m.id = n → k = (belowN S.members n).length → Kp433.indexOf S n = k → Ex T.Tb H H' → Q (.ref M.p) H') ∧ (Kp433.memberWith S n = none → Rz T H (-2) E)
theorem ok_member_of (T : Txt K mg) : FnOk P w K mg base (L2.CX P w) 5 T.member_of.f T.member_of.fd ["store", "number"] (sp_member_of T) := by
  refine T.member_of.F.okX sc_member_of (fun vs H Q E h => ?_) (fun cdv A outer s H vs Q E hr h => ⟨_, (pss_cons (ps_expr (pe_call (ok_ask T) (hr.mono (by decide)) rfl T.ask.g T.ask.F.kp T.ask.b .nil passE (pa_cons (pe_call (ok_has_member T) (hr.mono (by decide)) rfl T.has_member.g T.has_member.F.kp T.has_member.b .nil pass0 (pa_cons (pv 0) (pa_cons (pv 1) pa_nil))) (pa_cons (pe_glob (v := .int (-2)) rfl T.NOT_THERE.g ⟨_, rfl⟩) pa_nil))))
    (pss_one (ps_ret (pe_ix ix_list (pe_fld (pv 0) rfl) (pe_call (ok_index_of T) (hr.mono (by decide)) rfl T.index_of.g T.index_of.F.kp T.index_of.b .nil pass0 (pa_cons (pv 0) (pa_cons (pv 1) pa_nil))) (fun _ _ => rfl))))), ?_⟩)
  · obtain ⟨_, _, _, rfl, _⟩ := h
    rfl
  obtain ⟨A, S, n, rfl, hF, W, q, qE⟩ := h
  refine ⟨_, rfl, _, rfl, A, S, n, rfl, hF, W, fun H1 e1 => ⟨_, _, rfl, fun hb => ?_, fun hb => ?_⟩⟩
  · obtain ⟨m, hm⟩ := Option.isSome_iff_exists.mp hb
    obtain ⟨h1, h2, h3⟩ := idx_facts W.inc hm
    have hF1 := e1.sf hF
    refine ⟨_, rfl, A.p, _, A.dx, _, _, rfl, hF1.obj, T.Store.cl, T.Store_no_members, sF_mem _ _ _, _, rfl, _, rfl, A, S, n, rfl, hF1, W, fun H2 e2 => ?_⟩
    obtain ⟨M, hM, r⟩ := hF1.ms.get' h1
    refine ⟨A.ma, _, _, _, rfl, rfl, SqL.of (e2.lst hF1.mem), atI_nat (by rw [List.getElem?_map, hM]; rfl), ?_⟩
    exact q _ M m H2 hm hM h1 h2 rfl h3 (e1.trans e2)
  · have hn : Kp433.memberWith S n = none := by
      cases h : Kp433.memberWith S n with
      | none => rfl
      | some _ => rw [h] at hb; cases hb
    exact (qE hn).mono e1
def sp_need_item (T : Txt K mg) : Sp := fun vs H Q E => ∃ (A : SA) (S : Store) (i : Nat), vs = [.ref A.p, nV i] ∧ SF T H A S ∧ (i < S.items → Q .non H) ∧ (S.items ≤ i → Rz T H (-2) E)
theorem ok_need_item (T : Txt K mg) : FnOk P w K mg base (L2.CX P w) 5 T.need_item.f T.need_item.fd ["store", "item"] (sp_need_item T) := by
  refine T.need_item.F.okX sc_need_item (fun vs H Q E h => ?_) (fun cdv A outer s H vs Q E hr h => ⟨_, (pss_one (ps_expr (pe_call (ok_ask T) (hr.mono (by decide)) rfl T.ask.g T.ask.F.kp T.ask.b .nil passE (pa_cons (pe_cmpR op_lt (pv 1) (pe_fld (pv 0) rfl) (nomark _)) (pa_cons (pe_glob (v := .int (-2)) rfl T.NOT_THERE.g ⟨_, rfl⟩) pa_nil))))), ?_⟩)
  · obtain ⟨_, _, _, rfl, _⟩ := h
    rfl
  obtain ⟨A, S, i, rfl, hF, q, qE⟩ := h
  refine ⟨_, rfl, _, rfl, A.p, _, A.dx, _, _, rfl, hF.obj, T.Store.cl, T.Store_no_items_many, sF_items _ _ _, _, _, rfl, rfl, _, _, rfl, fun hb => q ?_, fun hb => qE ?_⟩
  · have := of_decide_eq_true hb; omega
  · have := of_decide_eq_false hb; omega
def sp_need_event (T : Txt K mg) : Sp := fun vs H Q E => ∃ (y : V) (m : Kp433.Member) (i : Nat), vs = [y, nV i] ∧ MemR T H y m ∧ (i < m.events.length → Q .non H) ∧ (m.events.length ≤ i → Rz T H (-2) E)
theorem ok_need_event (T : Txt K mg) : FnOk P w K mg base (L2.CX P w) 5 T.need_event.f T.need_event.fd ["member", "position"] (sp_need_event T) := by
  refine T.need_event.F.okX sc_need_event (fun vs H Q E h => ?_) (fun cdv A outer s H vs Q E hr h => ⟨_, (pss_one (ps_expr (pe_call (ok_ask T) (hr.mono (by decide)) rfl T.ask.g T.ask.F.kp T.ask.b .nil passE (pa_cons (pe_cmpR op_lt (pv 1) (pe_callB call_len_seq (by rfl) T.len_ PySem.boot_len (pa_cons (pe_fld (pv 0) rfl) pa_nil)) (nomark _)) (pa_cons (pe_glob (v := .int (-2)) rfl T.NOT_THERE.g ⟨_, rfl⟩) pa_nil))))), ?_⟩)
  · obtain ⟨_, _, _, rfl, _⟩ := h
    rfl
  obtain ⟨y, m, i, rfl, ⟨p, dx, ea, rfl, hp, ea', xs, e0, hea, hxs⟩, q, qE⟩ := h
  cases e0
  have hl : xs.length = m.events.length := by rw [hxs.length, List.length_map]
  refine ⟨_, rfl, _, rfl, p, _, dx, _, _, rfl, hp, T.Member.cl, T.Member_no_events, mF_ev _ _, ea, xs, rfl, .inl (SqL.of hea), _, _, rfl, rfl, _, _, rfl, fun hb => q ?_, fun hb => qE ?_⟩
  · have := of_decide_eq_true hb; omega
  · have := of_decide_eq_false hb; omega
end
end FpS
/-! # trees -/
namespace FpS
open PySem PySem.Spec PyProof.Rows L2
open Kp433 (nextLevel nodeHash leafHash rootFrom proofFrom stepsOf foldProof join)
theorem rgc2 {n : Nat} (h : n ≤ 6) : RgC 0 ((n : Int) - 1) 2 (n / 2) := by
  have : n = 0 ∨ n = 1 ∨ n = 2 ∨ n = 3 ∨ n = 4 ∨ n = 5 ∨ n = 6 := by omega
  rcases this with e | e | e | e | e | e | e <;> subst e <;> exact ⟨by decide, by decide, by decide, by decide⟩
theorem rgc3 {k : Nat} (h : k ≤ 8) : RgC 0 ((3 * k : Nat) : Int) 3 k := by
  have : k = 0 ∨ k = 1 ∨ k = 2 ∨ k = 3 ∨ k = 4 ∨ k = 5 ∨ k = 6 ∨ k = 7 ∨ k = 8 := by omega
  rcases this with e | e | e | e | e | e | e | e | e <;> subst e <;> exact ⟨by decide, by decide, by decide, by decide⟩
theorem nV_get {l : List Nat} {i : Nat} (h : i < l.length) : (l.map nV)[i]? = some (nV (l.getD i 0)) := by
  rw [List.getElem?_map, getD_some h]; rfl
def evNums (l : List Kp433.Event) : List Nat := l.flatMap fun e => [e.item, e.weight]
theorem evNums_snoc (l : List Kp433.Event) (e : Kp433.Event) : evNums (l ++ [e]) = evNums l ++ [e.item, e.weight] := by
  unfold evNums
  rw [List.flatMap_append]; rfl
theorem evNums_len (l : List Kp433.Event) : (evNums l).length = 2 * l.length := by
  unfold evNums
  induction l with
  | nil => rfl
  | cons e l ih => rw [List.flatMap_cons, List.length_append, ih, List.length_cons]; simp only [List.length_cons, List.length_nil]; omega
section
variable {P : Program} {w : World} {K : PySem.W.Frag} {mg : Str → Option Value} {base : Heap}
def sp_leaf_of (T : Txt K mg) : Sp := fun vs H Q _ => ∃ (y : V) (m : Kp433.Member), vs = [y] ∧ MemR T H y m ∧ m.events.length ≤ 7 ∧ ∀ H', Ex T.Tb H H' → Q (nV (leafHash m)) H'
theorem ok_leaf_of (T : Txt K mg) : FnOk P w K mg base CX0 6 T.leaf_of.f T.leaf_of.fd ["member"] (sp_leaf_of T) := by
  refine T.leaf_of.F.ok sc_leaf_of (fun vs H Q E h => ?_) (fun cdv A outer s H vs Q E hr h => ⟨_, (pss_cons (ps_set (i := 1) sc_leaf_of.nd rfl (Or.inl rfl) (pe_lst (pa_cons (pe_glob (v := .int (1)) rfl T.LEAF.g ⟨_, rfl⟩) (pa_cons (pe_fld (pv 0) rfl) (pa_cons (pe_callB call_len_seq (by rfl) T.len_ PySem.boot_len (pa_cons (pe_fld (pv 0) rfl) pa_nil)) pa_nil)))))
    (pss_cons (ps_for PassesOwn.never rfl (pi_list (pe_fld (pv 0) rfl)) (pg_tup (by rfl) (pgs_cons (pg_name (i := 2) sc_leaf_of.nd rfl (Or.inl rfl)) (pgs_cons (pg_name (i := 3) sc_leaf_of.nd rfl (Or.inl rfl)) pgs_nil)))
    (pss_one (ps_expr (pe_bm PySem.F.plainAttrs_list PySem.F.slot_list_extend PySem.F.type_list_extend mt_extend (pv 1) (pa_cons (pe_lst (pa_cons (pv 2) (pa_cons (pv 3) pa_nil))) pa_nil)))))
    (pss_one (ps_ret (pe_call (ok_hash_of T) (hr.mono (by decide)) rfl T.hash_of.g T.hash_of.F.kp T.hash_of.b .nil pass0 (pa_cons (pv 1) pa_nil)))))), ?_⟩)
  · obtain ⟨_, _, rfl, _⟩ := h
    rfl
  obtain ⟨y, m, rfl, ⟨p, dx, ea, rfl, hp, ea', xs, e0, hea, hxs⟩, hl, q⟩ := h
  cases e0
  have lx : xs.length = m.events.length := by rw [hxs.length, List.length_map]
  refine ⟨_, rfl, p, _, dx, _, _, rfl, hp, T.Member.cl, T.Member_no_number, mF_num _ _, _, rfl, p, _, dx, _, _, rfl, hp, T.Member.cl, T.Member_no_events, mF_ev _ _, ea, xs, rfl, .inl (SqL.of hea), (by show 3 ≤ sizeLine; decide), fun D hD => ?_⟩
  rw [lx]
  generalize hH1 : upd H D (.lst [.int 1, nV m.id, .int (m.events.length : Nat)]) = H1
  have e1 : Ex T.Tb H H1 := hH1 ▸ .new hD
  have hD1 : H1 D = some (.lst ((1 :: m.id :: m.events.length :: evNums (m.events.take 0)).map nV)) := hH1 ▸ upd_same
  refine ⟨_, rfl, p, _, dx, _, _, rfl, e1.ins hp, T.Member.cl, T.Member_no_events, mF_ev _ _, ea, rfl, ⟨_, SqL.of (e1.lst hea)⟩, for_list (xs := xs) (fun j σ H' => ∃ y2 y3, σ = [some (.ref p), some (.ref D), y2, y3] ∧ Ex T.Tb H H' ∧ H' D = some (.lst ((1 :: m.id :: m.events.length :: evNums (m.events.take j)).map nV))) ⟨_, _, rfl, e1, hD1⟩ (fun j σ H' _ ⟨_, _, _, e, _⟩ => SqL.of (e.lst hea)) ?_ ?_⟩
  · rintro j x σ H2 hx ⟨y2, y3, rfl, e2, h2⟩
    obtain ⟨pr, hpr, r⟩ := hxs.get hx
    obtain ⟨e, he, rfl⟩ := map_get hpr
    obtain ⟨t, rfl, ht⟩ := e2.prv r
    have lj := lt_of_get he
    refine ⟨t, _, rfl, SqT.of ht, rfl, _, _, rfl, _, _, rfl, rfl, _, rfl, .inl ⟨rfl, _, SqL.of h2⟩, _, rfl, _, rfl, (by show 2 ≤ sizeLine; decide), fun o ho => ?_⟩
    have e3 : Ex T.Tb H2 (upd H2 o (.lst [nV e.item, nV e.weight])) := .new ho
    refine ⟨D, o, _, _, rfl, rfl, e3.lst h2, upd_same, ?_, some (nV e.item), some (nV e.weight), rfl, (e2.trans e3).mut hD (e3.lst h2) True.intro, ?_⟩
    · rw [List.length_map]
      simp only [List.length_cons, evNums_len, List.length_take, List.length_nil]
      exact Nat.le_trans (show _ ≤ 100 by omega) (by decide)
    · rw [upd_same, tk he, evNums_snoc]
      simp only [List.map_cons, List.map_append, List.cons_append]
      rfl
  · rintro σ H2 ⟨y2, y3, rfl, e2, h2⟩
    rw [lx, List.take_length] at h2
    exact ⟨_, rfl, D, _, rfl, h2, fun H3 e3 => q H3 (e2.trans e3)⟩
def sp_leaves_of (T : Txt K mg) : Sp := fun vs H Q _ => ∃ (y : V) (ms : List Kp433.Member), vs = [y] ∧ MsR T H y ms ∧ (∀ m ∈ ms, m.events.length ≤ 7) ∧ ms.length ≤ 6 ∧ ∀ v H', Ex T.Tb H H' → NL H' v (ms.map leafHash) → Q v H'
theorem ok_leaves_of (T : Txt K mg) : FnOk P w K mg base CX0 7 T.leaves_of.f T.leaves_of.fd ["members"] (sp_leaves_of T) := by
  refine T.leaves_of.F.ok sc_leaves_of (fun vs H Q E h => ?_) (fun cdv A outer s H vs Q E hr h => ⟨_, (pss_one (ps_ret (by exact (pe_lc (own := [("member", 1)]) (by rfl) sc_leaves_of.nd (pi_list (pv 0)) (blkOk_by (own := [("member", 1)]) (N := N_leaves_of) (sc := defScope s_leaves_of) (by decide +kernel)) (fun _ _ _ _ _ => (pg_name (i := 1) sc_leaves_of.nd rfl (Or.inl rfl))) (fun _ _ _ _ _ => pts_nil) (fun _ _ _ _ _ => (pe_call (ok_leaf_of T) (hr.mono (by decide)) rfl T.leaf_of.g T.leaf_of.F.kp T.leaf_of.b .nil pass0 (pa_cons (pv 1) pa_nil))))))), ?_⟩)
  · obtain ⟨_, _, rfl, _⟩ := h
    rfl
  obtain ⟨y, ms, rfl, ⟨a, xs, rfl, ha, hxs⟩, h7, hl, q⟩ := h
  have lx := hxs.length
  refine ⟨_, rfl, a, rfl, ⟨_, SqL.of ha⟩, fun D hD => lc_ex (walk_list (K := K) (a := a) (xs := xs)) (Tb := T.Tb) (fun j acc G => acc = ((ms.take j).map leafHash).map nV) (by rw [lx]; exact Nat.lt_of_le_of_lt hl (by decide)) hD (fun H' e => SqL.of (e.lst ha)) rfl ?_ ?_⟩
  · rintro j x acc G H' Nx hj eG gD rfl ⟨rfl, hx⟩ kY kN
    obtain ⟨m, hm, r⟩ := hxs.get hx
    have eH := eG.trans (Ex.new (Tb := T.Tb) (o := .lst (((ms.take j).map leafHash).map nV)) gD)
    refine ⟨rfl, _, rfl, x, m, rfl, eH.mem r, h7 m (List.mem_of_getElem? hm), fun H3 e3 => kY _ _ e3 fun G' _ _ _ => ?_⟩
    rw [tk hm, List.map_append, List.map_append]
    rfl
  · rintro acc G eG gD rfl
    rw [lx, List.take_length]
    exact q _ _ (eG.trans (.new gD)) ⟨D, rfl, upd_same⟩
def sp_level_above (T : Txt K mg) : Sp := fun vs H Q _ => ∃ (y : V) (l : List Nat), vs = [y] ∧ NL H y l ∧ l.length ≤ 6 ∧ ∀ p H', Ex T.Tb H H' → H p = none → H' p = some (.lst ((nextLevel l).map nV)) → Q (.ref p) H'
theorem ok_level_above (T : Txt K mg) : FnOk P w K mg base CX0 6 T.level_above.f T.level_above.fd ["level"] (sp_level_above T) := by
  refine T.level_above.F.ok sc_level_above (fun vs H Q E h => ?_) (fun cdv A outer s H vs Q E hr h => ⟨_, (pss_cons (ps_setLc (i := 1) (own := [("at", 2)]) (by rfl) sc_level_above.nd rfl rfl (sw_true rfl rfl rfl (by decide +kernel)) (pi_range3 (by rfl) T.range_ (pa_cons pe_int (pa_cons (pe_op op_sub (pe_callB call_len_seq (by rfl) T.len_ PySem.boot_len (pa_cons (pv 0) pa_nil)) pe_int) (pa_cons pe_int pa_nil)))) (blkOk_by (own := [("at", 2)]) (N := N_level_above) (sc := defScope s_level_above) (by decide +kernel)) (fun _ _ _ _ _ => (pg_name (i := 2) sc_level_above.nd rfl (Or.inl rfl))) (fun _ _ _ _ _ => pts_nil) (fun _ _ _ _ _ => (pe_call (ok_hash_of T) (hr.mono (by decide)) rfl T.hash_of.g T.hash_of.F.kp T.hash_of.b .nil pass0 (pa_cons (pe_lst (pa_cons (pe_glob (v := .int (2)) rfl T.PAIR.g ⟨_, rfl⟩) (pa_cons (pe_ix (ix_listK K rfl) (pv 0) (pv 2) (fun _ _ => rfl)) (pa_cons (pe_ix (ix_listK K rfl) (pv 0) (pe_op op_add (pv 2) pe_int) (fun _ _ => rfl)) pa_nil)))) pa_nil))))
    (pss_one (ps_ret (pe_op op_cat (pv 1) (pe_slice sl_list (pv 0) (po_some (pe_op op_mul pe_int (pe_callB call_len_seq (by rfl) T.len_ PySem.boot_len (pa_cons (pv 1) pa_nil)))) po_none))))), ?_⟩)
  · obtain ⟨_, _, rfl, _⟩ := h
    rfl
  obtain ⟨y, l, rfl, ⟨a, rfl, ha⟩, hl, q⟩ := h
  have hn : l.length / 2 ≤ 3 := by omega
  refine ⟨_, rfl, a, _, rfl, .inl (SqL.of ha), _, _, rfl, rfl, 0, (l.length : Int) - 1, 2, l.length / 2, by rw [List.length_map], rgc2 hl, fun D hD => lc_ex (walk_rangeC (lo := 0) (c := 2) (n := l.length / 2)) (Tb := T.Tb) (fun j acc G => acc = ((List.range j).map (pairAt l)).map nV) (Nat.lt_of_le_of_lt hn (by decide)) hD (fun _ _ => True.intro) rfl ?_ ?_⟩
  · rintro j x acc G H' Nx hj eG gD rfl ⟨rfl, hx⟩ kY kN
    have ej : x = nV (2 * j) := by rw [hx]; show V.int (0 + ((j : Nat) : Int) * 2) = V.int _; congr 1; omega
    subst ej
    have eH := eG.trans (Ex.new (Tb := T.Tb) (o := .lst (((List.range j).map (pairAt l)).map nV)) gD)
    have ha2 := eH.lst ha
    have i1 : 2 * j < l.length := by omega
    have i2 : 2 * j + 1 < l.length := by omega
    refine ⟨rfl, _, rfl, _, rfl, a, _, _, _, rfl, rfl, SqL.of ha2, atI_nat (nV_get i1), _, rfl, _, rfl, _, _, rfl, rfl, a, _, _, _, rfl, rfl, SqL.of ha2, atI_nat (j := 2 * j + 1) (nV_get i2), (by show 3 ≤ sizeLine; decide), fun o ho => ?_⟩
    refine ⟨o, [2, l.getD (2 * j) 0, l.getD (2 * j + 1) 0], rfl, upd_same, fun H3 e3 => kY _ _ ((Ex.new ho).trans e3) fun G' _ _ _ => ?_⟩
    rw [List.range_succ, List.map_append, List.map_append]
    rfl
  · rintro acc G eG gD rfl
    have eD := eG.trans (Ex.new (Tb := T.Tb) (o := .lst (((List.range (l.length / 2)).map (pairAt l)).map nV)) gD)
    refine ⟨_, rfl, _, rfl, _, rfl, D, _, rfl, .inl (SqL.of upd_same), _, _, rfl, rfl, .inl ⟨by decide, by decide⟩, _, rfl, a, _, rfl, SqL.of (eD.lst ha), fun o ho => ?_⟩
    have ek : (2 : Int) * ((((List.range (l.length / 2)).map (pairAt l)).map nV).length : Nat) = ((2 * (l.length / 2) : Nat) : Int) := by
      rw [List.length_map, List.length_map, List.length_range, Int.natCast_mul]; rfl
    rw [ek, cut_from]
    have e2 := Ex.new (Tb := T.Tb) (o := .lst ((l.map nV).drop (2 * (l.length / 2)))) ho
    refine ⟨D, o, _, _, rfl, rfl, e2.lst upd_same, upd_same, ?_, fun c hc => ?_⟩
    · simp only [List.length_map, List.length_range, List.length_drop]
      exact Nat.le_trans (show _ ≤ 100 by omega) (by decide)
    · refine q _ _ ((eD.trans e2).trans (.new hc)) ((eD.trans e2).thr _ hc) ?_
      rw [upd_same, next_eq, List.map_append, List.map_drop]
def sp_levels_of (T : Txt K mg) : Sp := fun vs H Q _ => ∃ (y : V) (l : List Nat), vs = [y] ∧ NL H y l ∧ l.length ≤ 6 ∧ ∀ v H', Ex T.Tb H H' → LL H' v (chain 8 l) → Q v H'
theorem ok_levels_of (T : Txt K mg) : FnOk P w K mg base CX0 7 T.levels_of.f T.levels_of.fd ["leaves"] (sp_levels_of T) := by
  refine T.levels_of.F.ok sc_levels_of (fun vs H Q E h => ?_) (fun cdv A outer s H vs Q E hr h => ⟨_, (pss_cons (ps_set (i := 1) sc_levels_of.nd rfl (Or.inl rfl) (pe_lst (pa_cons (pv 0) pa_nil)))
    (pss_cons (ps_while PassesOwn.never (pt_cmpR op_gt (pe_callB call_len_seq (by rfl) T.len_ PySem.boot_len (pa_cons (pe_ix ix_list (pv 1) (pe_un un_neg pe_int) (fun _ _ => rfl)) pa_nil)) pe_int (nomark _))
    (pss_one (ps_expr (pe_bm PySem.F.plainAttrs_list PySem.F.slot_list_append PySem.F.type_list_append mt_append (pv 1) (pa_cons (pe_call (ok_level_above T) (hr.mono (by decide)) rfl T.level_above.g T.level_above.F.kp T.level_above.b .nil pass0 (pa_cons (pe_ix ix_list (pv 1) (pe_un un_neg pe_int) (fun _ _ => rfl)) pa_nil)) pa_nil)))))
    (pss_one (ps_ret (pv 1))))), ?_⟩)
  · obtain ⟨_, _, rfl, _⟩ := h
    rfl
  obtain ⟨y, l, rfl, hy, hl, q⟩ := h
  obtain ⟨ya, rfl, hya⟩ := hy
  refine ⟨_, rfl, (by show 1 ≤ sizeLine; decide), fun D hD => while_by (fun σ H' => ∃ xs x d cur k, σ = [some (.ref ya), some (.ref D)] ∧ Ex T.Tb H H' ∧ H' D = some (.lst (xs ++ [x])) ∧ F2 (fun v (l : List Nat) => ∃ p, v = .ref p ∧ p ≠ D ∧ H' p = some (.lst (l.map nV))) (xs ++ [x]) (d ++ [cur]) ∧ d ++ chain k cur = chain 8 l ∧ cur.length ≤ 6 ∧ cur.length ≤ k + 1 ∧ d.length + k = 8)
    (fun σ H' => match H' D with | some (.lst xs) => 20 - xs.length | _ => 0) ⟨[], .ref ya, [], l, 8, rfl, .new hD, upd_same, .one ⟨ya, rfl, ne_of_none hya hD, (Ex.new (Tb := T.Tb) hD).lst hya⟩, rfl, hl, by omega, rfl⟩ ?_ ?_⟩
  · rintro σ H1 ⟨xs, x, d, cur, k, rfl, e1, hD1, hF, hch, h6, hk, hd⟩
    have hlen := hF.length
    rw [List.length_append, List.length_append] at hlen
    have hlx : xs.length = d.length := by simpa using hlen
    obtain ⟨c, hc1, hc2⟩ := hF.get (i := xs.length) (x := x) (by rw [List.getElem?_append_right (Nat.le_refl _), Nat.sub_self]; rfl)
    rw [hlx, List.getElem?_append_right (Nat.le_refl _), Nat.sub_self] at hc1
    cases hc1
    obtain ⟨a, rfl, naD, ha⟩ := hc2
    refine ⟨_, rfl, 1, rfl, D, _, -1, _, rfl, rfl, SqL.of hD1, atI_last xs _, a, _, rfl, .inl (SqL.of ha), _, _, rfl, rfl, _, rfl, ?_⟩
    rw [List.length_map]
    by_cases c : cur.length ≤ 1
    · rw [decide_eq_false (show ¬ (1 : Int) < (cur.length : Nat) by omega)]
      refine iteF ⟨_, rfl, q _ _ e1 ⟨D, _, rfl, hD1, ?_⟩⟩
      rw [← hch]
      have : chain k cur = [cur] := by
        cases k with
        | zero => rfl
        | succ k => unfold chain; rw [if_pos c]
      rw [this]
      exact hF.imp fun _ _ _ _ ⟨p, e, _, h⟩ => ⟨p, e, h⟩
    · rw [decide_eq_true (show (1 : Int) < (cur.length : Nat) by omega)]
      obtain ⟨k, rfl⟩ : ∃ k', k = k' + 1 := ⟨k - 1, by omega⟩
      refine iteT ⟨_, rfl, .inl ⟨rfl, _, SqL.of hD1⟩, _, rfl, 1, rfl, D, _, -1, _, rfl, rfl, SqL.of hD1, atI_last xs _, _, cur, rfl, ⟨a, rfl, ha⟩, h6, fun b H2 e2 nb hb => ?_⟩
      have hD2 := e2.lst hD1
      have nbD : b ≠ D := fun z => by rw [z, hD1] at nb; cases nb
      have hlt : (xs ++ [V.ref a]).length < sizeLine := by
        rw [List.length_append, List.length_singleton]
        exact Nat.lt_of_le_of_lt (show xs.length + 1 ≤ 100 by omega) (by decide)
      refine ⟨D, _, _, rfl, rfl, hD2, hlt, ⟨xs ++ [V.ref a], .ref b, d ++ [cur], nextLevel cur, k, rfl, (e1.trans e2).mut hD hD2 True.intro, upd_same, ?_, ?_, ?_, ?_, ?_⟩, ?_⟩
      · refine (hF.imp fun x l _ _ hh => ?_).append (.one ⟨b, rfl, nbD, ?_⟩)
        · obtain ⟨p, e, n, h⟩ := hh
          exact ⟨p, e, n, by rw [upd_ne n]; exact e2.lst h⟩
        · rw [upd_ne nbD]; exact hb
      · rw [← hch, chain, if_neg c, List.append_assoc]; rfl
      · rw [next_len]; omega
      · rw [next_len]; omega
      · rw [List.length_append, List.length_singleton]; omega
      · show (match upd H2 D (.lst (xs ++ [V.ref a] ++ [V.ref b])) D with | some (.lst xs) => 20 - xs.length | _ => 0) < (match H1 D with | some (.lst xs) => 20 - xs.length | _ => 0)
        rw [upd_same, hD1]
        show 20 - (xs ++ [V.ref a] ++ [V.ref b]).length < 20 - (xs ++ [V.ref a]).length
        rw [List.length_append (as := xs ++ [V.ref a]), List.length_append, List.length_singleton, List.length_singleton]
        omega
  · rintro σ H1 Q1 Q2 hq ⟨v1, h1, i0, h2, p, ys, i, w, h3, h4, h5, h6, p2, ys2, h7, h8, a, b, h9, h10, k, h11, h12⟩
    exact ⟨v1, h1, i0, h2, p, ys, i, w, h3, h4, h5, h6, p2, ys2, h7, h8, a, b, h9, h10, k, h11, hq _ _ h12⟩
/-! ### the root, proofs -/
def sp_root_of (T : Txt K mg) : Sp := fun vs H Q _ => ∃ (y : V) (ms : List Kp433.Member), vs = [y] ∧ MsR T H y ms ∧ (∀ m ∈ ms, m.events.length ≤ 7) ∧ ms.length ≤ 6 ∧ ∀ H', Ex T.Tb H H' → Q (nV (rootFrom 8 (ms.map leafHash))) H'
theorem ok_root_of (T : Txt K mg) : FnOk P w K mg base CX0 8 T.root_of.f T.root_of.fd ["members"] (sp_root_of T) := by
  refine T.root_of.F.ok sc_root_of (fun vs H Q E h => ?_) (fun cdv A outer s H vs Q E hr h => ⟨_, (pss_cons (ps_if (pt_cmpR (op_eqE hr.units0) (pv 0) (pe_lst pa_nil) (nomark _)) (pss_one (ps_ret (pe_call (ok_hash_of T) (hr.mono (by decide)) rfl T.hash_of.g T.hash_of.F.kp T.hash_of.b .nil pass0 (pa_cons (pe_lst (pa_cons (pe_glob (v := .int (0)) rfl T.NOTHING.g ⟨_, rfl⟩) pa_nil)) pa_nil)))) pss_nil)
    (pss_one (ps_ret (pe_ix ix_list (pe_ix ix_list (pe_call (ok_levels_of T) (hr.mono (by decide)) rfl T.levels_of.g T.levels_of.F.kp T.levels_of.b .nil pass0 (pa_cons (pe_call (ok_leaves_of T) (hr.mono (by decide)) rfl T.leaves_of.g T.leaves_of.F.kp T.leaves_of.b .nil pass0 (pa_cons (pv 0) pa_nil)) pa_nil)) (pe_un un_neg pe_int) (fun _ _ => rfl)) pe_int (fun _ _ => rfl))))), ?_⟩)
  · obtain ⟨_, _, rfl, _⟩ := h
    rfl
  obtain ⟨y, ms, rfl, hM, h7, hl, q⟩ := h
  obtain ⟨a, xs, rfl, ha, hxs⟩ := id hM
  refine ⟨_, rfl, Nat.zero_le _, fun b hb => ⟨a, b, xs, rfl, rfl, SqL.of ((Ex.new (Tb := T.Tb) hb).lst ha), upd_same, _, rfl, ?_⟩⟩
  have e1 := Ex.new (Tb := T.Tb) (o := .lst []) hb
  cases hxs with
  | nil =>
    refine iteT ⟨(by show 1 ≤ sizeLine; decide), fun o ho => ⟨o, [0], rfl, upd_same, fun H3 e3 => ?_⟩⟩
    exact q H3 (e1.trans ((Ex.new ho).trans e3))
  | @cons x m xs ms r hxs =>
    obtain ⟨d, z, hc1, hc2, hc3⟩ := chain_last 8 ((m :: ms).map leafHash)
    have hz := hc3 (by simp) (by rw [List.length_map]; omega)
    refine iteF ⟨_, rfl, _, m :: ms, rfl, e1.ms hM, h7, hl, fun v H2 e2 hv => ⟨v, _, rfl, hv, by rw [List.length_map]; exact hl, fun v3 H3 e3 h3 => ?_⟩⟩
    rw [hc1] at h3
    obtain ⟨p, ys, rfl, hp, hys⟩ := h3
    have hly := hys.length
    rw [List.length_append, List.length_singleton] at hly
    obtain ⟨u, hu1, hu2⟩ := hys.get' (i := d.length) (y := z) (by rw [List.getElem?_append_right (Nat.le_refl _), Nat.sub_self]; rfl)
    obtain ⟨c, rfl, hc⟩ := hu2
    have eys : ys = ys.dropLast ++ [V.ref c] := by
      have hne : ys ≠ [] := fun z => by rw [z] at hly; simp at hly
      have := List.dropLast_concat_getLast hne
      rw [← this]
      congr 2
      · rw [this]
      · have hg : ys.getLast hne = V.ref c := by
          have q1 := List.getLast?_eq_getLast hne
          rw [List.getLast?_eq_getElem?, show ys.length - 1 = d.length by omega, hu1] at q1
          exact (Option.some.inj q1).symm
        rw [hg]
    obtain ⟨n, zs, rfl⟩ : ∃ n zs, z = n :: zs := by
      cases z with
      | nil => exact absurd rfl hz
      | cons n zs => exact ⟨n, zs, rfl⟩
    have eroot : rootFrom 8 ((m :: ms).map leafHash) = n := hc2.symm
    refine ⟨1, rfl, p, _, -1, _, rfl, rfl, SqL.of (eys ▸ hp), atI_last _ _, c, _, _, _, rfl, rfl, SqL.of hc, atI_nat (j := 0) rfl, ?_⟩
    have := q H3 ((e1.trans e2).trans e3)
    rw [eroot] at this
    exact this
def sp_proof_of (T : Txt K mg) : Sp := fun vs H Q _ => ∃ (y : V) (ms : List Kp433.Member) (i : Nat), vs = [y, nV i] ∧ MsR T H y ms ∧ (∀ m ∈ ms, m.events.length ≤ 7) ∧ ms.length ≤ 6 ∧ i < ms.length ∧ ∀ v H', Ex T.Tb H H' → PL H' v (proofFrom 8 (ms.map leafHash) i) → Q v H'
theorem ok_proof_of (T : Txt K mg) : FnOk P w K mg base CX0 8 T.proof_of.f T.proof_of.fd ["members", "index"] (sp_proof_of T) := by
  refine T.proof_of.F.ok sc_proof_of (fun vs H Q E h => ?_) (fun cdv A outer s H vs Q E hr h => ⟨_, (pss_cons (ps_set (i := 2) sc_proof_of.nd rfl (Or.inl rfl) (pe_lst pa_nil))
    (pss_cons (ps_set (i := 3) sc_proof_of.nd rfl (Or.inl rfl) (pv 1))
    (pss_cons (ps_for PassesOwn.never rfl (pi_list (pe_call (ok_levels_of T) (hr.mono (by decide)) rfl T.levels_of.g T.levels_of.F.kp T.levels_of.b .nil pass0 (pa_cons (pe_call (ok_leaves_of T) (hr.mono (by decide)) rfl T.leaves_of.g T.leaves_of.F.kp T.leaves_of.b .nil pass0 (pa_cons (pv 0) pa_nil)) pa_nil))) (pg_name (i := 4) sc_proof_of.nd rfl (Or.inl rfl))
    (pss_cons (ps_if (pt_cmpR op_eq (pe_op op_mod (pv 3) pe_int) pe_int (nomark _)) (pss_one (ps_expr (pe_bm PySem.F.plainAttrs_list PySem.F.slot_list_append PySem.F.type_list_append mt_append (pv 2) (pa_cons (pe_tup (pa_cons pe_int (pa_cons (pe_ix ix_list (pv 4) (pe_op op_sub (pv 3) pe_int) (fun _ _ => rfl)) pa_nil))) pa_nil)))) (pss_one (ps_if (pt_cmpR op_lt (pe_op op_add (pv 3) pe_int) (pe_callB call_len_seq (by rfl) T.len_ PySem.boot_len (pa_cons (pv 4) pa_nil)) (nomark _)) (pss_one (ps_expr (pe_bm PySem.F.plainAttrs_list PySem.F.slot_list_append PySem.F.type_list_append mt_append (pv 2) (pa_cons (pe_tup (pa_cons pe_int (pa_cons (pe_ix ix_list (pv 4) (pe_op op_add (pv 3) pe_int) (fun _ _ => rfl)) pa_nil))) pa_nil)))) pss_nil)))
    (pss_one (ps_set (i := 3) sc_proof_of.nd rfl (Or.inl rfl) (pe_op op_fdiv (pv 3) pe_int)))))
    (pss_one (ps_ret (pv 2)))))), ?_⟩)
  · obtain ⟨_, _, _, rfl, _⟩ := h
    rfl
  obtain ⟨y, ms, i, rfl, hM, h7, hl, hi, q⟩ := h
  have hil : i < (ms.map leafHash).length := by rw [List.length_map]; exact hi
  have epr := proof_chain 8 (ms.map leafHash) i hil (by rw [List.length_map]; omega)
  have eok := okL_chain 8 (ms.map leafHash) i hil
  have ecl := chain_len 8 (ms.map leafHash)
  generalize hcs : chain 8 (ms.map leafHash) = cs at *
  refine ⟨Nat.zero_le _, fun D hD => ⟨_, rfl, _, rfl, y, ms, rfl, (Ex.new (Tb := T.Tb) hD).ms hM, h7, hl, fun v H1 e1 hv => ⟨v, _, rfl, hv, by rw [List.length_map]; exact hl, fun v2 H2 e2 h2 => ?_⟩⟩⟩
  rw [hcs] at h2
  obtain ⟨p, ls, rfl, hp, hls⟩ := h2
  have lls := hls.length
  have hD2 : H2 D = some (.lst []) := (e1.trans e2).lst upd_same
  have e02 : Ex T.Tb H H2 := (Ex.new hD).trans (e1.trans e2)
  refine ⟨p, rfl, ⟨_, SqL.of hp⟩, for_list (xs := ls) (fun j σ H' => ∃ y4 at_ acc xs, σ = [some y, some (nV i), some (.ref D), some (nV at_), y4] ∧ Ex T.Tb H H' ∧ H' D = some (.lst xs) ∧ F2 (PrV H') xs acc ∧ acc ++ proofC (cs.drop j) at_ = proofFrom 8 (ms.map leafHash) i ∧ okL (cs.drop j) at_ ∧ acc.length ≤ j ∧
      (∀ b o, H2 b = some o → b ≠ D → (∀ ps, o ≠ .tbl ps) → H' b = some o)) ⟨_, i, [], [], rfl, e02, hD2, .nil, by rw [List.drop_zero]; exact epr, eok, Nat.le_refl _, fun b o h _ _ => h⟩ (fun j σ H' _ ⟨_, _, _, _, _, _, hD', _, _, _, _, k⟩ => SqL.of (k _ _ hp (fun z => ?_) (fun _ z => by cases z))) ?_ ?_⟩
  · -- p is not D: D's list was empty when the levels' list was made
    rw [z, hD2] at hp
    have := HO.lst.inj (Option.some.inj hp)
    rw [← this] at lls
    obtain ⟨d, x, h1, _⟩ := chain_last 8 (ms.map leafHash)
    rw [← hcs, h1, List.length_append] at lls
    simp at lls
  · rintro j x σ H3 hx ⟨y4, at_, acc, xs, rfl, e3, hD3, hF, hpr, hok, hal, kk⟩
    obtain ⟨l, hl3, r⟩ := hls.get hx
    obtain ⟨hlt, hok2⟩ := okL_at cs at_ j l hl3 hok
    have hst := proofC_at cs at_ j l hl3
    obtain ⟨b, rfl, hb⟩ := r
    have hbD : b ≠ D := fun z => by
      rw [z, hD2] at hb
      have := HO.lst.inj (Option.some.inj hb)
      have := congrArg List.length this
      rw [List.length_map] at this
      simp only [List.length_nil] at this
      omega
    have hb3 := kk b _ hb hbD (fun _ z => by cases z)
    have hj8 : j < 9 := by have := lt_of_get hl3; omega
    have hxl : xs.length < sizeLine := by
      rw [hF.length]; exact Nat.lt_of_le_of_lt (show acc.length ≤ 100 by omega) (by decide)
    -- behind the test: at = at // 2
    have fin : ∀ (H4 : Hp) (xs' : List V), Ex T.Tb H H4 → H4 D = some (.lst xs') → F2 (PrV H4) xs' (acc ++ stepAt l at_) → (∀ b o, H2 b = some o → b ≠ D → (∀ ps, o ≠ .tbl ps) → H4 b = some o) → ∃ y4 at_' acc xs, ([some y, some (nV i), some (.ref D), some (.int ((at_ : Int) / 2)), some (.ref b)] : L2.St) = [some y, some (nV i), some (.ref D), some (nV at_'), y4] ∧ Ex T.Tb H H4 ∧ H4 D = some (.lst xs) ∧ F2 (PrV H4) xs acc ∧ acc ++ proofC (cs.drop (j + 1)) at_' = proofFrom 8 (ms.map leafHash) i ∧ okL (cs.drop (j + 1)) at_' ∧ acc.length ≤ j + 1 ∧
      (∀ b o, H2 b = some o → b ≠ D → (∀ ps, o ≠ .tbl ps) → H4 b = some o) := fun H4 xs' e4 hD4 hF4 k4 => by
      refine ⟨_, at_ / 2, acc ++ stepAt l at_, xs', rfl, e4, hD4, hF4, ?_, hok2, ?_, k4⟩
      · rw [← hpr, hst, List.append_assoc]
      · have := proofC_len [l] at_
        have e : proofC [l] at_ = stepAt l at_ := List.append_nil _
        rw [e] at this
        rw [List.length_append]
        simp only [List.length_singleton] at this
        omega
    have hadd : ∀ (s v : Nat), stepAt l at_ = [(s, v)] → ∀ t, H3 t = none → Ex T.Tb H (upd (upd H3 t (.tup [nV s, nV v])) D (.lst (xs ++ [.ref t]))) ∧ F2 (PrV (upd (upd H3 t (.tup [nV s, nV v])) D (.lst (xs ++ [.ref t])))) (xs ++ [.ref t]) (acc ++ stepAt l at_) ∧ (upd H3 t (.tup [nV s, nV v])) D = some (.lst xs) ∧
        (∀ b o, H2 b = some o → b ≠ D → (∀ ps, o ≠ .tbl ps) → (upd (upd H3 t (.tup [nV s, nV v])) D (.lst (xs ++ [.ref t]))) b = some o) := fun s v hs t ht => by
      have e4 : Ex T.Tb H3 (upd H3 t (.tup [nV s, nV v])) := .new ht
      have hD4 := e4.lst hD3
      have nt : ∀ zs, (HO.lst xs) ≠ .tup zs := fun zs z => by cases z
      refine ⟨(e3.trans e4).mut hD hD4 True.intro, ?_, hD4, fun b o h n k => ?_⟩
      · rw [hs]
        refine pairs_upd ((e4.prs hF).append (.one ⟨t, rfl, upd_same⟩)) hD4 nt
      · rw [upd_ne n, upd_ne (ne_of_none (kk b o h n k) ht)]
        exact kk b o h n k
    refine ⟨_, rfl, _, _, rfl, rfl, (by show (0 : Int) < 2; decide), rfl, _, rfl, ?_⟩
    have em : ((at_ : Int) % 2) = ((at_ % 2 : Nat) : Int) := rfl
    by_cases c : at_ % 2 = 1
    · rw [decide_eq_true (show V.int ((at_ : Int) % 2) = V.int 1 by rw [em, c]; rfl)]
      have hs : stepAt l at_ = [(0, l.getD (at_ - 1) 0)] := by unfold stepAt; rw [if_pos c]
      have ea : ((at_ : Int) - 1) = ((at_ - 1 : Nat) : Int) := by omega
      refine iteT ⟨_, rfl, .inl ⟨rfl, _, SqL.of hD3⟩, _, rfl, _, rfl, _, _, rfl, rfl, b, _, _, nV (l.getD (at_ - 1) 0), rfl, rfl, SqL.of hb3, ?_, (by show 2 ≤ sizeLine; decide), fun t ht => ?_⟩
      · rw [ea]; exact atI_nat (nV_get (by omega))
      obtain ⟨e4, f4, d4, k4⟩ := hadd _ _ hs t ht
      exact ⟨D, xs, _, rfl, rfl, d4, hxl, _, rfl, _, _, rfl, rfl, ⟨by decide, by decide⟩, fin _ _ e4 upd_same f4 k4⟩
    · rw [decide_eq_false (show ¬ V.int ((at_ : Int) % 2) = V.int 1 from fun z => c (by have := V.int.inj z; omega))]
      refine iteF ⟨_, rfl, _, _, rfl, rfl, _, rfl, b, _, rfl, .inl (SqL.of hb3), _, _, rfl, rfl, _, rfl, ?_⟩
      rw [List.length_map]
      by_cases c2 : at_ + 1 < l.length
      · rw [decide_eq_true (show ((at_ : Int) + 1) < (l.length : Nat) by omega)]
        have hs : stepAt l at_ = [(1, l.getD (at_ + 1) 0)] := by unfold stepAt; rw [if_neg c, if_pos c2]
        refine iteT ⟨_, rfl, .inl ⟨rfl, _, SqL.of hD3⟩, _, rfl, _, rfl, _, _, rfl, rfl, b, _, _, nV (l.getD (at_ + 1) 0), rfl, rfl, SqL.of hb3, atI_nat (j := at_ + 1) (nV_get c2), (by show 2 ≤ sizeLine; decide), fun t ht => ?_⟩
        obtain ⟨e4, f4, d4, k4⟩ := hadd _ _ hs t ht
        exact ⟨D, xs, _, rfl, rfl, d4, hxl, _, rfl, _, _, rfl, rfl, ⟨by decide, by decide⟩, fin _ _ e4 upd_same f4 k4⟩
      · rw [decide_eq_false (show ¬ ((at_ : Int) + 1) < (l.length : Nat) by omega)]
        have hs : stepAt l at_ = [] := by unfold stepAt; rw [if_neg c, if_neg c2]
        refine iteF ⟨_, rfl, _, _, rfl, rfl, ⟨by decide, by decide⟩, fin H3 xs e3 hD3 (by rw [hs, List.append_nil]; exact hF) kk⟩
  · rintro σ H3 ⟨y4, at_, acc, xs, rfl, e3, hD3, hF, hpr, hok, hal, kk⟩
    rw [lls, List.drop_length] at hpr
    have : acc = proofFrom 8 (ms.map leafHash) i := by rw [← hpr]; exact (List.append_nil _).symm
    rw [this] at hF
    exact ⟨_, rfl, q _ _ e3 ⟨D, xs, rfl, hD3, hF⟩⟩
/-! ### a proof that is handed in -/
theorem stepV3 : ∀ row : List V, stepV 3 row = match row with
    | a :: _ :: _ :: rest => a :: stepV 3 rest
    | a :: _ => [a]
    | [] => []
  | [] => by simp [stepV]
  | [a] => by simp [stepV]
  | [a, b] => by simp [stepV]
  | a :: b :: c :: rest => by
    unfold stepV
    have e : ((a :: b :: c :: rest).length + 3 - 1) / 3 = (rest.length + 3 - 1) / 3 + 1 := by
      rw [List.length_cons, List.length_cons, List.length_cons]; omega
    rw [e, range_cons, List.filterMap_cons]
    show a :: List.filterMap (fun i => (a :: b :: c :: rest)[3 * i]?) ((List.range ((rest.length + 3 - 1) / 3)).map Nat.succ) = a :: List.filterMap (fun i => rest[3 * i]?) (List.range ((rest.length + 3 - 1) / 3))
    rw [List.filterMap_map]
    congr 1
theorem stepV_sides : ∀ row : List Nat, stepV 3 (row.map nV) = (sides row).map nV
  | [] => by rw [List.map_nil, stepV3]; rfl
  | [a] => by rw [List.map_cons, List.map_nil, stepV3]; rfl
  | [a, b] => by rw [List.map_cons, List.map_cons, List.map_nil, stepV3]; rfl
  | a :: b :: c :: rest => by
    rw [List.map_cons, List.map_cons, List.map_cons, stepV3]
    show nV a :: stepV 3 (rest.map nV) = nV a :: (sides rest).map nV
    rw [stepV_sides rest]
def sp_are_steps (T : Txt K mg) : Sp := fun vs H Q _ => ∃ (y : V) (row : List Nat), vs = [y] ∧ NL H y row ∧ row.length ≤ 100 ∧ ∀ H', Ex T.Tb H H' → Q (.bl (stepsOf row).isSome) H'
theorem ok_are_steps (T : Txt K mg) : FnOk P w K mg base CX0 4 T.are_steps.f T.are_steps.fd ["numbers"] (sp_are_steps T) := by
  refine T.are_steps.F.ok sc_are_steps (fun vs H Q E h => ?_) (fun cdv A outer s H vs Q E hr h => ⟨_, (pss_one (ps_ret (pe_and (pe_cmpR op_eq (pe_op op_mod (pe_callB call_len_seq (by rfl) T.len_ PySem.boot_len (pa_cons (pv 0) pa_nil)) (pe_glob (v := .int (3)) rfl T.STEP.g ⟨_, rfl⟩)) pe_int (nomark _)) (pe_one (pe_callB (cr_all rfl) (by rfl) T.all_ (by decide +kernel) (pa_cons (by exact (pe_lc (own := [("side", 1)]) (by rfl) sc_are_steps.nd (pi_list (pe_step (pv 0) (pe_glob (v := .int (3)) rfl T.STEP.g ⟨_, rfl⟩))) (blkOk_by (own := [("side", 1)]) (N := N_are_steps) (sc := defScope s_are_steps) (by decide +kernel)) (fun _ _ _ _ _ => (pg_name (i := 1) sc_are_steps.nd rfl (Or.inl rfl))) (fun _ _ _ _ _ => pts_nil) (fun _ _ _ _ _ => (pe_cmpR op_le (pv 1) pe_int (nomark _))))) pa_nil)))))), ?_⟩)
  · obtain ⟨_, _, rfl, _⟩ := h
    rfl
  obtain ⟨y, row, rfl, ⟨a, rfl, ha⟩, hl, q⟩ := h
  refine ⟨_, rfl, a, _, rfl, .inl (SqL.of ha), _, _, rfl, rfl, (by show (0 : Int) < 3; decide), rfl, _, rfl, ?_⟩
  rw [List.length_map]
  have hs := steps_some row
  by_cases c : row.length % 3 = 0
  · rw [decide_eq_true (show V.int (((row.length : Nat) : Int) % 3) = V.int 0 by congr 1; omega)]
    rw [decide_eq_true c, Bool.true_and] at hs
    refine iteT ⟨_, rfl, a, _, 2, rfl, rfl, SqL.of ha, fun o ho => ?_⟩
    rw [stepV_sides]
    have e1 := Ex.new (Tb := T.Tb) (o := .lst ((sides row).map nV)) ho
    have hls : (sides row).length ≤ row.length := by
      have := stepV_len 2 (row.map nV)
      rw [stepV_sides, List.length_map, List.length_map] at this
      exact this
    refine ⟨o, rfl, ⟨_, SqL.of upd_same⟩, fun D hD => lc_ex (walk_list (K := K) (a := o) (xs := (sides row).map nV)) (Tb := T.Tb) (fun j acc G => acc = (((sides row).take j).map fun s => decide (s ≤ 1)).map V.bl) (by rw [List.length_map]; exact small1000 (by omega)) hD (fun H' e => SqL.of (e.lst upd_same)) rfl ?_ ?_⟩
    · rintro j x acc G H' Nx hj eG gD rfl ⟨rfl, hx⟩ kY kN
      obtain ⟨s, hs2, rfl⟩ := map_get hx
      refine ⟨rfl, _, rfl, _, _, rfl, rfl, kY _ _ (.refl _) fun G' _ _ _ => ?_⟩
      rw [tk hs2, List.map_append, List.map_append]
      congr 1
      show [V.bl (decide ((s : Int) ≤ 1))] = [V.bl (decide (s ≤ 1))]
      congr 2
      exact decide_eq_decide.mpr (by omega)
    · rintro acc G eG gD rfl
      rw [List.length_map, List.take_length]
      refine ⟨D, _, rfl, SqL.of upd_same, ?_⟩
      have := q _ (e1.trans (eG.trans (Ex.new (o := .lst (((sides row).map fun s => decide (s ≤ 1)).map V.bl)) gD)))
      rw [hs] at this
      rw [List.all_map]
      exact this
  · rw [decide_eq_false (show ¬ V.int (((row.length : Nat) : Int) % 3) = V.int 0 from fun z => c (by have := V.int.inj z; omega))]
    rw [decide_eq_false c, Bool.false_and] at hs
    refine iteF ?_
    have := q H (.refl _)
    rw [hs] at this
    exact this
theorem fold_snoc (leaf : Nat) (l : List (Nat × Nat)) (x : Nat × Nat) : foldProof leaf (l ++ [x]) = if x.1 = 0 then nodeHash x.2 (foldProof leaf l) else nodeHash (foldProof leaf l) x.2 := by
  unfold foldProof
  rw [List.foldl_append, List.foldl_cons, List.foldl_nil]
def sp_end_of (T : Txt K mg) : Sp := fun vs H Q _ => ∃ (leaf : Nat) (y : V) (row : List Nat) (st : List (Nat × Nat)), vs = [nV leaf, y] ∧ NL H y row ∧ row.length ≤ 24 ∧ stepsOf row = some st ∧ ∀ H', Ex T.Tb H H' → Q (nV (foldProof leaf st)) H'
theorem ok_end_of (T : Txt K mg) : FnOk P w K mg base CX0 6 T.end_of.f T.end_of.fd ["leaf", "numbers"] (sp_end_of T) := by
  refine T.end_of.F.ok sc_end_of (fun vs H Q E h => ?_) (fun cdv A outer s H vs Q E hr h => ⟨_, (pss_cons (ps_set (i := 2) sc_end_of.nd rfl (Or.inl rfl) (pv 0))
    (pss_cons (ps_for PassesOwn.never rfl (pi_range3 (by rfl) T.range_ (pa_cons pe_int (pa_cons (pe_callB call_len_seq (by rfl) T.len_ PySem.boot_len (pa_cons (pv 1) pa_nil)) (pa_cons (pe_glob (v := .int (3)) rfl T.STEP.g ⟨_, rfl⟩) pa_nil)))) (pg_name (i := 3) sc_end_of.nd rfl (Or.inl rfl))
    (pss_cons (ps_set (i := 4) sc_end_of.nd rfl (Or.inl rfl) (pe_call (ok_value_of T) (hr.mono (by decide)) rfl T.value_of.g T.value_of.F.kp T.value_of.b .nil pass0 (pa_cons (pe_ix ix_list (pv 1) (pe_op op_add (pv 3) pe_int) (fun _ _ => rfl)) (pa_cons (pe_ix ix_list (pv 1) (pe_op op_add (pv 3) pe_int) (fun _ _ => rfl)) pa_nil))))
    (pss_one (ps_set (i := 2) sc_end_of.nd rfl (Or.inl rfl) (pe_ifExp (pt_cmpR op_eq (pe_ix ix_list (pv 1) (pv 3) (fun _ _ => rfl)) pe_int (nomark _)) (pe_call (ok_hash_of T) (hr.mono (by decide)) rfl T.hash_of.g T.hash_of.F.kp T.hash_of.b .nil pass0 (pa_cons (pe_lst (pa_cons (pe_glob (v := .int (2)) rfl T.PAIR.g ⟨_, rfl⟩) (pa_cons (pv 4) (pa_cons (pv 2) pa_nil)))) pa_nil)) (pe_call (ok_hash_of T) (hr.mono (by decide)) rfl T.hash_of.g T.hash_of.F.kp T.hash_of.b .nil pass0 (pa_cons (pe_lst (pa_cons (pe_glob (v := .int (2)) rfl T.PAIR.g ⟨_, rfl⟩) (pa_cons (pv 2) (pa_cons (pv 4) pa_nil)))) pa_nil)))))))
    (pss_one (ps_ret (pv 2))))), ?_⟩)
  · obtain ⟨_, _, _, _, rfl, _⟩ := h
    rfl
  obtain ⟨leaf, y, row, st, rfl, ⟨a, rfl, ha⟩, hl, hst, q⟩ := h
  obtain ⟨s1, s2⟩ := steps_facts hst
  refine ⟨_, rfl, _, rfl, a, _, rfl, .inl (SqL.of ha), 0, ((3 * st.length : Nat) : Int), 3, st.length, by rw [List.length_map, s1], rgc3 (by omega), for_rangeC (lo := 0) (c := 3) (n := st.length) (fun j σ H' => ∃ y3 y4, σ = [some (nV leaf), some (.ref a), some (nV (foldProof leaf (st.take j))), y3, y4] ∧ Ex T.Tb H H') ⟨_, _, rfl, .refl _⟩ ?_ ?_⟩
  · rintro j σ H1 hj ⟨y3, y4, rfl, e1⟩
    obtain ⟨x, hx⟩ : ∃ x, st[j]? = some x := ⟨_, List.getElem?_eq_getElem hj⟩
    have ex := s2 j x hx
    have ej : V.int (0 + ((j : Nat) : Int) * 3) = nV (3 * j) := by show V.int _ = V.int _; congr 1; omega
    show gName 3 _ _ _ _
    rw [ej]
    have ha1 := e1.lst ha
    have i0 : 3 * j < row.length := by omega
    have i1 : 3 * j + 1 < row.length := by omega
    have i2 : 3 * j + 2 < row.length := by omega
    have hfs := fold_snoc leaf (st.take j) x
    rw [← tk hx, ex] at hfs
    refine ⟨_, rfl, _, rfl, _, _, rfl, rfl, a, _, _, _, rfl, rfl, SqL.of ha1, atI_nat (j := 3 * j + 1) (nV_get i1), _, rfl, _, rfl, _, _, rfl, rfl, a, _, _, _, rfl, rfl, SqL.of ha1, atI_nat (j := 3 * j + 2) (nV_get i2), _, _, rfl, ?_⟩
    refine ⟨_, rfl, _, rfl, a, _, _, _, rfl, rfl, SqL.of ha1, atI_nat (nV_get i0), rfl, _, rfl, ?_⟩
    by_cases c : row.getD (3 * j) 0 = 0
    · rw [decide_eq_true (show nV (row.getD (3 * j) 0) = V.int 0 by rw [c]; rfl)]
      refine iteT ⟨_, rfl, _, rfl, (by show 3 ≤ sizeLine; decide), fun o ho => ⟨o, [2, join (row.getD (3 * j + 1) 0) (row.getD (3 * j + 2) 0), foldProof leaf (st.take j)], rfl, upd_same, fun H2 e2 => ?_⟩⟩
      rw [if_pos c] at hfs
      refine ⟨some (nV (3 * j)), some (nV (join (row.getD (3 * j + 1) 0) (row.getD (3 * j + 2) 0))), ?_, e1.trans ((Ex.new ho).trans e2)⟩
      rw [hfs]
      rfl
    · rw [decide_eq_false (show ¬ nV (row.getD (3 * j) 0) = V.int 0 from fun z => c (by have := V.int.inj z; omega))]
      refine iteF ⟨_, rfl, _, rfl, (by show 3 ≤ sizeLine; decide), fun o ho => ⟨o, [2, foldProof leaf (st.take j), join (row.getD (3 * j + 1) 0) (row.getD (3 * j + 2) 0)], rfl, upd_same, fun H2 e2 => ?_⟩⟩
      rw [if_neg c] at hfs
      refine ⟨some (nV (3 * j)), some (nV (join (row.getD (3 * j + 1) 0) (row.getD (3 * j + 2) 0))), ?_, e1.trans ((Ex.new ho).trans e2)⟩
      rw [hfs]
      rfl
  · rintro σ H1 ⟨y3, y4, rfl, e1⟩
    rw [List.take_length]
    exact ⟨_, rfl, q _ e1⟩
end
end FpS
/-! # first_by .. position_sets -/
namespace FpS
open PySem PySem.Spec PyProof.Rows L2
open Kp433 (Store contribution scoreOf)
theorem scal_o (a b : Option Nat) : scal (oV a) (oV b) = true := by cases a <;> cases b <;> rfl
theorem oV_inj {a b : Option Nat} : oV a = oV b ↔ a = b := by
  constructor
  · intro h
    cases a <;> cases b
    · rfl
    · cases h
    · cases h
    · have := V.int.inj h
      congr 1
      omega
  · intro h; rw [h]
theorem dec_oV (a b : Option Nat) : decide (oV a = oV b) = (a == b) := by
  rw [Bool.eq_iff_iff, decide_eq_true_eq, beq_iff_eq, oV_inj]
theorem NL.len {H : Hp} {v : V} {l : List Nat} (h : NL H v l) : ∃ p, v = .ref p ∧ ∃ xs : List V, H p = some (.lst xs) ∧ xs.length = l.length := by
  obtain ⟨p, e, h⟩ := h
  exact ⟨p, e, _, h, List.length_map _⟩
section
variable {P : Program} {w : World} {K : PySem.W.Frag} {mg : Str → Option Value} {base : Heap}
/-! ### first_by -/
def sp_first_by (T : Txt K mg) : Sp := fun vs H Q _ => ∃ (x y z : V) (S : Store) (l m : List Kp433.Event), vs = [x, y, z] ∧ StR T H x S ∧ PL H y (l.map evP) ∧ PL H z (m.map evP) ∧ Wf S ∧ l.length ≤ 8 ∧ EvsOk S m ∧ LamX.Tabs T.Tb H ∧
  ∀ H', Ex T.Tb H H' → Q (oV (Kp433.first S l m)) H'
theorem ok_first_by (T : Txt K mg) (B : Bs T base) : FnOk P w K mg base CX0 10 T.first_by.f T.first_by.fd ["store", "everything", "chosen"] (sp_first_by T) := by
  refine T.first_by.F.ok sc_first_by (fun vs H Q E h => ?_) (fun cdv A outer s H vs Q E hr h => ⟨_, (pss_cons (ps_set (i := 3) sc_first_by.nd rfl (Or.inl rfl) (pe_call (ok_ranking_by T B) (hr.mono (by decide)) rfl T.ranking_by.g T.ranking_by.F.kp T.ranking_by.b .nil pass0 (pa_cons (pv 0) (pa_cons (pv 1) (pa_cons (pv 2) pa_nil)))))
    (pss_one (ps_ret (pe_ifExp (pt_cmpR (op_neE hr.units0) (pv 3) (pe_lst pa_nil) (nomark _)) (pe_ix ix_tup (pe_ix ix_list (pv 3) pe_int (fun _ _ => rfl)) pe_int (fun _ _ => rfl)) pe_non)))), ?_⟩)
  · obtain ⟨_, _, _, _, _, _, rfl, _⟩ := h
    rfl
  obtain ⟨x, y, z, S, l, m, rfl, hS, hy, hz, W, hl8, ho, hT, q⟩ := h
  refine ⟨_, rfl, _, rfl, _, rfl, x, y, z, S, l, m, rfl, hS, hy, hz, W, hl8, ho, hT, fun v H1 e1 hv => ?_⟩
  obtain ⟨p, xs, rfl, hp, hxs⟩ := hv
  refine ⟨_, rfl, Nat.zero_le _, fun b hb => ⟨p, b, xs, rfl, rfl, SqL.of ((Ex.new (Tb := T.Tb) hb).lst hp), upd_same, _, rfl, ?_⟩⟩
  have e2 : Ex T.Tb H1 (upd H1 b (.lst [])) := .new hb
  have hd := rankP_head S l m
  cases xs with
  | nil =>
    cases hxs' : rankP S l m with
    | cons _ _ => rw [hxs'] at hxs; cases hxs
    | nil =>
      rw [hxs'] at hd
      refine iteF ?_
      have en : Kp433.first S l m = none := by
        cases e : Kp433.first S l m with
        | none => rfl
        | some i => rw [e] at hd; cases hd
      have := q _ (e1.trans e2)
      rw [en] at this
      exact this
  | cons x xs =>
    cases hxs' : rankP S l m with
    | nil => rw [hxs'] at hxs; cases hxs
    | cons r rs =>
      rw [hxs'] at hxs hd
      cases hxs with
      | cons r1 _ =>
        obtain ⟨t, rfl, ht⟩ := e2.prv r1
        refine iteT ⟨_, rfl, p, _, _, _, rfl, rfl, SqL.of (e2.lst hp), atI_nat (j := 0) rfl, t, _, _, _, rfl, rfl, SqT.of ht, atI_nat (j := 0) rfl, ?_⟩
        have en : Kp433.first S l m = some r.1 := by
          cases e : Kp433.first S l m with
          | none => rw [e] at hd; cases hd
          | some i =>
            rw [e] at hd
            have := Option.some.inj hd
            rw [this]
        have := q _ (e1.trans e2)
        rw [en] at this
        exact this
/-! ### first_of -/
theorem WfM.evs {S : Store} {m : Kp433.Member} (h : WfM S.items m) : EvsOk S m.events := ⟨by have := h.len; omega, fun e he => ⟨(h.ev e he).1, by have := (h.ev e he).2.2; omega⟩⟩
def sp_first_of (T : Txt K mg) : Sp := fun vs H Q E => ∃ (x y : V) (S : Store) (m : Kp433.Member), vs = [x, y] ∧ StR T H x S ∧ MemR T H y m ∧ Wf S ∧ WfM S.items m ∧ LamX.Tabs T.Tb H ∧
  (∀ i H', Kp433.first S m.events m.events = some i → Ex T.Tb H H' → Q (nV i) H') ∧ (Kp433.first S m.events m.events = none → Rz T H (-33) E)
theorem ok_first_of (T : Txt K mg) (B : Bs T base) : FnOk P w K mg base (L2.CX P w) 11 T.first_of.f T.first_of.fd ["store", "member"] (sp_first_of T) := by
  refine T.first_of.F.okX sc_first_of (fun vs H Q E h => ?_) (fun cdv A outer s H vs Q E hr h => ⟨_, (pss_cons (ps_set (i := 2) sc_first_of.nd rfl (Or.inl rfl) (pe_call (ok_first_by T B) (hr.mono (by decide)) rfl T.first_by.g T.first_by.F.kp T.first_by.b .nil pass0 (pa_cons (pv 0) (pa_cons (pe_fld (pv 1) rfl) (pa_cons (pe_fld (pv 1) rfl) pa_nil)))))
    (pss_cons (ps_expr (pe_call (ok_ask T) (hr.mono (by decide)) rfl T.ask.g T.ask.F.kp T.ask.b .nil passE (pa_cons (pe_cmpR op_notN (pv 2) pe_non (nomark _)) (pa_cons (pe_glob (v := .int (-33)) rfl T.NONE_SUCH.g ⟨_, rfl⟩) pa_nil))))
    (pss_one (ps_ret (pv 2))))), ?_⟩)
  · obtain ⟨_, _, _, _, rfl, _⟩ := h
    rfl
  obtain ⟨x, y, S, m, rfl, hS, ⟨mp, dx, ea, rfl, hm, he⟩, W, wm, hT, kQ, kE⟩ := h
  refine ⟨_, rfl, _, rfl, mp, _, dx, _, _, rfl, hm, T.Member.cl, T.Member_no_events, mF_ev _ _, _, rfl, mp, _, dx, _, _, rfl, hm, T.Member.cl, T.Member_no_events, mF_ev _ _, _, _, _, S, m.events, m.events, rfl, hS, he, he, W, by have := wm.len; omega, wm.evs, hT, fun H1 e1 => ?_⟩
  refine ⟨_, rfl, rfl, _, _, rfl, fun hb => ?_, fun hb => ?_⟩
  · cases e : Kp433.first S m.events m.events with
    | none => rw [e] at hb; cases hb
    | some i =>
      refine ⟨_, rfl, ?_⟩
      exact kQ i _ e e1
  · cases e : Kp433.first S m.events m.events with
    | some i => rw [e] at hb; cases hb
    | none => exact (kE e).mono e1
/-! ### events_at, events_without -/
def sp_events_at (T : Txt K mg) : Sp := fun vs H Q _ => ∃ (x y : V) (l : List Kp433.Event) (ps : List Nat), vs = [x, y] ∧ PL H x (l.map evP) ∧ NL H y ps ∧ (∀ i ∈ ps, i < l.length) ∧ ps.length ≤ 1000 ∧ ∀ v H', Ex T.Tb H H' → PL H' v ((Kp433.part l ps).map evP) → Q v H'
theorem ok_events_at (T : Txt K mg) : FnOk P w K mg base CX0 4 T.events_at.f T.events_at.fd ["events", "positions"] (sp_events_at T) := by
  refine T.events_at.F.ok sc_events_at (fun vs H Q E h => ?_) (fun cdv A outer s H vs Q E hr h => ⟨_, (pss_one (ps_ret (by exact (pe_lc (own := [("position", 2)]) (by rfl) sc_events_at.nd (pi_list (pv 1)) (blkOk_by (own := [("position", 2)]) (N := N_events_at) (sc := defScope s_events_at) (by decide +kernel)) (fun _ _ _ _ _ => (pg_name (i := 2) sc_events_at.nd rfl (Or.inl rfl))) (fun _ _ _ _ _ => pts_nil) (fun _ _ _ _ _ => (pe_ix (ix_listK K rfl) (pv 0) (pv 2) (fun _ _ => rfl))))))), ?_⟩)
  · obtain ⟨_, _, _, _, rfl, _⟩ := h
    rfl
  obtain ⟨x, y, l, ps, rfl, ⟨p, xs, rfl, hp, hxs⟩, ⟨b, rfl, hb⟩, hlt, hlen, q⟩ := h
  refine ⟨_, rfl, b, rfl, ⟨_, SqL.of hb⟩, fun D hD => lc_ex (walk_list (K := K) (a := b) (xs := ps.map nV)) (Tb := T.Tb) (fun j acc G => F2 (PrV G) acc ((Kp433.part l (ps.take j)).map evP)) (by rw [List.length_map]; exact small1000 hlen) hD (fun H' e => SqL.of (e.lst hb)) .nil ?_ ?_⟩
  · rintro j x acc G H' Nx hj eG gD hacc ⟨rfl, hx⟩ kY kN
    obtain ⟨i, hi, rfl⟩ := map_get hx
    have il := hlt i (List.mem_of_getElem? hi)
    have hei : l[i]? = some l[i] := List.getElem?_eq_getElem il
    have eH : Ex T.Tb H (upd G D (.lst acc)) := eG.trans (.new gD)
    obtain ⟨u, hu, ru⟩ := hxs.get' (i := i) (y := evP l[i]) (by rw [List.getElem?_map, hei]; rfl)
    refine ⟨rfl, _, rfl, _, rfl, p, _, _, _, rfl, rfl, SqL.of (eH.lst hp), atI_nat hu, kY _ _ (.refl _) fun G' e' _ _ => ?_⟩
    rw [tk hi, part_snoc l _ hei, List.map_append]
    exact (e'.prs hacc).append (.one ((eG.trans e').prv ru))
  · rintro acc G eG gD hacc
    rw [List.length_map, List.take_length] at hacc
    exact q _ _ (eG.trans (.new gD)) ⟨D, acc, rfl, upd_same, (Ex.new (Tb := T.Tb) gD).prs hacc⟩
def sp_events_without (T : Txt K mg) : Sp := fun vs H Q _ => ∃ (x y : V) (l : List Kp433.Event) (ps : List Nat), vs = [x, y] ∧ PL H x (l.map evP) ∧ NL H y ps ∧ l.length ≤ 1000 ∧ ∀ v H', Ex T.Tb H H' → PL H' v ((Kp433.without l ps).map evP) → Q v H'
theorem ok_events_without (T : Txt K mg) : FnOk P w K mg base CX0 4 T.events_without.f T.events_without.fd ["events", "positions"] (sp_events_without T) := by
  refine T.events_without.F.ok sc_events_without (fun vs H Q E h => ?_) (fun cdv A outer s H vs Q E hr h => ⟨_, (pss_one (ps_ret (by exact (pe_lc (own := [("position", 2), ("event", 3)]) (by rfl) sc_events_without.nd (pi_enum (by rfl) T.enumerate_ (pa_cons (pv 0) pa_nil)) (blkOk_by (own := [("position", 2), ("event", 3)]) (N := N_events_without) (sc := defScope s_events_without) (by decide +kernel)) (fun _ _ _ _ _ => (pg_tupK K 2 rfl (by rfl) (pgs_cons (pg_name (i := 2) sc_events_without.nd rfl (Or.inl rfl)) (pgs_cons (pg_name (i := 3) sc_events_without.nd rfl (Or.inl rfl)) pgs_nil)))) (fun _ _ _ _ _ => (pts_one (pt_cmpR (op_notInK K rfl) (pv 2) (pv 1) (by rfl)))) (fun _ _ _ _ _ => (pv 3)))))), ?_⟩)
  · obtain ⟨_, _, _, _, rfl, _⟩ := h
    rfl
  obtain ⟨x, y, l, ps, rfl, ⟨p, xs, rfl, hp, hxs⟩, ⟨b, rfl, hb⟩, hlen, q⟩ := h
  have lx : xs.length = l.length := by rw [hxs.length, List.length_map]
  refine ⟨_, rfl, p, xs, rfl, SqL.of hp, fun D hD => lc_ex (walk_enum (K := K) (a := p) (xs := xs)) (Tb := T.Tb) (fun j acc G => F2 (PrV G) acc ((keepFrom ps l j).map evP)) (by rw [lx]; exact small1000 hlen) hD (fun H' e => SqL.of (e.lst hp)) .nil ?_ ?_⟩
  · rintro j x acc G H' Nx hj eG gD hacc ⟨t, x1, x2, rfl, ht, rfl, h1, h2⟩ kY kN
    cases h1
    have eH : Ex T.Tb H (upd G D (.lst acc)) := eG.trans (.new gD)
    have e2 : Ex T.Tb (upd G D (.lst acc)) (upd (upd G D (.lst acc)) t (.tup [.int (j : Nat), x2])) := .new ht
    have htD : D ≠ t := ne_of_none upd_same ht
    obtain ⟨pr, hpr, r2⟩ := hxs.get h2
    obtain ⟨e, hei, rfl⟩ := map_get hpr
    refine ⟨t, _, rfl, SqT.of upd_same, rfl, _, _, rfl, _, _, rfl, rfl, rfl, _, rfl, _, rfl, b, _, rfl, .inl (SqL.of ((eH.trans e2).lst hb)), rfl, flat_nV _, _, rfl, ?_⟩
    rw [show V.int ((j : Nat) : Int) = nV j from rfl, inV_nV]
    have hk := keep_succ ps l hei
    cases hc : ps.contains j with
    | true =>
      rw [hc, if_pos rfl, List.append_nil] at hk
      refine iteF (kN _ e2 fun G' e' _ _ => ?_)
      rw [hk]
      exact e'.prs hacc
    | false =>
      rw [hc, if_neg Bool.false_ne_true] at hk
      refine iteT ⟨_, rfl, kY _ _ e2 fun G' e' _ _ => ?_⟩
      rw [hk, List.map_append]
      exact (e'.prs hacc).append (.one ((eG.trans e').prv r2))
  · rintro acc G eG gD hacc
    rw [lx] at hacc
    exact q _ _ (eG.trans (.new gD)) ⟨D, acc, rfl, upd_same, (Ex.new (Tb := T.Tb) gD).prs hacc⟩
end
end FpS
/-! # position_sets .. -/
namespace FpS
open PySem PySem.Spec PyProof.Rows L2
open Kp433 (Store contribution scoreOf)
def unI : V → Int
  | .int i => i
  | _ => 0
def kdL (H : Hp) : V → KD
  | .ref t => match H t with
    | some (.lst xs) => ((xs.length : Int), .inr (xs.map unI))
    | _ => (0, .inr [])
  | _ => (0, .inr [])
theorem kdL_eq {H : Hp} {v : V} {l : List Nat} (h : NL H v l) : kdL H v = ((l.length : Int), .inr (l.map fun n : Nat => (n : Int))) := by
  obtain ⟨p, rfl, h⟩ := h
  show (match H p with
    | some (.lst xs) => (((xs.length : Int), .inr (xs.map unI)) : KD)
    | _ => (0, .inr [])) = _
  rw [h]
  show (((l.map nV).length : Int), Sum.inr ((l.map nV).map unI)) = _
  rw [List.length_map, List.map_map]
  rfl
theorem lexI_nat : ∀ a b : List Nat, lexI (a.map fun n : Nat => (n : Int)) (b.map fun n : Nat => (n : Int)) = lexN a b
  | [], [] => rfl
  | [], _ :: _ => rfl
  | _ :: _, [] => rfl
  | x :: a, y :: b => by
    show (if (x : Int) = (y : Int) then lexI (a.map _) (b.map _) else decide ((x : Int) < (y : Int))) = if x = y then lexN a b else decide (x < y)
    rw [lexI_nat a b]
    by_cases e : x = y
    · rw [if_pos e, if_pos (by omega)]
    · rw [if_neg e, if_neg (by omega)]
      congr 1
      exact propext (by omega)
theorem ltL_eq (a b : List Nat) : ltD ((a.length : Int), .inr (a.map fun n : Nat => (n : Int))) ((b.length : Int), .inr (b.map fun n : Nat => (n : Int))) = ltS a b := by
  unfold ltD ltS
  by_cases e : a.length = b.length
  · rw [if_pos e, if_pos (by show (a.length : Int) = b.length; omega)]
    exact lexI_nat a b
  · rw [if_neg e, if_neg (by show ¬ (a.length : Int) = b.length; omega)]
    congr 1
    exact propext (by show (a.length : Int) < b.length ↔ _; omega)
theorem grown_len : ∀ n, (grown n).length = 2 ^ n
  | 0 => rfl
  | n + 1 => by
    unfold grown
    rw [List.length_append, List.length_map, grown_len n, Nat.pow_succ]
    omega
theorem grown_mem : ∀ n, ∀ l ∈ grown n, l.length ≤ n
  | 0, l, h => by
    have : l = [] := by simpa [grown] using h
    rw [this]; exact Nat.le_refl _
  | n + 1, l, h => by
    unfold grown at h
    rcases List.mem_append.mp h with h | h
    · exact Nat.le_succ_of_le (grown_mem n l h)
    · rw [List.mem_map] at h
      obtain ⟨m, hm, rfl⟩ := h
      rw [List.length_append, List.length_singleton]
      exact Nat.succ_le_succ (grown_mem n m hm)
theorem two_pow7 {n : Nat} (h : n ≤ 7) : 2 ^ n ≤ 128 := by
  have : n = 0 ∨ n = 1 ∨ n = 2 ∨ n = 3 ∨ n = 4 ∨ n = 5 ∨ n = 6 ∨ n = 7 := by omega
  rcases this with e | e | e | e | e | e | e | e <;> subst e <;> decide
section
variable {P : Program} {w : World} {K : PySem.W.Frag} {mg : Str → Option Value} {base : Heap}
def sp_position_sets (T : Txt K mg) : Sp := fun vs H Q _ => ∃ n : Nat, vs = [nV n] ∧ n ≤ 7 ∧ LamX.Tabs T.Tb H ∧ ∀ v H', Ex T.Tb H H' → LL H' v (Kp433.sets n) → Q v H'
theorem ok_position_sets (T : Txt K mg) (B : Bs T base) : FnOk P w K mg base CX0 9 T.position_sets.f T.position_sets.fd ["many"] (sp_position_sets T) := by
  refine okC T.position_sets.F sc_position_sets (fun vs H Q E h => ?_) (fun cdv A outer s H vs Q E hcd hr h => ⟨_, (pss_cons (ps_set (i := 1) sc_position_sets.nd rfl (Or.inl rfl) (pe_lst (pa_cons (pe_lst pa_nil) pa_nil)))
    (pss_cons (ps_for PassesOwn.never rfl (pi_range1 (by rfl) T.range_ (pa_cons (pv 0) pa_nil)) (pg_name (i := 2) sc_position_sets.nd rfl (Or.inr rfl))
    (pss_one (ps_set (i := 1) sc_position_sets.nd rfl (Or.inl rfl) (pe_op op_cat (pv 1) (by exact (pe_lc (own := [("one", 3)]) (by rfl) sc_position_sets.nd (pi_list (pv 1)) (blkOk_by (own := [("one", 3)]) (N := N_position_sets) (sc := defScope s_position_sets) (by decide +kernel)) (fun _ _ _ _ _ => (pg_name (i := 3) sc_position_sets.nd rfl (Or.inl rfl))) (fun _ _ _ _ _ => pts_nil) (fun _ _ _ _ _ => (pe_op op_cat (pv 3) (pe_lst (pa_cons (pv 2) pa_nil))))))))))
    (pss_one (ps_ret (pe_callBK (cr_sortedLam (k := 5) (Tb := T.Tb) (L := lamP) (N := ["one"]) (x := "one") (hr.mono (by decide)) sc_lamP (fun _ _ _ us h => match us, h with | [_], _ => rfl) (fun A outer s H f c => (pe_tup (pa_cons (pe_callB (call_lenK K rfl) (by rfl) T.len_ PySem.boot_len (pa_cons (pv 0) pa_nil)) (pa_cons (pv 0) pa_nil))))) (by rfl) T.sorted_ (by decide +kernel) (pa_cons (pv 1) pa_nil) (pk_cons (pe_lam (L := lamP) B.bP (by exact hcd.symm.trans T.kP) (Tb_mP T) (Tb_uP T) qual_P rfl rfl rfl) pk_nil)))))), ?_⟩)
  · obtain ⟨_, rfl, _⟩ := h
    rfl
  obtain ⟨n, rfl, hn, hT, q⟩ := h
  -- found = [[]]
  refine ⟨Nat.zero_le _, fun b hb => ⟨(by show 1 ≤ sizeLine; decide), fun c hc => ?_⟩⟩
  have e0 : Ex T.Tb H (upd H b (.lst [])) := .new hb
  have e1 : Ex T.Tb (upd H b (.lst [])) (upd (upd H b (.lst [])) c (.lst [.ref b])) := .new hc
  refine ⟨_, rfl, _, rfl, by omega, by omega, for_range (n := ((n : Nat) : Int).toNat) (fun j σ H' => ∃ y2 v, σ = [some (nV n), some v, y2, none] ∧ Ex T.Tb H H' ∧ LL H' v (grown j)) ?_ ?_ ?_⟩
  · refine ⟨none, .ref c, rfl, e0.trans e1, c, [.ref b], rfl, upd_same, .one ⟨b, rfl, ?_⟩⟩
    exact e1.lst upd_same
  · rintro j σ H1 hj ⟨y2, v, rfl, e1, p, xs, rfl, hp, hxs⟩
    rw [Int.toNat_natCast] at hj
    have ej : V.int (0 + ((j : Nat) : Int)) = nV j := by rw [Int.zero_add]
    have l128 : (grown j).length ≤ 128 := by rw [grown_len]; exact two_pow7 (by omega)
    have lxs := hxs.length
    show gName 2 _ _ _ _
    rw [ej]
    refine ⟨_, rfl, _, rfl, p, rfl, ⟨_, SqL.of hp⟩, fun D hD => lc_ex (walk_list (K := K) (a := p) (xs := xs)) (Tb := T.Tb) (fun i acc G => F2 (NL G) acc (((grown j).take i).map fun l => l ++ [j])) (by rw [lxs]; exact small1000 (by omega)) hD (fun H' e => SqL.of (e.lst hp)) .nil ?_ ?_⟩
    · rintro i x acc G H' Nx hi eG gD hacc ⟨rfl, hx⟩ kY kN
      obtain ⟨l, hl, rl⟩ := hxs.get hx
      have eH : Ex T.Tb H1 (upd G D (.lst acc)) := eG.trans (.new gD)
      obtain ⟨t, rfl, ht⟩ := eH.nl rl
      have ll := grown_mem j l (List.mem_of_getElem? hl)
      refine ⟨rfl, _, rfl, _, rfl, (by show 1 ≤ sizeLine; decide), fun o ho => ?_⟩
      have e2 : Ex T.Tb (upd G D (.lst acc)) (upd (upd G D (.lst acc)) o (.lst [nV j])) := .new ho
      refine ⟨t, o, _, _, rfl, rfl, e2.lst ht, upd_same, ?_, fun u hu => kY _ _ (e2.trans (.new hu)) fun G' e' gd' e4 => ?_⟩
      · rw [List.length_map]
        exact Nat.le_trans (show l.length + 1 ≤ 9 by omega) (by decide)
      · rw [tk hl, List.map_append]
        refine (e'.nls hacc).append (.one ⟨u, rfl, ?_⟩)
        have hu2 : u ≠ D := fun z => by
          rw [z] at hu
          rw [e2.lst upd_same] at hu
          cases hu
        have := congrFun e4 u
        rw [upd_same, upd_ne hu2] at this
        rw [← this, List.map_append]
        rfl
    · rintro acc G eG gD hacc
      rw [lxs, List.take_length] at hacc
      have eD : Ex T.Tb G (upd G D (.lst acc)) := .new gD
      have hz : acc.length = (grown j).length := by rw [hacc.length, List.length_map]
      refine ⟨p, D, xs, acc, rfl, rfl, (eG.trans eD).lst hp, upd_same, Nat.le_trans (show xs.length + acc.length ≤ 256 by omega) (by decide), fun u hu => ?_⟩
      refine ⟨_, _, rfl, (e1.trans (eG.trans eD)).trans (.new hu), u, xs ++ acc, rfl, upd_same, ?_⟩
      have eu : Ex T.Tb (upd G D (.lst acc)) (upd (upd G D (.lst acc)) u (.lst (xs ++ acc))) := .new hu
      unfold grown
      exact (eu.nls ((eG.trans eD).nls hxs)).append (eu.nls (eD.nls hacc))
  · rintro σ H1 ⟨y2, v, rfl, e1, p, xs, rfl, hp, hxs⟩
    rw [Int.toNat_natCast] at hxs
    refine ⟨_, rfl, e1.tab hT, fun f c' H4 e4 nf hf hc' => ?_⟩
    have hc4 := e4.nls hxs
    refine ⟨p, f, c', xs, kdL H4, true, rfl, rfl, hf, hc', SqL.of (e4.lst hp), fun x hx => ?_, fun x hx => ?_, fun x hx H5 e5 Q' k => ?_, fun out p H5 e5 np hperm hpw => ?_⟩
    · obtain ⟨y, _, t, ht, _⟩ := hc4.mem hx
      exact ⟨t, ht⟩
    · obtain ⟨y, _, r⟩ := hc4.mem hx
      rw [kdL_eq r]
      rfl
    · obtain ⟨l, _, r⟩ := hc4.mem hx
      rw [kdL_eq r] at k
      obtain ⟨t, rfl, ht⟩ := e5.nl r
      refine ⟨_, rfl, t, _, rfl, .inl (SqL.of ht), _, rfl, (by show 2 ≤ sizeLine; decide), fun u hu => k _ _ (.new hu) ?_⟩
      refine ⟨u, .ref t, rfl, ?_, t, rfl, ?_⟩
      · rw [upd_same, List.length_map]
      · rw [(Ex.new (Tb := T.Tb) hu).lst ht, ← map_nV]
    · obtain ⟨ys, hys, hf2⟩ := hc4.perm hperm
      have hs := hf2.pairwise hpw (S' := fun x y : List Nat => ltS y x = false) fun x y x' y' _ _ r r' h => by
        rw [kdL_eq r, kdL_eq r', ltL_eq] at h
        exact h
      have ey := sets_eq hn hys hs
      subst ey
      exact q _ _ ((e1.trans e4).trans (e5.trans (.new np))) ⟨p, out, rfl, upd_same, (e5.trans (.new np)).nls hf2⟩
end
end FpS
/-! # removal_set_of .. moved_many -/
namespace FpS
open PySem PySem.Spec PyProof.Rows L2
open Kp433 (Store contribution scoreOf)
theorem find_at {α : Type} {p : α → Bool} : ∀ {l : List α} {i : Nat} {x : α}, l[i]? = some x → (∀ y ∈ l.take i, p y = false) → p x = true → l.find? p = some x
  | [], _, _, h, _, _ => by cases h
  | y :: l, 0, x, h, _, hp => by
    cases Option.some.inj h
    rw [List.find?_cons_of_pos hp]
  | y :: l, i + 1, x, h, hn, hp => by
    rw [List.find?_cons_of_neg (by rw [hn y (by simp)]; exact Bool.false_ne_true)]
    exact find_at (i := i) (by simpa using h) (fun z hz => hn z (by rw [List.take_succ_cons]; exact List.mem_cons_of_mem _ hz)) hp
theorem not_take {α : Type} {p : α → Bool} {l : List α} {i : Nat} {x : α} (h : l[i]? = some x) (hn : ∀ y ∈ l.take i, p y = false) (hp : p x = false) : ∀ y ∈ l.take (i + 1), p y = false := by
  rw [tk h]
  intro y hy
  rcases List.mem_append.mp hy with e | e
  · exact hn y e
  · rw [List.mem_singleton.mp e]; exact hp
theorem find_no {α : Type} {p : α → Bool} {l : List α} (hn : ∀ y ∈ l.take l.length, p y = false) : l.find? p = none := by
  rw [List.take_length] at hn
  rw [List.find?_eq_none]
  intro y hy
  rw [hn y hy]
  exact Bool.false_ne_true
section
variable {P : Program} {w : World} {K : PySem.W.Frag} {mg : Str → Option Value} {base : Heap}
def sp_removal_set_of (T : Txt K mg) : Sp := fun vs H Q E => ∃ (x y : V) (S : Store) (m : Kp433.Member), vs = [x, y] ∧ StR T H x S ∧ MemR T H y m ∧ Wf S ∧ WfM S.items m ∧ LamX.Tabs T.Tb H ∧
  (∀ r v H', Kp433.first S m.events m.events ≠ none → Kp433.removalSet S m.events = some r → Ex T.Tb H H' → NL H' v r → Q v H') ∧ (Kp433.first S m.events m.events = none → Rz T H (-33) E)
theorem ok_removal_set_of (T : Txt K mg) (B : Bs T base) : FnOk P w K mg base (L2.CX P w) 12 T.removal_set_of.f T.removal_set_of.fd ["store", "member"] (sp_removal_set_of T) := by
  refine T.removal_set_of.F.okX sc_removal_set_of (fun vs H Q E h => ?_) (fun cdv A outer s H vs Q E hr h => ⟨_, (pss_cons (ps_set (i := 2) sc_removal_set_of.nd rfl (Or.inl rfl) (pe_call (ok_first_of T B) (hr.mono (by decide)) rfl T.first_of.g T.first_of.F.kp T.first_of.b .nil passE (pa_cons (pv 0) (pa_cons (pv 1) pa_nil))))
    (PSs.nox (pss_cons (ps_for PassesOwn.never rfl (pi_list (pe_call (ok_position_sets T B) (hr.mono (by decide)) rfl T.position_sets.g T.position_sets.F.kp T.position_sets.b .nil pass0 (pa_cons (pe_callB call_len_seq (by rfl) T.len_ PySem.boot_len (pa_cons (pe_fld (pv 1) rfl) pa_nil)) pa_nil))) (pg_name (i := 3) sc_removal_set_of.nd rfl (Or.inl rfl))
    (pss_one (ps_if (pt_cmpR op_ne (pe_call (ok_first_by T B) (hr.mono (by decide)) rfl T.first_by.g T.first_by.F.kp T.first_by.b .nil pass0 (pa_cons (pv 0) (pa_cons (pe_fld (pv 1) rfl) (pa_cons (pe_call (ok_events_without T) (hr.mono (by decide)) rfl T.events_without.g T.events_without.F.kp T.events_without.b .nil pass0 (pa_cons (pe_fld (pv 1) rfl) (pa_cons (pv 3) pa_nil))) pa_nil)))) (pv 2) (nomark _)) (pss_one (ps_ret (pv 3))) pss_nil)))
    (pss_one (ps_ret pe_non))))), ?_⟩)
  · obtain ⟨_, _, _, _, rfl, _⟩ := h
    rfl
  obtain ⟨x, y, S, m, rfl, hS, hM, W, wm, hT, kQ, kE⟩ := h
  refine ⟨_, rfl, _, rfl, x, y, S, m, rfl, hS, hM, W, wm, hT, fun i H1 hi e1 => ?_, kE⟩
  obtain ⟨mp, dx, ea, rfl, hm, he⟩ := e1.mem hM
  obtain ⟨ea', xs, e0, hea, hxs⟩ := id he
  cases e0
  have hl : xs.length = m.events.length := by rw [hxs.length, List.length_map]
  have h7 := wm.len
  refine ⟨_, rfl, mp, _, dx, _, _, rfl, hm, T.Member.cl, T.Member_no_events, mF_ev _ _, ea, xs, rfl, .inl (SqL.of hea), m.events.length, (by rw [hl]; rfl), h7, e1.tab hT, fun v H2 e2 hv => ?_⟩
  obtain ⟨p, ss, rfl, hp, hss⟩ := hv
  refine ⟨p, rfl, ⟨_, SqL.of hp⟩, for_list (xs := ss) (fun j σ H' => ∃ y3, σ = [some x, some (.ref mp), some (nV i), y3] ∧ Ex T.Tb H2 H' ∧ ∀ r ∈ (Kp433.sets m.events.length).take j, (Kp433.first S m.events (Kp433.without m.events r) != Kp433.first S m.events m.events) = false) ⟨_, rfl, .refl _, by simp⟩ (fun j σ H' _ ⟨_, _, e, _⟩ => SqL.of (e.lst hp)) ?_ ?_⟩
  · rintro j z σ H3 hz ⟨y3, rfl, e3, hn⟩
    obtain ⟨r, hr3, rz⟩ := hss.get hz
    have rm := List.mem_of_getElem? hr3
    have e13 := e2.trans e3
    refine ⟨_, rfl, _, rfl, mp, _, dx, _, _, rfl, e13.ins hm, T.Member.cl, T.Member_no_events, mF_ev _ _, _, rfl, mp, _, dx, _, _, rfl, e13.ins hm, T.Member.cl, T.Member_no_events, mF_ev _ _, _, rfl, _, _, m.events, r, rfl, e13.pl he, e3.nl rz, by omega, fun v4 H4 e4 h4 => ?_⟩
    refine ⟨x, _, v4, S, m.events, Kp433.without m.events r, rfl, ((e1.trans e13).trans e4).st hS, (e13.trans e4).pl he, h4, W, by omega, ⟨Nat.le_trans (without_len _ _) wm.evs.1, fun e he => wm.evs.2 e (without_mem he)⟩, ((e1.trans e13).trans e4).tab hT, fun H5 e5 => ?_⟩
    refine ⟨_, rfl, ?_⟩
    have ei : nV i = oV (Kp433.first S m.events m.events) := by rw [hi]; rfl
    rw [ei]
    refine ⟨scal_o _ _, _, rfl, ?_⟩
    rw [dec_oV]
    cases hc : Kp433.first S m.events (Kp433.without m.events r) == Kp433.first S m.events m.events with
    | false =>
      refine iteT ⟨_, rfl, kQ r _ _ (by rw [hi]; simp) (find_at hr3 hn (by rw [bne, hc]; rfl)) ((e1.trans e13).trans (e4.trans e5)) ((e3.trans (e4.trans e5)).nl rz)⟩
    | true =>
      refine iteF ⟨_, rfl, e3.trans (e4.trans e5), not_take hr3 hn (by rw [bne, hc]; rfl)⟩
  · rintro σ H3 ⟨y3, rfl, e3, hn⟩
    rw [hss.length] at hn
    obtain ⟨r, h1, _⟩ := removal_some (s := S) h7 (by rw [hi]; simp)
    have h2 : Kp433.removalSet S m.events = none := find_no hn
    rw [h2] at h1
    cases h1
def sp_sufficient_set_of (T : Txt K mg) : Sp := fun vs H Q E => ∃ (x y : V) (S : Store) (m : Kp433.Member), vs = [x, y] ∧ StR T H x S ∧ MemR T H y m ∧ Wf S ∧ WfM S.items m ∧ LamX.Tabs T.Tb H ∧
  (∀ r v H', Kp433.first S m.events m.events ≠ none → Kp433.sufficientSet S m.events = some r → Ex T.Tb H H' → NL H' v r → Q v H') ∧ (Kp433.first S m.events m.events = none → Rz T H (-33) E)
theorem ok_sufficient_set_of (T : Txt K mg) (B : Bs T base) : FnOk P w K mg base (L2.CX P w) 12 T.sufficient_set_of.f T.sufficient_set_of.fd ["store", "member"] (sp_sufficient_set_of T) := by
  refine T.sufficient_set_of.F.okX sc_sufficient_set_of (fun vs H Q E h => ?_) (fun cdv A outer s H vs Q E hr h => ⟨_, (pss_cons (ps_set (i := 2) sc_sufficient_set_of.nd rfl (Or.inl rfl) (pe_call (ok_first_of T B) (hr.mono (by decide)) rfl T.first_of.g T.first_of.F.kp T.first_of.b .nil passE (pa_cons (pv 0) (pa_cons (pv 1) pa_nil))))
    (PSs.nox (pss_cons (ps_for PassesOwn.never rfl (pi_list (pe_call (ok_position_sets T B) (hr.mono (by decide)) rfl T.position_sets.g T.position_sets.F.kp T.position_sets.b .nil pass0 (pa_cons (pe_callB call_len_seq (by rfl) T.len_ PySem.boot_len (pa_cons (pe_fld (pv 1) rfl) pa_nil)) pa_nil))) (pg_name (i := 3) sc_sufficient_set_of.nd rfl (Or.inl rfl))
    (pss_one (ps_if (pt_cmpR op_eq (pe_call (ok_first_by T B) (hr.mono (by decide)) rfl T.first_by.g T.first_by.F.kp T.first_by.b .nil pass0 (pa_cons (pv 0) (pa_cons (pe_fld (pv 1) rfl) (pa_cons (pe_call (ok_events_at T) (hr.mono (by decide)) rfl T.events_at.g T.events_at.F.kp T.events_at.b .nil pass0 (pa_cons (pe_fld (pv 1) rfl) (pa_cons (pv 3) pa_nil))) pa_nil)))) (pv 2) (nomark _)) (pss_one (ps_ret (pv 3))) pss_nil)))
    (pss_one (ps_ret pe_non))))), ?_⟩)
  · obtain ⟨_, _, _, _, rfl, _⟩ := h
    rfl
  obtain ⟨x, y, S, m, rfl, hS, hM, W, wm, hT, kQ, kE⟩ := h
  refine ⟨_, rfl, _, rfl, x, y, S, m, rfl, hS, hM, W, wm, hT, fun i H1 hi e1 => ?_, kE⟩
  obtain ⟨mp, dx, ea, rfl, hm, he⟩ := e1.mem hM
  obtain ⟨ea', xs, e0, hea, hxs⟩ := id he
  cases e0
  have hl : xs.length = m.events.length := by rw [hxs.length, List.length_map]
  have h7 := wm.len
  refine ⟨_, rfl, mp, _, dx, _, _, rfl, hm, T.Member.cl, T.Member_no_events, mF_ev _ _, ea, xs, rfl, .inl (SqL.of hea), m.events.length, (by rw [hl]; rfl), h7, e1.tab hT, fun v H2 e2 hv => ?_⟩
  obtain ⟨p, ss, rfl, hp, hss⟩ := hv
  refine ⟨p, rfl, ⟨_, SqL.of hp⟩, for_list (xs := ss) (fun j σ H' => ∃ y3, σ = [some x, some (.ref mp), some (nV i), y3] ∧ Ex T.Tb H2 H' ∧ ∀ r ∈ (Kp433.sets m.events.length).take j, (Kp433.first S m.events (Kp433.part m.events r) == Kp433.first S m.events m.events) = false) ⟨_, rfl, .refl _, by simp⟩ (fun j σ H' _ ⟨_, _, e, _⟩ => SqL.of (e.lst hp)) ?_ ?_⟩
  · rintro j z σ H3 hz ⟨y3, rfl, e3, hn⟩
    obtain ⟨r, hr3, rz⟩ := hss.get hz
    have rm := List.mem_of_getElem? hr3
    have e13 := e2.trans e3
    have rl := sets_len h7 rm
    refine ⟨_, rfl, _, rfl, mp, _, dx, _, _, rfl, e13.ins hm, T.Member.cl, T.Member_no_events, mF_ev _ _, _, rfl, mp, _, dx, _, _, rfl, e13.ins hm, T.Member.cl, T.Member_no_events, mF_ev _ _, _, rfl, _, _, m.events, r, rfl, e13.pl he, e3.nl rz, sets_lt h7 rm, by omega, fun v4 H4 e4 h4 => ?_⟩
    refine ⟨x, _, v4, S, m.events, Kp433.part m.events r, rfl, ((e1.trans e13).trans e4).st hS, (e13.trans e4).pl he, h4, W, by omega, ⟨Nat.le_trans (part_len _ _) (by omega), fun e he => wm.evs.2 e (part_mem he)⟩, ((e1.trans e13).trans e4).tab hT, fun H5 e5 => ?_⟩
    refine ⟨_, rfl, ?_⟩
    have ei : nV i = oV (Kp433.first S m.events m.events) := by rw [hi]; rfl
    rw [ei]
    refine ⟨scal_o _ _, _, rfl, ?_⟩
    rw [dec_oV]
    cases hc : Kp433.first S m.events (Kp433.part m.events r) == Kp433.first S m.events m.events with
    | true =>
      refine iteT ⟨_, rfl, kQ r _ _ (by rw [hi]; simp) (find_at hr3 hn hc) ((e1.trans e13).trans (e4.trans e5)) ((e3.trans (e4.trans e5)).nl rz)⟩
    | false =>
      refine iteF ⟨_, rfl, e3.trans (e4.trans e5), not_take hr3 hn hc⟩
  · rintro σ H3 ⟨y3, rfl, e3, hn⟩
    rw [hss.length] at hn
    obtain ⟨r, h1, _⟩ := sufficient_some (s := S) h7
    have h2 : Kp433.sufficientSet S m.events = none := find_no hn
    rw [h2] at h1
    cases h1
/-! ### least_weight -/
theorem nd_get {n i : Nat} (h : i < n) : ((List.range n).map fun w => w + 1)[i]? = some (i + 1) := by
  rw [List.getElem?_map, List.getElem?_range h]; rfl
def sp_least_weight (T : Txt K mg) : Sp := fun vs H Q E => ∃ (x y : V) (S : Store) (m : Kp433.Member) (on goal : Nat), vs = [x, y, nV on, nV goal, .int 100] ∧ StR T H x S ∧ MemR T H y m ∧ Wf S ∧ WfM S.items m ∧ LamX.Tabs T.Tb H ∧ on < S.items ∧
  ∀ H', Ex T.Tb H H' → Q (oV (Kp433.neededWeight S m.events on goal)) H'
theorem ok_least_weight (T : Txt K mg) (B : Bs T base) : FnOk P w K mg base CX0 11 T.least_weight.f T.least_weight.fd ["store", "member", "on", "goal", "most"] (sp_least_weight T) := by
  refine T.least_weight.F.ok sc_least_weight (fun vs H Q E h => ?_) (fun cdv A outer s H vs Q E hr h => ⟨_, (pss_cons (ps_for PassesOwn.never rfl (pi_range2 (by rfl) T.range_ (pa_cons pe_int (pa_cons (pe_op op_add (pv 4) pe_int) pa_nil))) (pg_name (i := 5) sc_least_weight.nd rfl (Or.inl rfl))
    (pss_cons (ps_set (i := 6) sc_least_weight.nd rfl (Or.inl rfl) (pe_op op_cat (pe_fld (pv 1) rfl) (pe_lst (pa_cons (pe_tup (pa_cons (pv 2) (pa_cons (pv 5) pa_nil))) pa_nil))))
    (pss_one (ps_if (pt_cmpR op_eq (pe_call (ok_first_by T B) (hr.mono (by decide)) rfl T.first_by.g T.first_by.F.kp T.first_by.b .nil pass0 (pa_cons (pv 0) (pa_cons (pv 6) (pa_cons (pv 6) pa_nil)))) (pv 3) (nomark _)) (pss_one (ps_ret (pv 5))) pss_nil))))
    (pss_one (ps_ret pe_non))), ?_⟩)
  · obtain ⟨_, _, _, _, _, _, rfl, _⟩ := h
    rfl
  obtain ⟨x, y, S, m, on, goal, rfl, hS, hM, W, wm, hT, ho, kQ⟩ := h
  obtain ⟨mp, dx, ea, rfl, hm, he⟩ := hM
  obtain ⟨ea', xs, e0, hea, hxs⟩ := id he
  cases e0
  have hl : xs.length = m.events.length := by rw [hxs.length, List.length_map]
  have h7 := wm.len
  refine ⟨_, rfl, _, _, rfl, rfl, 1, 101, rfl, by decide, for_range (lo := 1) (n := 100) (fun j σ H' => ∃ y5 y6, σ = [some x, some (.ref mp), some (nV on), some (nV goal), some (.int 100), y5, y6] ∧ Ex T.Tb H H' ∧ ∀ r ∈ ((List.range 100).map fun w => w + 1).take j, (Kp433.first S (m.events ++ [⟨on, r⟩]) (m.events ++ [⟨on, r⟩]) == some goal) = false) ⟨_, _, rfl, .refl _, by simp⟩ ?_ ?_⟩
  · rintro j σ H1 hj ⟨y5, y6, rfl, e1, hn⟩
    have ej : V.int (1 + ((j : Nat) : Int)) = nV (j + 1) := by show V.int _ = V.int _; congr 1; omega
    show gName 5 _ _ _ _
    rw [ej]
    refine ⟨_, rfl, mp, _, dx, _, _, rfl, e1.ins hm, T.Member.cl, T.Member_no_events, mF_ev _ _, _, rfl, _, rfl, (by show 2 ≤ sizeLine; decide), fun t ht => ⟨(by show 1 ≤ sizeLine; decide), fun b hb => ?_⟩⟩
    have e2 : Ex T.Tb H1 (upd H1 t (.tup [nV on, nV (j + 1)])) := .new ht
    have e3 : Ex T.Tb (upd H1 t (.tup [nV on, nV (j + 1)])) (upd (upd H1 t (.tup [nV on, nV (j + 1)])) b (.lst [.ref t])) := .new hb
    refine ⟨ea, b, xs, _, rfl, rfl, (e1.trans (e2.trans e3)).lst hea, upd_same, Nat.le_trans (show xs.length + 1 ≤ 8 by omega) (by decide), fun c hc => ?_⟩
    generalize hH2 : upd (upd (upd H1 t (.tup [nV on, nV (j + 1)])) b (.lst [.ref t])) c (.lst (xs ++ [.ref t])) = H2
    have e4 : Ex T.Tb (upd (upd H1 t (.tup [nV on, nV (j + 1)])) b (.lst [.ref t])) H2 := hH2 ▸ .new hc
    have eA : Ex T.Tb H H2 := e1.trans ((e2.trans e3).trans e4)
    have hpl : PL H2 (.ref c) ((m.events ++ [(⟨on, j + 1⟩ : Kp433.Event)]).map evP) := by
      refine ⟨c, _, rfl, hH2 ▸ upd_same, ?_⟩
      rw [List.map_append]
      exact (eA.prs hxs).append (.one ⟨t, rfl, (e3.trans e4).tup upd_same⟩)
    have hok : EvsOk S (m.events ++ [⟨on, j + 1⟩]) := by
      refine ⟨by rw [List.length_append, List.length_singleton]; omega, fun e he => ?_⟩
      rcases List.mem_append.mp he with q | q
      · exact wm.evs.2 e q
      · rw [List.mem_singleton.mp q]
        exact ⟨ho, by show j + 1 ≤ 100; omega⟩
    refine ⟨_, rfl, _, rfl, _, rfl, x, _, _, S, _, _, rfl, eA.st hS, hpl, hpl, W, hok.1, hok, eA.tab hT, fun H3 e5 => ?_⟩
    have eg : nV goal = oV (some goal) := rfl
    refine ⟨_, rfl, ?_⟩
    rw [eg]
    refine ⟨scal_o _ _, _, rfl, ?_⟩
    rw [dec_oV]
    cases hc : Kp433.first S (m.events ++ [⟨on, j + 1⟩]) (m.events ++ [⟨on, j + 1⟩]) == some goal with
    | true =>
      refine iteT ⟨_, rfl, ?_⟩
      have hf : Kp433.neededWeight S m.events on goal = some (j + 1) := find_at (nd_get hj) hn hc
      have := kQ H3 (eA.trans e5)
      rw [hf] at this
      exact this
    | false => exact iteF ⟨_, _, rfl, eA.trans e5, not_take (nd_get hj) hn hc⟩
  · rintro σ H1 ⟨y5, y6, rfl, e1, hn⟩
    have hf : Kp433.neededWeight S m.events on goal = none := find_no hn
    have := kQ H1 e1
    rw [hf] at this
    exact this
/-! ### moved_many -/
def movedN (a b : List (Nat × Nat)) (n : Nat) : Nat := ((List.range n).filter fun q => b[q]?.map Prod.fst != a[q]?.map Prod.fst).length
theorem moved_succ (a b : List (Nat × Nat)) (n : Nat) : movedN a b (n + 1) = movedN a b n + if b[n]?.map Prod.fst != a[n]?.map Prod.fst then 1 else 0 := by
  unfold movedN
  rw [List.range_succ, List.filter_append, List.length_append, List.filter_cons]
  cases h : (b[n]?.map Prod.fst != a[n]?.map Prod.fst) <;> rfl
def sp_moved_many (T : Txt K mg) : Sp := fun vs H Q E => ∃ (x y : V) (a b : List (Nat × Nat)), vs = [x, y] ∧ PL H x a ∧ PL H y b ∧ ∀ H', Ex T.Tb H H' → Q (nV (movedN a b a.length)) H'
theorem ok_moved_many (T : Txt K mg) : FnOk P w K mg base CX0 4 T.moved_many.f T.moved_many.fd ["old", "fresh"] (sp_moved_many T) := by
  refine T.moved_many.F.ok sc_moved_many (fun vs H Q E h => ?_) (fun cdv A outer s H vs Q E hr h => ⟨_, (pss_cons (ps_set (i := 2) sc_moved_many.nd rfl (Or.inl rfl) pe_int)
    (pss_cons (ps_for PassesOwn.never rfl (pi_enum (by rfl) T.enumerate_ (pa_cons (pv 0) pa_nil)) (pg_tup (by rfl) (pgs_cons (pg_name (i := 3) sc_moved_many.nd rfl (Or.inl rfl)) (pgs_cons (pg_tup (by rfl) (pgs_cons (pg_name (i := 4) sc_moved_many.nd rfl (Or.inl rfl)) (pgs_cons (pg_name (i := 5) sc_moved_many.nd rfl (Or.inl rfl)) pgs_nil))) pgs_nil)))
    (pss_one (ps_if (PW.pt (pw_or (pt_cmpR op_ge (pv 3) (pe_callB call_len_seq (by rfl) T.len_ PySem.boot_len (pa_cons (pv 1) pa_nil)) (nomark _)) (pw_or1 (pt_cmpR op_ne (pe_ix ix_tup (pe_ix ix_list (pv 1) (pv 3) (fun _ _ => rfl)) pe_int (fun _ _ => rfl)) (pv 4) (nomark _))))) (pss_one (ps_aug (i := 2) sc_moved_many.nd rfl (Or.inl rfl) pe_int ip_add)) pss_nil)))
    (pss_one (ps_ret (pv 2))))), ?_⟩)
  · obtain ⟨_, _, _, _, rfl, _⟩ := h
    rfl
  obtain ⟨x, y, a, b, rfl, ⟨p, xs, rfl, hp, hxs⟩, ⟨r, ys, rfl, hr2, hys⟩, kQ⟩ := h
  have lx := hxs.length
  have ly := hys.length
  refine ⟨_, rfl, p, xs, rfl, SqL.of hp, for_it (walk_enum (K := K) (a := p) (xs := xs)) (fun j σ H' => ∃ y3 y4 y5, σ = [some (.ref p), some (.ref r), some (nV (movedN a b j)), y3, y4, y5] ∧ Ex T.Tb H H') ⟨_, _, _, rfl, .refl _⟩ (fun j σ H' _ ⟨_, _, _, _, e⟩ => SqL.of (e.lst hp)) ?_ ?_⟩
  · rintro j z σ H1 H2 hj ⟨y3, y4, y5, rfl, e1⟩ ⟨t, x1, x2, rfl, ht, rfl, h1, h2⟩
    cases h1
    have e2 : Ex T.Tb H1 (upd H1 t (.tup [.int (j : Nat), x2])) := .new ht
    have eA := e1.trans e2
    obtain ⟨pr, hpr, r2⟩ := hxs.get h2
    obtain ⟨u, rfl, hu⟩ := eA.prv r2
    have ha : a[j]?.map Prod.fst = some pr.1 := by rw [hpr]; rfl
    refine ⟨t, _, rfl, SqT.of upd_same, rfl, _, _, rfl, _, _, rfl, u, _, rfl, SqT.of hu, rfl, _, _, rfl, _, _, rfl, rfl, rfl, ?_⟩
    have hms := moved_succ a b j
    have inc : ∀ c : Bool, (b[j]?.map Prod.fst != a[j]?.map Prod.fst) = c → movedN a b (j + 1) = movedN a b j + if c = true then 1 else 0 := fun c h => by rw [hms, h]
    refine ⟨_, rfl, _, rfl, r, ys, rfl, .inl (SqL.of (eA.lst hr2)), _, _, rfl, rfl, _, rfl, ?_⟩
    by_cases hge : b.length ≤ j
    · rw [decide_eq_true (show ((ys.length : Nat) : Int) ≤ ((j : Nat) : Int) by omega)]
      have hb : b[j]?.map Prod.fst = none := by rw [List.getElem?_eq_none hge]; rfl
      have hi := inc true (by rw [hb, ha]; rfl)
      refine iteT ⟨_, rfl, _, _, rfl, rfl, some (nV j), some (nV pr.1), some (nV pr.2), ?_, eA⟩
      show [_, _, some (V.int ((movedN a b j : Nat) + 1)), _, _, _] = _
      rw [hi]
      rfl
    · rw [decide_eq_false (show ¬ ((ys.length : Nat) : Int) ≤ ((j : Nat) : Int) by omega)]
      have hlt : j < b.length := by omega
      obtain ⟨u2, hu2, ru2⟩ := hys.get' (List.getElem?_eq_getElem hlt)
      obtain ⟨t2, rfl, ht2⟩ := eA.prv ru2
      refine iteF ⟨_, rfl, _, rfl, r, _, _, _, rfl, rfl, SqL.of (eA.lst hr2), atI_nat hu2, t2, _, _, _, rfl, rfl, SqT.of ht2, atI_nat (j := 0) rfl, _, rfl, rfl, _, rfl, ?_⟩
      have hb : b[j]?.map Prod.fst = some b[j].1 := by rw [List.getElem?_eq_getElem hlt]; rfl
      by_cases c : b[j].1 = pr.1
      · have hi := inc false (by rw [hb, ha, c]; simp)
        rw [decide_eq_true (show nV b[j].1 = nV pr.1 by rw [c])]
        refine iteF ⟨some (nV j), some (nV pr.1), some (nV pr.2), ?_, eA⟩
        rw [hi]
        rfl
      · have hi := inc true (by rw [hb, ha]; simpa using c)
        rw [decide_eq_false (show ¬ nV b[j].1 = nV pr.1 from fun z => c (by have := V.int.inj z; omega))]
        refine iteT ⟨_, rfl, _, _, rfl, rfl, some (nV j), some (nV pr.1), some (nV pr.2), ?_, eA⟩
        show [_, _, some (V.int ((movedN a b j : Nat) + 1)), _, _, _] = _
        rw [hi]
        rfl
  · rintro σ H1 ⟨y3, y4, y5, rfl, e1⟩
    rw [lx]
    exact ⟨_, rfl, kQ _ e1⟩
end
end FpS
/-! # Plain: shares -/
namespace FpS
open Kp433
theorem fraction_pos {p : Int} {q : Nat} (h : 0 < q) : fraction p q = ⟨p / (Nat.gcd p.natAbs q : Int), q / Nat.gcd p.natAbs q⟩ := by
  unfold fraction
  have : Nat.gcd p.natAbs q ≠ 0 := by
    have := Nat.gcd_pos_of_pos_right p.natAbs h
    omega
  simp only [this, if_false]
theorem fraction_mul {p : Int} {q k : Nat} (h : 0 < q) (hk : 0 < k) : fraction (p * k) (q * k) = fraction p q := by
  rw [fraction_pos (Nat.mul_pos h hk), fraction_pos h]
  have e1 : (p * (k : Int)).natAbs = p.natAbs * k := by rw [Int.natAbs_mul, Int.natAbs_natCast]
  rw [e1, Nat.gcd_mul_right]
  have g0 := Nat.gcd_pos_of_pos_right p.natAbs h
  congr 1
  · rw [Int.natCast_mul]
    exact Int.mul_ediv_mul_of_pos_left _ _ (by omega)
  · exact Nat.mul_div_mul_right _ _ hk
theorem fraction_cross {p p' : Int} {q q' : Nat} (h : 0 < q) (h' : 0 < q') (e : p * q' = p' * q) : fraction p q = fraction p' q' := by
  rw [← fraction_mul h h', ← fraction_mul h' h, e, Nat.mul_comm q q']
/-- what the reduced fraction is worth -/
theorem fraction_val {p : Int} {q : Nat} (h : 0 < q) : 0 < (fraction p q).den ∧ (fraction p q).num * q = p * (fraction p q).den := by
  rw [fraction_pos h]
  have g0 := Nat.gcd_pos_of_pos_right p.natAbs h
  have d1 : Nat.gcd p.natAbs q ∣ q := Nat.gcd_dvd_right _ _
  have d2 : ((Nat.gcd p.natAbs q : Nat) : Int) ∣ p := Int.ofNat_dvd_left.mpr (Nat.gcd_dvd_left _ _)
  obtain ⟨c, hc⟩ := d1
  obtain ⟨d, hd⟩ := d2
  generalize hg : Nat.gcd p.natAbs q = g at *
  show 0 < q / g ∧ p / (g : Int) * (q : Int) = p * ((q / g : Nat) : Int)
  have c0 : 0 < c := by
    rcases Nat.eq_zero_or_pos c with z | z
    · rw [z, Nat.mul_zero] at hc; omega
    · exact z
  have e1 : q / g = c := by rw [hc]; exact Nat.mul_div_cancel_left c g0
  have e2 : p / (g : Int) = d := by rw [hd]; exact Int.mul_ediv_cancel_left d (by omega)
  rw [e1, e2]
  refine ⟨c0, ?_⟩
  rw [hd, hc, Int.natCast_mul]
  rw [Int.mul_comm (g : Int) d, Int.mul_assoc]
theorem add_fraction {a b : Int} {q N : Nat} (hq : 0 < q) (h : 0 < N) (x : Fraction) (hx : 0 < x.den) (e : x.num * N = a * x.den) : Kp433.add x (fraction b N) = fraction (a + b) N := by
  obtain ⟨d0, e2⟩ := fraction_val (p := b) h
  generalize fraction b N = y at *
  unfold Kp433.add
  refine fraction_cross (Nat.mul_pos hx d0) h ?_
  rw [Int.natCast_mul]
  calc (x.num * y.den + y.num * x.den) * N = (x.num * N) * y.den + (y.num * N) * x.den := by
        rw [Int.add_mul]; congr 1
        · rw [Int.mul_assoc, Int.mul_comm (y.den : Int), Int.mul_assoc]
        · rw [Int.mul_assoc, Int.mul_comm (x.den : Int), Int.mul_assoc]
    _ = (a * x.den) * y.den + (b * y.den) * x.den := by rw [e, e2]
    _ = (a + b) * (x.den * y.den) := by
        rw [Int.add_mul, Int.mul_assoc, Int.mul_assoc, Int.mul_comm (y.den : Int) (x.den : Int)]
theorem total_from {N : Nat} (h : 0 < N) : ∀ (l : List Int) (x : Fraction) (a : Int), 0 < x.den → x.num * N = a * x.den → x = fraction a N → (l.map fun b => fraction b N).foldl Kp433.add x = fraction (a + l.sum) N
  | [], x, a, _, _, e => by rw [List.sum_nil, Int.add_zero]; exact e
  | b :: l, x, a, hx, e, _ => by
    rw [List.map_cons, List.foldl_cons, add_fraction h h x hx e, List.sum_cons, ← Int.add_assoc]
    obtain ⟨q1, q2⟩ := fraction_val (p := a + b) h
    exact total_from h l _ (a + b) q1 q2 rfl
theorem fraction_zero {N : Nat} (h : 0 < N) : fraction 0 N = ⟨0, 1⟩ := by
  rw [fraction_pos h]
  have : Nat.gcd (0 : Int).natAbs N = N := Nat.gcd_zero_left N
  rw [this, Nat.div_self h, Int.zero_ediv]
theorem total_eq {N : Nat} (h : 0 < N) (l : List Int) : total (l.map fun b => fraction b N) = fraction l.sum N := by
  have := total_from h l ⟨0, 1⟩ 0 (by decide) (by rw [Int.zero_mul, Int.zero_mul]) (fraction_zero h).symm
  rw [Int.zero_add] at this
  exact this
theorem factorial_pos : ∀ n, 0 < factorial n
  | 0 => by decide
  | n + 1 => Nat.mul_pos (Nat.succ_pos n) (factorial_pos n)
theorem factorial_le {n : Nat} (h : n ≤ 7) : factorial n ≤ 5040 := by
  have : n = 0 ∨ n = 1 ∨ n = 2 ∨ n = 3 ∨ n = 4 ∨ n = 5 ∨ n = 6 ∨ n = 7 := by omega
  rcases this with e | e | e | e | e | e | e | e <;> subst e <;> decide
/-! ### a part leans on the set alone -/
theorem score_perm {s : Store} {a b : List Event} (h : a.Perm b) (i : Nat) : scoreOf s a i = scoreOf s b i := by
  unfold scoreOf
  exact (h.map _).sum_nat
theorem first_perm {s : Store} {l a b : List Event} (h : a.Perm b) : first s l a = first s l b := by
  have : scoreOf s a = scoreOf s b := funext fun i => score_perm h i
  unfold first ranking
  rw [this]
theorem merge_ok : ∀ n, n ≤ 7 → (sets n).all (fun x => (List.range n).all fun e => x.contains e || (x ++ [e]).isPerm ((List.range n).filter fun k => x.contains k || k == e)) = true := by
  intro n h
  have : n = 0 ∨ n = 1 ∨ n = 2 ∨ n = 3 ∨ n = 4 ∨ n = 5 ∨ n = 6 ∨ n = 7 := by omega
  rcases this with e | e | e | e | e | e | e | e <;> subst e <;> decide +kernel
theorem wins_merge {s : Store} {l : List Event} {i e : Nat} {x : List Nat} (h : l.length ≤ 7) (hx : x ∈ sets l.length) (he : e < l.length) (hn : x.contains e = false) :
    wins s l i ((List.range l.length).filter fun k => x.contains k || k == e) = wins s l i (x ++ [e]) := by
  have q := List.all_eq_true.mp (List.all_eq_true.mp (merge_ok l.length h) x hx) e (List.mem_range.mpr he)
  rw [hn, Bool.false_or, List.isPerm_iff] at q
  have q2 : (part l ((List.range l.length).filter fun k => x.contains k || k == e)).Perm (part l (x ++ [e])) := q.symm.filterMap _
  unfold wins
  rw [first_perm q2]
theorem full_ok : ∀ n, n ≤ 7 → (sets n).all (fun x => !(x.length == n) || (List.range n).all fun e => x.contains e) = true := by
  intro n h
  have : n = 0 ∨ n = 1 ∨ n = 2 ∨ n = 3 ∨ n = 4 ∨ n = 5 ∨ n = 6 ∨ n = 7 := by omega
  rcases this with e | e | e | e | e | e | e | e <;> subst e <;> decide +kernel
/-- one term of the share -/
def shTerm (s : Store) (l : List Event) (i e : Nat) (x : List Nat) : Int := ((factorial x.length * factorial (l.length - x.length - 1) : Nat) : Int) * (wins s l i (x ++ [e]) - wins s l i x)
def shSum (s : Store) (l : List Event) (i e : Nat) (xs : List (List Nat)) : Int := ((xs.filter fun x => !x.contains e).map (shTerm s l i e)).sum
theorem shSum_snoc (s : Store) (l : List Event) (i e : Nat) (xs : List (List Nat)) (x : List Nat) : shSum s l i e (xs ++ [x]) = shSum s l i e xs + if x.contains e then 0 else shTerm s l i e x := by
  unfold shSum
  rw [List.filter_append, List.map_append, List.sum_append, List.filter_cons]
  cases h : x.contains e <;> simp
theorem shapley_eq {s : Store} {l : List Event} {i e : Nat} (h : l.length ≤ 7) (he : e < l.length) : Kp433.shapley s l i e = fraction (shSum s l i e (sets l.length)) (factorial l.length) := by
  unfold Kp433.shapley shSum
  rw [← total_eq (factorial_pos _), List.map_map]
  congr 1
  refine List.map_congr_left fun x hx => ?_
  rw [List.mem_filter] at hx
  have hn : x.contains e = false := by simpa using hx.2
  rw [wins_merge h hx.1 he hn]
  show fraction _ _ = fraction (shTerm s l i e x) _
  unfold shTerm
  rw [Int.mul_comm]
end FpS
/-! # shares -/
namespace FpS
open PySem PySem.Spec PyProof.Rows L2
open Kp433 (Store factorial wins)
section
variable {P : Program} {w : World} {K : PySem.W.Frag} {mg : Str → Option Value} {base : Heap}
def sp_factorial_of (T : Txt K mg) : Sp := fun vs H Q E => ∃ n : Nat, vs = [nV n] ∧ n ≤ 1000 ∧ Q (nV (factorial n)) H
theorem ok_factorial_of (T : Txt K mg) : FnOk P w K mg base CX0 4 T.factorial_of.f T.factorial_of.fd ["number"] (sp_factorial_of T) := by
  refine T.factorial_of.F.ok sc_factorial_of (fun vs H Q E h => ?_) (fun cdv A outer s H vs Q E hr h => ⟨_, (pss_cons (ps_set (i := 1) sc_factorial_of.nd rfl (Or.inl rfl) pe_int)
    (pss_cons (ps_for PassesOwn.never rfl (pi_range2 (by rfl) T.range_ (pa_cons pe_int (pa_cons (pe_op op_add (pv 0) pe_int) pa_nil))) (pg_name (i := 2) sc_factorial_of.nd rfl (Or.inl rfl))
    (pss_one (ps_set (i := 1) sc_factorial_of.nd rfl (Or.inl rfl) (pe_op op_mul (pv 1) (pv 2)))))
    (pss_one (ps_ret (pv 1))))), ?_⟩)
  · obtain ⟨_, rfl, _⟩ := h
    rfl
  obtain ⟨n, rfl, hn, q⟩ := h
  refine ⟨_, rfl, _, _, rfl, rfl, 2, _, rfl, (by show -(2 ^ 62) ≤ (2 : Int) ∧ (2 : Int) < 2 ^ 62 ∧ -(2 ^ 62) ≤ ((n : Int) + 1) ∧ ((n : Int) + 1) < 2 ^ 62; omega), for_range (lo := 2) (n := (((n : Nat) : Int) + 1 - 2).toNat) (fun j σ H' => ∃ y2, σ = [some (nV n), some (nV (factorial (j + 1))), y2] ∧ H' = H) ⟨_, rfl, rfl⟩ ?_ ?_⟩
  · rintro j σ H1 hj ⟨y2, rfl, rfl⟩
    refine ⟨_, rfl, _, rfl, _, _, rfl, rfl, .inr ⟨by omega, by omega⟩, some (.int (2 + (j : Nat))), ?_, rfl⟩
    have e : ((factorial (j + 1) : Nat) : Int) * (2 + ((j : Nat) : Int)) = ((factorial (j + 1 + 1) : Nat) : Int) := by
      show _ = (((j + 1 + 1) * factorial (j + 1) : Nat) : Int)
      rw [Int.natCast_mul, Int.mul_comm]
      congr 1
      omega
    show [some (nV n), some (V.int (((factorial (j + 1) : Nat) : Int) * (2 + ((j : Nat) : Int)))), _] = _
    rw [e]
  · rintro σ H1 ⟨y2, rfl, rfl⟩
    refine ⟨_, rfl, ?_⟩
    have e : factorial ((((n : Nat) : Int) + 1 - 2).toNat + 1) = factorial n := by
      cases n with
      | zero => rfl
      | succ n => congr 1; omega
    show Q (nV (factorial ((((n : Nat) : Int) + 1 - 2).toNat + 1))) H1
    rw [e]
    exact q
def sp_common_divisor (T : Txt K mg) : Sp := fun vs H Q E => ∃ a b : Nat, vs = [nV a, nV b] ∧ Q (nV (Nat.gcd a b)) H
theorem ok_common_divisor (T : Txt K mg) : FnOk P w K mg base CX0 4 T.common_divisor.f T.common_divisor.fd ["one", "other"] (sp_common_divisor T) := by
  refine T.common_divisor.F.ok sc_common_divisor (fun vs H Q E h => ?_) (fun cdv A outer s H vs Q E hr h => ⟨_, (pss_cons (ps_set (i := 2) sc_common_divisor.nd rfl (Or.inl rfl) (pv 0))
    (pss_cons (ps_set (i := 3) sc_common_divisor.nd rfl (Or.inl rfl) (pv 1))
    (pss_cons (ps_while PassesOwn.never (pt_cmpR op_ne (pv 3) pe_int (nomark _))
    (pss_one (ps_par (i := 2) (j := 3) (by rfl) sc_common_divisor.nd rfl rfl (by decide) rfl rfl (pa_cons (pv 3) (pa_cons (pe_op op_mod (pv 2) (pv 3)) pa_nil)) (by rfl))))
    (pss_one (ps_ret (pv 2)))))), ?_⟩)
  · obtain ⟨_, _, rfl, _⟩ := h
    rfl
  obtain ⟨a, b, rfl, q⟩ := h
  refine ⟨_, rfl, _, rfl, while_by (fun σ H' => ∃ x y : Nat, σ = [some (nV a), some (nV b), some (nV x), some (nV y)] ∧ Nat.gcd x y = Nat.gcd a b ∧ H' = H)
    (fun σ _ => match σ with | [_, _, _, some (.int y)] => y.toNat | _ => 0) ⟨a, b, rfl, rfl, rfl⟩ ?_ (fun σ H Q Q' h ⟨v, hv, hs, k, ek, q⟩ => ⟨v, hv, hs, k, ek, h _ _ q⟩)⟩
  rintro σ H1 ⟨x, y, rfl, hg, rfl⟩
  refine ⟨_, rfl, rfl, _, rfl, ?_⟩
  by_cases c : y = 0
  · subst c
    rw [decide_eq_true (show nV 0 = V.int 0 from rfl)]
    refine iteF ⟨_, rfl, ?_⟩
    rw [Nat.gcd_zero_right] at hg
    rw [hg]
    exact q
  · rw [decide_eq_false (show ¬ nV y = V.int 0 from fun z => c (by have := V.int.inj z; omega))]
    refine iteT ⟨_, rfl, _, rfl, _, rfl, _, _, rfl, rfl, (by show (0 : Int) < (y : Int); omega), ?_⟩
    refine ⟨_, _, rfl, ⟨y, x % y, rfl, ?_, rfl⟩, ?_⟩
    · rw [← hg, Nat.gcd_comm x y, Nat.gcd_rec y x, Nat.gcd_comm]
    · show ((x : Int) % (y : Int)).toNat < (y : Int).toNat
      have := Nat.mod_lt x (show y > 0 by omega)
      omega
def sp_lowest_terms (T : Txt K mg) : Sp := fun vs H Q E => ∃ (a : Int) (b : Nat), vs = [.int a, nV b] ∧ 0 < b ∧ b ≤ 5040 ∧ ∀ v H', Ex T.Tb H H' → IL H' v [(Kp433.fraction a b).num, ((Kp433.fraction a b).den : Int)] → Q v H'
theorem ok_lowest_terms (T : Txt K mg) : FnOk P w K mg base CX0 5 T.lowest_terms.f T.lowest_terms.fd ["above", "below"] (sp_lowest_terms T) := by
  refine T.lowest_terms.F.ok sc_lowest_terms (fun vs H Q E h => ?_) (fun cdv A outer s H vs Q E hr h => ⟨_, (pss_cons (ps_set (i := 2) sc_lowest_terms.nd rfl (Or.inl rfl) (pe_call (ok_common_divisor T) (hr.mono (by decide)) rfl T.common_divisor.g T.common_divisor.F.kp T.common_divisor.b .nil pass0 (pa_cons (pe_callB call_abs (by rfl) T.abs_ (by decide +kernel) (pa_cons (pv 0) pa_nil)) (pa_cons (pv 1) pa_nil))))
    (pss_one (ps_ret (pe_lst (pa_cons (pe_op op_fdivW (pv 0) (pv 2)) (pa_cons (pe_op op_fdivW (pv 1) (pv 2)) pa_nil)))))), ?_⟩)
  · obtain ⟨_, _, rfl, _⟩ := h
    rfl
  obtain ⟨a, b, rfl, h0, hb, q⟩ := h
  have g0 := Nat.gcd_pos_of_pos_right a.natAbs h0
  have gl : Nat.gcd a.natAbs b ≤ b := Nat.le_of_dvd h0 (Nat.gcd_dvd_right _ _)
  have eabs : (if a < 0 then -a else a) = ((a.natAbs : Nat) : Int) := by
    by_cases c : a < 0
    · rw [if_pos c]; omega
    · rw [if_neg c]; omega
  refine ⟨_, rfl, _, rfl, _, rfl, a.natAbs, b, ?_, ?_⟩
  · show [V.int (if a < 0 then -a else a), nV b] = _
    rw [eabs]
  refine ⟨_, rfl, _, rfl, _, _, rfl, rfl, wide_div (b := 14) (by omega) (by omega) (by decide) (by decide), _, rfl, _, rfl, _, _, rfl, rfl, wide_div (b := 14) (by omega) (by omega) (by decide) (by decide), (by show 2 ≤ sizeLine; decide), fun p hp => ?_⟩
  refine q _ _ (.new hp) ⟨p, rfl, ?_⟩
  rw [upd_same, fraction_pos h0]
  rfl
def sp_worth_of (T : Txt K mg) : Sp := fun vs H Q E => ∃ (x y v : V) (S : Store) (m : Kp433.Member) (i : Nat) (r : List Nat), vs = [x, y, nV i, v] ∧ StR T H x S ∧ MemR T H y m ∧ NL H v r ∧ Wf S ∧ WfM S.items m ∧ LamX.Tabs T.Tb H ∧ (∀ k ∈ r, k < m.events.length) ∧ r.length ≤ 8 ∧
  ∀ H', Ex T.Tb H H' → Q (.int (wins S m.events i r)) H'
theorem ok_worth_of (T : Txt K mg) (B : Bs T base) : FnOk P w K mg base CX0 11 T.worth_of.f T.worth_of.fd ["store", "member", "item", "positions"] (sp_worth_of T) := by
  refine T.worth_of.F.ok sc_worth_of (fun vs H Q E h => ?_) (fun cdv A outer s H vs Q E hr h => ⟨_, (pss_one (ps_ret (pe_callTy call_int1 (by rfl) T.int_ (by decide +kernel) (pa_cons (pe_cmpR op_eq (pe_call (ok_first_by T B) (hr.mono (by decide)) rfl T.first_by.g T.first_by.F.kp T.first_by.b .nil pass0 (pa_cons (pv 0) (pa_cons (pe_fld (pv 1) rfl) (pa_cons (pe_call (ok_events_at T) (hr.mono (by decide)) rfl T.events_at.g T.events_at.F.kp T.events_at.b .nil pass0 (pa_cons (pe_fld (pv 1) rfl) (pa_cons (pv 3) pa_nil))) pa_nil)))) (pv 2) (nomark _)) pa_nil)))), ?_⟩)
  · obtain ⟨_, _, _, _, _, _, _, rfl, _⟩ := h
    rfl
  obtain ⟨x, y, v, S, m, i, r, rfl, hS, ⟨mp, dx, ea, rfl, hm, he⟩, hv, W, wm, hT, hk, hl, q⟩ := h
  have h7 := wm.len
  refine ⟨_, rfl, _, rfl, mp, _, dx, _, _, rfl, hm, T.Member.cl, T.Member_no_events, mF_ev _ _, _, rfl, mp, _, dx, _, _, rfl, hm, T.Member.cl, T.Member_no_events, mF_ev _ _, _, rfl, _, v, m.events, r, rfl, he, hv, hk, by omega, fun v4 H4 e4 h4 => ?_⟩
  refine ⟨x, _, v4, S, m.events, Kp433.part m.events r, rfl, e4.st hS, e4.pl he, h4, W, by omega, ⟨Nat.le_trans (part_len _ _) hl, fun e he => wm.evs.2 e (part_mem he)⟩, e4.tab hT, fun H5 e5 => ?_⟩
  refine ⟨_, rfl, ?_⟩
  have eg : nV i = oV (some i) := rfl
  rw [eg]
  refine ⟨scal_o _ _, .inr ⟨_, rfl, ?_⟩⟩
  rw [dec_oV]
  have := q H5 (e4.trans e5)
  unfold wins at this
  have e : (if Kp433.first S m.events (Kp433.part m.events r) = some i then (1 : Int) else 0) = if (Kp433.first S m.events (Kp433.part m.events r) == some i) = true then 1 else 0 := by
    by_cases c : Kp433.first S m.events (Kp433.part m.events r) = some i
    · rw [if_pos c, if_pos (beq_iff_eq.mpr c)]
    · rw [if_neg c, if_neg (fun z => c (beq_iff_eq.mp z))]
  rw [e] at this
  exact this
/-! ### share_of -/
theorem grown_range {n : Nat} (h : n ≤ 7) : (Kp433.sets n).length ≤ 128 := (sets_facts n h).1
def sp_share_of (T : Txt K mg) : Sp := fun vs H Q E => ∃ (x y : V) (S : Store) (m : Kp433.Member) (i e : Nat), vs = [x, y, nV i, nV e] ∧ StR T H x S ∧ MemR T H y m ∧ Wf S ∧ WfM S.items m ∧ LamX.Tabs T.Tb H ∧ e < m.events.length ∧
  ∀ v H', Ex T.Tb H H' → IL H' v [(Kp433.shapley S m.events i e).num, ((Kp433.shapley S m.events i e).den : Int)] → Q v H'
theorem ok_share_of (T : Txt K mg) (B : Bs T base) : FnOk P w K mg base CX0 12 T.share_of.f T.share_of.fd ["store", "member", "item", "position"] (sp_share_of T) := by
  refine T.share_of.F.ok sc_share_of (fun vs H Q E h => ?_) (fun cdv A outer s H vs Q E hr h => ⟨_, (pss_cons (ps_set (i := 4) sc_share_of.nd rfl (Or.inl rfl) (pe_callB call_len_seq (by rfl) T.len_ PySem.boot_len (pa_cons (pe_fld (pv 1) rfl) pa_nil)))
    (pss_cons (ps_set (i := 5) sc_share_of.nd rfl (Or.inl rfl) pe_int)
    (pss_cons (ps_for PassesOwn.never rfl (pi_list (pe_call (ok_position_sets T B) (hr.mono (by decide)) rfl T.position_sets.g T.position_sets.F.kp T.position_sets.b .nil pass0 (pa_cons (pv 4) pa_nil))) (pg_name (i := 6) sc_share_of.nd rfl (Or.inl rfl))
    (pss_one (ps_if (pt_cmpR op_notIn_seq (pv 3) (pv 6) (by rfl)) (pss_cons (ps_set (i := 7) sc_share_of.nd rfl (Or.inl rfl) (pe_callB call_len_seq (by rfl) T.len_ PySem.boot_len (pa_cons (pv 6) pa_nil)))
    (pss_cons (ps_set (i := 8) sc_share_of.nd rfl (Or.inl rfl) (pe_op op_sub (pe_call (ok_worth_of T B) (hr.mono (by decide)) rfl T.worth_of.g T.worth_of.F.kp T.worth_of.b .nil pass0 (pa_cons (pv 0) (pa_cons (pv 1) (pa_cons (pv 2) (pa_cons (pe_op op_cat (pv 6) (pe_lst (pa_cons (pv 3) pa_nil))) pa_nil))))) (pe_call (ok_worth_of T B) (hr.mono (by decide)) rfl T.worth_of.g T.worth_of.F.kp T.worth_of.b .nil pass0 (pa_cons (pv 0) (pa_cons (pv 1) (pa_cons (pv 2) (pa_cons (pv 6) pa_nil)))))))
    (pss_one (ps_aug (i := 5) sc_share_of.nd rfl (Or.inl rfl) (pe_op op_mul (pe_op op_mul (pe_call (ok_factorial_of T) (hr.mono (by decide)) rfl T.factorial_of.g T.factorial_of.F.kp T.factorial_of.b .nil pass0 (pa_cons (pv 7) pa_nil)) (pe_call (ok_factorial_of T) (hr.mono (by decide)) rfl T.factorial_of.g T.factorial_of.F.kp T.factorial_of.b .nil pass0 (pa_cons (pe_op op_sub (pe_op op_sub (pv 4) (pv 7)) pe_int) pa_nil))) (pv 8)) ip_add)))) pss_nil)))
    (pss_one (ps_ret (pe_call (ok_lowest_terms T) (hr.mono (by decide)) rfl T.lowest_terms.g T.lowest_terms.F.kp T.lowest_terms.b .nil pass0 (pa_cons (pv 5) (pa_cons (pe_call (ok_factorial_of T) (hr.mono (by decide)) rfl T.factorial_of.g T.factorial_of.F.kp T.factorial_of.b .nil pass0 (pa_cons (pv 4) pa_nil)) pa_nil)))))))), ?_⟩)
  · obtain ⟨_, _, _, _, _, _, rfl, _⟩ := h
    rfl
  obtain ⟨x, y, S, m, i, e, rfl, hS, hM, W, wm, hT, he, q⟩ := h
  obtain ⟨mp, dx, ea, rfl, hm, hev⟩ := id hM
  obtain ⟨ea', xs, e0, hea, hxs⟩ := id hev
  cases e0
  have hl : xs.length = m.events.length := by rw [hxs.length, List.length_map]
  have h7 := wm.len
  refine ⟨_, rfl, mp, _, dx, _, _, rfl, hm, T.Member.cl, T.Member_no_events, mF_ev _ _, ea, xs, rfl, .inl (SqL.of hea), ?_⟩
  rw [hl]
  refine ⟨_, rfl, m.events.length, rfl, h7, hT, fun v H1 e1 hv => ?_⟩
  obtain ⟨p, ss, rfl, hp, hss⟩ := hv
  refine ⟨p, rfl, ⟨_, SqL.of hp⟩, for_list (xs := ss) (fun j σ H' => ∃ y6 y7 y8, σ = [some x, some (.ref mp), some (nV i), some (nV e), some (nV m.events.length), some (.int (shSum S m.events i e ((Kp433.sets m.events.length).take j))), y6, y7, y8] ∧ Ex T.Tb H1 H') ⟨_, _, _, rfl, .refl _⟩ (fun j σ H' _ ⟨_, _, _, _, e⟩ => SqL.of (e.lst hp)) ?_ ?_⟩
  · rintro j z σ H2 hz ⟨y6, y7, y8, rfl, e2⟩
    obtain ⟨r, hr3, rz⟩ := hss.get hz
    have rm := List.mem_of_getElem? hr3
    have rl := sets_len h7 rm
    have hsn := shSum_snoc S m.events i e ((Kp433.sets m.events.length).take j) r
    rw [← tk hr3] at hsn
    obtain ⟨t, rfl, ht⟩ := e2.nl rz
    refine ⟨_, rfl, _, rfl, t, _, rfl, .inl (SqL.of ht), rfl, flat_nV _, _, rfl, ?_⟩
    rw [inV_nV]
    cases hc : r.contains e with
    | true =>
      rw [hc, if_pos rfl, Int.add_zero] at hsn
      refine iteF ⟨some (.ref t), y7, y8, ?_, e2⟩
      rw [hsn]
      rfl
    | false =>
      rw [hc, if_neg Bool.false_ne_true] at hsn
      have re : r.length < m.events.length := by
        rcases Nat.lt_or_eq_of_le rl with q | q
        · exact q
        · exfalso
          have := List.all_eq_true.mp (full_ok m.events.length h7) r rm
          rw [q, beq_self_eq_true, Bool.not_true, Bool.false_or] at this
          have hh := List.all_eq_true.mp this e (List.mem_range.mpr he)
          rw [hc] at hh
          cases hh
      refine iteT ⟨_, rfl, t, _, rfl, .inl (SqL.of ht), ?_⟩
      rw [List.length_map]
      -- worth_of with the position
      refine ⟨_, rfl, _, rfl, _, rfl, _, rfl, _, rfl, (by show 1 ≤ sizeLine; decide), fun o ho => ?_⟩
      have e3 : Ex T.Tb H2 (upd H2 o (.lst [nV e])) := .new ho
      refine ⟨t, o, _, _, rfl, rfl, e3.lst ht, upd_same, ?_, fun u hu => ?_⟩
      · rw [List.length_map]
        exact Nat.le_trans (show r.length + 1 ≤ 9 by omega) (by decide)
      generalize hH3 : upd (upd H2 o (.lst [nV e])) u (.lst (r.map nV ++ [nV e])) = H3
      have e4 : Ex T.Tb (upd H2 o (.lst [nV e])) H3 := hH3 ▸ .new hu
      have eA := (e1.trans e2).trans (e3.trans e4)
      have hu3 : NL H3 (.ref u) (r ++ [e]) := ⟨u, rfl, by rw [← hH3, upd_same, List.map_append]; rfl⟩
      refine ⟨x, _, _, S, m, i, r ++ [e], rfl, eA.st hS, eA.mem hM, hu3, W, wm, eA.tab hT, fun k hk => ?_, by rw [List.length_append, List.length_singleton]; omega, fun H4 e5 => ?_⟩
      · rcases List.mem_append.mp hk with q | q
        · exact sets_lt h7 rm k q
        · rw [List.mem_singleton.mp q]; exact he
      refine ⟨_, rfl, _, rfl, _, rfl, _, rfl, x, _, _, S, m, i, r, rfl, (eA.trans e5).st hS, (eA.trans e5).mem hM, ((e3.trans e4).trans e5).nl ⟨t, rfl, ht⟩, W, wm, (eA.trans e5).tab hT, sets_lt h7 rm, by omega, fun H5 e6 => ?_⟩
      refine ⟨_, _, rfl, rfl, ?_⟩
      have f1 := factorial_le (n := r.length) (by omega)
      have f2 := factorial_le (n := m.events.length - r.length - 1) (by omega)
      refine ⟨_, rfl, _, rfl, r.length, rfl, by omega, _, rfl, _, rfl, _, _, rfl, rfl, _, _, rfl, rfl, m.events.length - r.length - 1, ?_, by omega, ?_⟩
      · show [V.int (((m.events.length : Nat) : Int) - ((r.length : Nat) : Int) - 1)] = [V.int ((m.events.length - r.length - 1 : Nat) : Int)]
        congr 2
        omega
      have fm : factorial r.length * factorial (m.events.length - r.length - 1) ≤ 5040 * 5040 := Nat.mul_le_mul f1 f2
      have fi : ((factorial r.length : Nat) : Int) * ((factorial (m.events.length - r.length - 1) : Nat) : Int) = ((factorial r.length * factorial (m.events.length - r.length - 1) : Nat) : Int) := (Int.natCast_mul _ _).symm
      refine ⟨_, _, rfl, rfl, .inl ⟨by omega, by omega⟩, _, rfl, _, _, rfl, rfl, ?_, _, _, rfl, rfl, some (.ref t), some (nV r.length), some (.int (wins S m.events i (r ++ [e]) - wins S m.events i r)), ?_, e2.trans ((e3.trans e4).trans (e5.trans e6))⟩
      · rw [fi]
        exact .inl ⟨by omega, by omega⟩
      · show [_, _, _, _, _, some (V.int (shSum S m.events i e ((Kp433.sets m.events.length).take j) + ((factorial r.length : Nat) : Int) * ((factorial (m.events.length - r.length - 1) : Nat) : Int) * (wins S m.events i (r ++ [e]) - wins S m.events i r))), _, _, _] = _
        rw [fi, hsn]
        rfl
  · rintro σ H2 ⟨y6, y7, y8, rfl, e2⟩
    rw [hss.length, List.take_length]
    have f1 := factorial_le h7
    refine ⟨_, rfl, _, rfl, m.events.length, rfl, by omega, shSum S m.events i e (Kp433.sets m.events.length), factorial m.events.length, rfl, factorial_pos _, f1, fun v H3 e3 hv => ?_⟩
    rw [← shapley_eq h7 he] at hv
    exact q v H3 ((e1.trans e2).trans e3) hv
end
end FpS
/-! # the store's methods -/
namespace FpS
open PySem PySem.Spec PyProof.Rows L2
open Kp433 (Store setCell insertMember)
theorem put_new {G : Hp} {p l : Addr} {o o' : HO} (hl : upd G p o l = none) : l ≠ p ∧ G l = none ∧ upd (upd G p o) l o' = upd (upd G l o') p o := by
  have n : l ≠ p := fun z => by rw [z, upd_same] at hl; cases hl
  rw [upd_ne n] at hl
  exact ⟨n, hl, upd_comm n.symm⟩
/-! ### what stands apart -/
theorem SA.split {A : SA} (h : A.foot.Nodup) : (A.p ≠ A.sa ∧ A.p ≠ A.ma ∧ (∀ r ∈ A.rows, A.p ≠ r) ∧ ∀ b ∈ mfoot A.mems, A.p ≠ b) ∧ (A.sa ≠ A.ma ∧ (∀ r ∈ A.rows, A.sa ≠ r) ∧ ∀ b ∈ mfoot A.mems, A.sa ≠ b) ∧ ((∀ r ∈ A.rows, A.ma ≠ r) ∧ ∀ b ∈ mfoot A.mems, A.ma ≠ b) ∧
    A.rows.Nodup ∧ (mfoot A.mems).Nodup ∧ ∀ r ∈ A.rows, ∀ b ∈ mfoot A.mems, r ≠ b := by
  unfold SA.foot at h
  simp only [List.nodup_cons, List.nodup_append, List.mem_cons, List.mem_append, not_or] at h
  obtain ⟨⟨h1, h2, h3, h4⟩, ⟨h5, h6, h7⟩, ⟨h8, h9⟩, h10, h11, h12⟩ := h
  exact ⟨⟨h1, h2, fun r hr z => h3 (z ▸ hr), fun b hb z => h4 (z ▸ hb)⟩, ⟨h5, fun r hr z => h6 (z ▸ hr), fun b hb z => h7 (z ▸ hb)⟩, ⟨fun r hr z => h8 (z ▸ hr), fun b hb z => h9 (z ▸ hb)⟩, h10, h11, h12⟩
theorem mfoot_p {l : List MA} {m : MA} (h : m ∈ l) : m.p ∈ mfoot l := by
  unfold mfoot
  rw [List.mem_flatMap]
  exact ⟨m, h, List.mem_cons_self⟩
theorem mfoot_e {l : List MA} {m : MA} (h : m ∈ l) : m.ea ∈ mfoot l := by
  unfold mfoot
  rw [List.mem_flatMap]
  exact ⟨m, h, List.mem_cons_of_mem _ List.mem_cons_self⟩
section
variable {K : PySem.W.Frag} {mg : Str → Option Value} {T : Txt K mg} {H : Hp} {A : SA} {S : Store}
theorem mema_upd {p : Addr} {o o' : HO} {m : MA} {x : Kp433.Member} (h : MemA T H m x) (hp : H p = some o) (ho : ∀ xs, o ≠ .tup xs) (n1 : m.p ≠ p) (n2 : m.ea ≠ p) : MemA T (upd H p o') m x :=
  ⟨by rw [upd_ne n1]; exact h.1, pl_upd h.2 hp ho n2⟩
theorem nodup_get {α : Type} : ∀ {l : List α}, l.Nodup → ∀ {i j : Nat} {x : α}, l[i]? = some x → l[j]? = some x → i = j
  | [], _, _, _, _, h, _ => by cases h
  | y :: l, nd, i, j, x, h1, h2 => by
    rw [List.nodup_cons] at nd
    cases i with
    | zero =>
      cases j with
      | zero => rfl
      | succ j =>
        have h2' : l[j]? = some x := by simpa using h2
        cases Option.some.inj h1
        exact absurd (List.mem_of_getElem? h2') nd.1
    | succ i =>
      have h1' : l[i]? = some x := by simpa using h1
      cases j with
      | zero =>
        cases Option.some.inj h2
        exact absurd (List.mem_of_getElem? h1') nd.1
      | succ j =>
        have h2' : l[j]? = some x := by simpa using h2
        rw [nodup_get nd.2 h1' h2']
theorem set_self {α : Type} : ∀ {l : List α} {i : Nat} {x : α}, l[i]? = some x → l.set i x = l
  | [], _, _, h => by cases h
  | y :: l, 0, x, h => by cases Option.some.inj h; rfl
  | y :: l, i + 1, x, h => by rw [List.set_cons_succ, set_self (by simpa using h)]
/-- F2 by places -/
theorem F2.of_get {α β : Type} {R : α → β → Prop} : ∀ {xs : List α} {ys : List β}, xs.length = ys.length → (∀ (i : Nat) (x : α) (y : β), xs[i]? = some x → ys[i]? = some y → R x y) → F2 R xs ys
  | [], [], _, _ => .nil
  | [], _ :: _, h, _ => by simp at h
  | _ :: _, [], h, _ => by simp at h
  | x :: xs, y :: ys, h, k => .cons (k 0 x y rfl rfl) (F2.of_get (by simpa using h) fun i a b h1 h2 => k (i + 1) a b (by simpa using h1) (by simpa using h2))
theorem SF.setRow (h : SF T H A S) {i j v : Nat} {r : Addr} {row : List Nat} (hr : A.rows[i]? = some r) (hw : S.similarities[i]? = some row) : SF T (upd H r (.lst ((row.set j v).map nV))) A (setCell S i j v) := by
  obtain ⟨⟨_, _, p3, _⟩, ⟨_, s2, _⟩, ⟨m1, _⟩, nr, _, rm⟩ := A.split h.nd
  have hrm := List.mem_of_getElem? hr
  obtain ⟨rr, hrr, hr0⟩ := h.row.get' hw
  rw [hr] at hrr
  cases hrr
  have nt : ∀ xs, (HO.lst (row.map nV)) ≠ .tup xs := fun xs z => by cases z
  refine ⟨?_, ?_, ?_, ?_, ?_, h.nd⟩
  · rw [upd_ne (p3 r hrm)]; exact h.obj
  · rw [upd_ne (s2 r hrm)]; exact h.sim
  · have eg : S.similarities.getD i [] = row := by rw [List.getD_eq_getElem?_getD, hw]; rfl
    show F2 _ A.rows (S.similarities.set i ((S.similarities.getD i []).set j v))
    rw [eg]
    refine F2.of_get (by rw [List.length_set]; exact h.row.length) fun k x y hx hy => ?_
    by_cases c : k = i
    · subst c
      rw [hr] at hx
      cases hx
      rw [List.getElem?_set_self (lt_of_get hw)] at hy
      cases hy
      exact upd_same
    · rw [List.getElem?_set_ne (Ne.symm c)] at hy
      obtain ⟨y', hy', q⟩ := h.row.get hx
      rw [hy] at hy'
      cases hy'
      have nx : x ≠ r := fun z => by
        rw [z] at hx
        exact c (nodup_get nr hx hr)
      rw [upd_ne nx]
      exact q
  · rw [upd_ne (m1 r hrm)]; exact h.mem
  · exact h.ms.imp fun m x hm _ q => mema_upd q hr0 nt (rm r hrm _ (mfoot_p hm)).symm (rm r hrm _ (mfoot_e hm)).symm
/-- a new list of members -/
theorem SF.setMems (h : SF T H A S) {c : Addr} {ms : List MA} {l : List Kp433.Member} (hc : H c = some (.lst (ms.map fun m => V.ref m.p))) (hms : F2 (MemA T H) ms l) (hp : ∀ m ∈ ms, m.p ≠ A.p ∧ m.ea ≠ A.p) (ncp : c ≠ A.p)
    (nd : ({ A with ma := c, mems := ms } : SA).foot.Nodup) : SF T (upd H A.p (.ins T.Store.C A.dx (sF S.items A.sa c))) { A with ma := c, mems := ms } { S with members := l } := by
  obtain ⟨⟨p1, _, p3, _⟩, _⟩ := A.split h.nd
  have nt : ∀ xs, (HO.ins T.Store.C A.dx (sF S.items A.sa A.ma)) ≠ .tup xs := fun xs z => by cases z
  refine ⟨upd_same, ?_, ?_, ?_, ?_, nd⟩
  · show upd _ _ _ A.sa = _
    rw [upd_ne p1.symm]; exact h.sim
  · exact h.row.imp fun r y hr _ q => by rw [upd_ne (p3 r hr).symm]; exact q
  · show upd _ _ _ c = _
    rw [upd_ne ncp]; exact hc
  · exact hms.imp fun m x hm _ q => mema_upd q h.obj nt (hp m hm).1 (hp m hm).2
theorem ea_inj : ∀ {l : List MA}, (mfoot l).Nodup → ∀ {i j : Nat} {x y : MA}, l[i]? = some x → l[j]? = some y → x.ea = y.ea → i = j
  | [], _, _, _, _, _, h, _, _ => by cases h
  | m :: l, nd, i, j, x, y, hx, hy, e => by
    have nd' : (m.p :: m.ea :: mfoot l).Nodup := nd
    rw [List.nodup_cons, List.nodup_cons] at nd'
    cases i with
    | zero =>
      cases j with
      | zero => rfl
      | succ j =>
        have hy' : l[j]? = some y := by simpa using hy
        cases Option.some.inj hx
        exact absurd (e ▸ mfoot_e (List.mem_of_getElem? hy')) nd'.2.1
    | succ i =>
      have hx' : l[i]? = some x := by simpa using hx
      cases j with
      | zero =>
        cases Option.some.inj hy
        exact absurd (e.symm ▸ mfoot_e (List.mem_of_getElem? hx')) nd'.2.1
      | succ j =>
        have hy' : l[j]? = some y := by simpa using hy
        rw [ea_inj nd'.2.2 hx' hy' e]
/-- member k's events in another list, or by another list -/
theorem SF.setEvs (h : SF T H A S) {k : Nat} {M : MA} {m : Kp433.Member} (hM : A.mems[k]? = some M) (hm : S.members[k]? = some m) {xs : List V} {l : List Kp433.Event} (hea : H M.ea = some (.lst xs)) {ys : List V} (hys : F2 (PrV H) ys (l.map evP)) :
    SF T (upd H M.ea (.lst ys)) A { S with members := S.members.set k ⟨m.id, l⟩ } := by
  obtain ⟨⟨_, _, _, p4⟩, ⟨_, _, s3⟩, ⟨_, m2⟩, _, nm, rm⟩ := A.split h.nd
  have hMm := List.mem_of_getElem? hM
  have em := mfoot_e hMm
  have nt : ∀ zs, (HO.lst xs) ≠ .tup zs := fun zs z => by cases z
  refine ⟨?_, ?_, ?_, ?_, ?_, h.nd⟩
  · rw [upd_ne (p4 _ em)]; exact h.obj
  · rw [upd_ne (s3 _ em)]; exact h.sim
  · exact h.row.imp fun r y hr _ q => by rw [upd_ne (rm r hr _ em)]; exact q
  · rw [upd_ne (m2 _ em)]; exact h.mem
  · refine F2.of_get (by rw [List.length_set]; exact h.ms.length) fun j x y hx hy => ?_
    obtain ⟨y0, hy0, q⟩ := h.ms.get hx
    have px : x.p ≠ M.ea := fun z => by
      have := q.1
      rw [z, hea] at this
      cases this
    by_cases c : j = k
    · subst c
      rw [hM] at hx
      cases hx
      rw [List.getElem?_set_self (lt_of_get hm)] at hy
      cases hy
      rw [hm] at hy0
      cases hy0
      exact ⟨by rw [upd_ne px]; exact q.1, M.ea, ys, rfl, upd_same, pairs_upd hys hea nt⟩
    · have hy' : S.members[j]? = some y := by
        have : ({ S with members := S.members.set k ⟨m.id, l⟩ } : Store).members = S.members.set k ⟨m.id, l⟩ := rfl
        rw [this, List.getElem?_set_ne (Ne.symm c)] at hy
        exact hy
      rw [hy'] at hy0
      cases hy0
      refine mema_upd q hea nt px fun z => ?_
      have xm := List.mem_of_getElem? hx
      -- two members with one list of events: not where nothing is twice in the footprint
      exact c (ea_inj nm hx hM z)
end
section
variable {P : Program} {w : World} {K : PySem.W.Frag} {mg : Str → Option Value} {base : Heap}
/-! ### set_similarity -/
theorem ixN_nat {n k : Nat} (h : k < n) : ixN n (k : Int) = some k := by
  have : atI (List.range n) (k : Int) = some k := atI_nat (by rw [List.getElem?_range h])
  unfold atI at this
  rw [List.length_range] at this
  cases e : ixN n (k : Int) with
  | none => rw [e] at this; cases this
  | some j =>
    rw [e] at this
    have q : (List.range n)[j]? = some k := this
    have lj : j < n := by have := lt_of_get q; rwa [List.length_range] at this
    rw [List.getElem?_range lj] at q
    rw [Option.some.inj q]
def sp_Store_set_similarity (T : Txt K mg) : Sp := fun vs H Q _ => ∃ (A : SA) (S : Store) (i j v : Nat), vs = [.ref A.p, nV i, nV j, nV v] ∧ SF T H A S ∧ Wf S ∧ i < S.items ∧ j < S.items ∧ i ≠ j ∧
  ∀ H', SF T H' A (setCell (setCell S i j v) j i v) → Fr T.Tb A.foot H H' → Q .non H'
theorem row_foot {A : SA} {r : Addr} (h : r ∈ A.rows) : r ∈ A.foot := by
  unfold SA.foot
  simp only [List.mem_cons, List.mem_append]
  exact .inr (.inr (.inr (.inl h)))
theorem ok_Store_set_similarity (T : Txt K mg) : FnOk P w K mg base CX0 4 T.Store_set_similarity.f T.Store_set_similarity.fd ["self", "first", "second", "value"] (sp_Store_set_similarity T) := by
  refine T.Store_set_similarity.F.ok sc_Store_set_similarity (fun vs H Q E h => ?_) (fun cdv A outer s H vs Q E hr h => ⟨_, (pss_cons (ps_asg (pv 3) (pg_sub (pe_ix ix_list (pe_fld (pv 0) rfl) (pv 1) (fun _ _ => rfl)) (pv 2) set_list))
    (pss_one (ps_asg (pv 3) (pg_sub (pe_ix ix_list (pe_fld (pv 0) rfl) (pv 2) (fun _ _ => rfl)) (pv 1) set_list)))), ?_⟩)
  · obtain ⟨_, _, _, _, _, rfl, _⟩ := h
    rfl
  obtain ⟨A, S, i, j, v, rfl, hF, W, hi, hj, hij, q⟩ := h
  obtain ⟨r1, a1, b1⟩ := sim_at W hi hj
  obtain ⟨r2, a2, b2⟩ := sim_at W hj hi
  obtain ⟨p1, hp1, h1⟩ := hF.row.get' a1
  obtain ⟨p2, hp2, h2⟩ := hF.row.get' a2
  have l1 : r1.length = S.items := W.row _ (List.mem_of_getElem? a1)
  have l2 : r2.length = S.items := W.row _ (List.mem_of_getElem? a2)
  have hF1 := hF.setRow (j := j) (v := v) hp1 a1
  have a2' : (setCell S i j v).similarities[j]? = some r2 := by
    unfold setCell
    show (S.similarities.set i _)[j]? = _
    rw [List.getElem?_set_ne hij]
    exact a2
  have hF2 := hF1.setRow (j := i) (v := v) hp2 a2'
  obtain ⟨p2', hp2', h2'⟩ := hF1.row.get' a2'
  rw [hp2] at hp2'
  cases hp2'
  refine ⟨_, rfl, _, rfl, A.p, _, A.dx, _, _, rfl, hF.obj, T.Store.cl, T.Store_no_similarities, sF_sim _ _ _, _, rfl, A.sa, _, _, _, rfl, rfl, SqL.of hF.sim, atI_nat (by rw [List.getElem?_map, hp1]; rfl), _, rfl, p1, _, _, j, rfl, rfl, h1, ?_, ?_⟩
  · rw [List.length_map]; exact ixN_nat (by omega)
  rw [← List.map_set]
  refine ⟨_, rfl, _, rfl, A.p, _, A.dx, _, _, rfl, hF1.obj, T.Store.cl, T.Store_no_similarities, sF_sim _ _ _, _, rfl, A.sa, _, _, _, rfl, rfl, SqL.of hF1.sim, atI_nat (by rw [List.getElem?_map, hp2]; rfl), _, rfl, p2, _, _, i, rfl, rfl, h2', ?_, ?_⟩
  · rw [List.length_map]; exact ixN_nat (by omega)
  rw [← List.map_set]
  refine q _ hF2 ?_
  have f1 : Fr T.Tb A.foot H (upd H p1 (.lst ((r1.set j v).map nV))) := ((Ex.refl H).fr _).upd (row_foot (List.mem_of_getElem? hp1)) h1 True.intro
  exact f1.upd (row_foot (List.mem_of_getElem? hp2)) h2' True.intro
/-! ### delete_member -/
theorem mfoot_sub {ms l : List MA} (h : ms.Sublist l) : (mfoot ms).Sublist (mfoot l) := by
  unfold mfoot
  induction h with
  | slnil => exact List.Sublist.slnil
  | cons a _ ih => rw [List.flatMap_cons]; exact ih.trans (List.sublist_append_right _ _)
  | cons_cons a _ ih => rw [List.flatMap_cons, List.flatMap_cons]; exact (List.Sublist.refl _).append ih
def sp_Store_delete_member (T : Txt K mg) : Sp := fun vs H Q _ => ∃ (A : SA) (S : Store) (n : Nat), vs = [.ref A.p, nV n] ∧ SF T H A S ∧ Wf S ∧
  ∀ H' A', SF T H' A' { S with members := S.members.filter fun x => x.id != n } → A'.p = A.p → Fr T.Tb [A.p] H H' → (∀ b ∈ A'.foot, b ∈ A.foot ∨ H b = none) → Q .non H'
theorem ok_Store_delete_member (T : Txt K mg) : FnOk P w K mg base CX0 5 T.Store_delete_member.f T.Store_delete_member.fd ["self", "number"] (sp_Store_delete_member T) := by
  refine T.Store_delete_member.F.ok sc_Store_delete_member (fun vs H Q E h => ?_) (fun cdv A outer s H vs Q E hr h => ⟨_, (pss_one (ps_fld (pv 0) (pe_call (ok_others_than T) (hr.mono (by decide)) rfl T.others_than.g T.others_than.F.kp T.others_than.b .nil pass0 (pa_cons (pv 0) (pa_cons (pv 1) pa_nil))) rfl)), ?_⟩)
  · obtain ⟨_, _, _, rfl, _⟩ := h
    rfl
  obtain ⟨A, S, n, rfl, hF, W, q⟩ := h
  obtain ⟨⟨p1, p2, p3, p4⟩, ⟨s1, s2, s3⟩, ⟨m1, m2⟩, nr, nm, rm⟩ := A.split hF.nd
  refine ⟨_, rfl, _, rfl, A, S, n, rfl, hF, W, fun c H1 ms e1 nc hc hsub hms => ?_⟩
  have hF1 := e1.sf hF
  have sub := mfoot_sub hsub
  have ncf : ∀ b o, H b = some o → b ≠ c := fun b o hb z => by rw [z, nc] at hb; cases hb
  have fo : ∀ b ∈ mfoot ms, ∃ o, H b = some o := fun b hb => by
    unfold mfoot at hb
    rw [List.mem_flatMap] at hb
    obtain ⟨m, hm, hb⟩ := hb
    obtain ⟨x, _, r⟩ := hF.ms.mem (hsub.subset hm)
    rcases List.mem_cons.mp hb with e | e
    · rw [e]; exact ⟨_, r.1⟩
    · rw [List.mem_singleton.mp e]
      obtain ⟨t, xs, z, ht, _⟩ := r.2
      cases z
      exact ⟨_, ht⟩
  have ro : ∀ r ∈ A.rows, ∃ o, H r = some o := fun r hr => by
    obtain ⟨y, _, q⟩ := hF.row.mem hr
    exact ⟨_, q⟩
  refine ⟨_, rfl, A.p, _, A.dx, _, rfl, hF1.obj, T.Store.cl, T.Store_no_members, (by show 3 < 1000; decide), ?_⟩
  rw [putF_mem2]
  have nd : ({ A with ma := c, mems := ms } : SA).foot.Nodup := by
    unfold SA.foot
    simp only [List.nodup_cons, List.nodup_append, List.mem_cons, List.mem_append, not_or]
    refine ⟨⟨p1, ncf _ _ hF.obj, fun h => p3 _ h rfl, fun h => p4 _ (sub.subset h) rfl⟩, ⟨ncf _ _ hF.sim, fun h => s2 _ h rfl, fun h => s3 _ (sub.subset h) rfl⟩, ⟨fun h => ?_, fun h => ?_⟩, nr, nm.sublist sub, fun r hr b hb => rm r hr b (sub.subset hb)⟩
    · obtain ⟨o, ho⟩ := ro c h
      rw [nc] at ho; cases ho
    · obtain ⟨o, ho⟩ := fo c h
      rw [nc] at ho; cases ho
  refine q _ { A with ma := c, mems := ms } (hF1.setMems hc hms (fun m hm => ⟨(p4 _ (sub.subset (mfoot_p hm))).symm, (p4 _ (sub.subset (mfoot_e hm))).symm⟩) (ncf _ _ hF.obj).symm nd) rfl ((e1.fr _).upd List.mem_cons_self hF1.obj True.intro) fun b hb => ?_
  unfold SA.foot at hb ⊢
  simp only [List.mem_cons, List.mem_append] at hb ⊢
  rcases hb with e | e | e | e | e
  · exact .inl (.inl e)
  · exact .inl (.inr (.inl e))
  · rw [e]; exact .inr nc
  · exact .inl (.inr (.inr (.inr (.inl e))))
  · exact .inl (.inr (.inr (.inr (.inr (sub.subset e)))))
end
end FpS
/-! # a new store, a new member -/
namespace FpS
open PySem PySem.Spec PyProof.Rows L2
open Kp433 (Store insertMember)
abbrev idRow (n i : Nat) : List Nat := (List.range n).map fun j => if i = j then 100 else 0
theorem putF_items (n : Nat) : putF "items_many" (nV n) [] = ([("items_many", nV n)] : List (Str × V)) := by rfl
theorem putF_sim (n : Nat) (a : Addr) : putF "similarities" (.ref a) ([("items_many", nV n)] : List (Str × V)) = ([("items_many", nV n), ("similarities", .ref a)] : List (Str × V)) := by rfl
theorem putF_mems (n : Nat) (a b : Addr) : putF "members" (.ref b) ([("items_many", nV n), ("similarities", .ref a)] : List (Str × V)) = sF n a b := by rfl
theorem lk_sim (n : Nat) (a : Addr) : List.lookup ("similarities" : Str) ([("items_many", nV n), ("similarities", .ref a)] : List (Str × V)) = some (.ref a) := by rfl
section
variable {P : Program} {w : World} {K : PySem.W.Frag} {mg : Str → Option Value} {base : Heap}
def sp_Store_init (T : Txt K mg) : Sp := fun vs H Q _ => ∃ (G : Hp) (p dx : Addr) (n : Nat), vs = [.ref p, nV n] ∧ G p = none ∧ H = upd G p (.ins T.Store.C dx []) ∧ n ≤ 6 ∧
  ∀ G' sa ma rows, Ex T.Tb G G' → G' p = none → G' sa = some (.lst (rows.map V.ref)) → F2 (fun r (l : List Nat) => G' r = some (.lst (l.map nV))) rows ((List.range n).map (idRow n)) → G' ma = some (.lst []) →
    (∀ b ∈ sa :: ma :: rows, G b = none) → (sa :: ma :: rows).Nodup → Q .non (upd G' p (.ins T.Store.C dx (sF n sa ma)))
theorem ok_Store_init (T : Txt K mg) : FnOk P w K mg base CX0 4 T.Store.f T.Store_init.fd ["self", "items_many"] (sp_Store_init T) := by
  refine T.Store_init.F.ok sc_Store_init (fun vs H Q E h => ?_) (fun cdv A outer s H vs Q E hr h => ⟨_, (pss_cons (ps_fld (pv 0) (pv 1) rfl)
    (pss_cons (ps_fld (pv 0) (pe_lst pa_nil) rfl)
    (pss_cons (ps_for PassesOwn.never rfl (pi_range1 (by rfl) T.range_ (pa_cons (pv 1) pa_nil)) (pg_name (i := 2) sc_Store_init.nd rfl (Or.inr rfl))
    (pss_one (ps_expr (pe_bm PySem.F.plainAttrs_list PySem.F.slot_list_append PySem.F.type_list_append mt_append (pe_fld (pv 0) rfl) (pa_cons (by exact (pe_lc (own := [("second", 3)]) (by rfl) sc_Store_init.nd (pi_range1 (by rfl) T.range_ (pa_cons (pv 1) pa_nil)) (blkOk_by (own := [("second", 3)]) (N := N_Store_init) (sc := defScope s_Store_init) (by decide +kernel)) (fun _ _ _ _ _ => (pg_name (i := 3) sc_Store_init.nd rfl (Or.inl rfl))) (fun _ _ _ _ _ => pts_nil) (fun _ _ _ _ _ => (pe_ifExp (pt_cmpR op_eq (pv 2) (pv 3) (nomark _)) (pe_glob (v := .int (100)) rfl T.SAME.g ⟨_, rfl⟩) pe_int)))) pa_nil)))))
    (pss_one (ps_fld (pv 0) (pe_lst pa_nil) rfl))))), ?_⟩)
  · obtain ⟨_, _, _, _, rfl, _⟩ := h
    rfl
  obtain ⟨G, p, dx, n, rfl, hp, rfl, hn, q⟩ := h
  refine ⟨_, rfl, _, rfl, p, _, dx, _, rfl, upd_same, T.Store.cl, T.Store_no_items_many, (by show 0 < 1000; decide), Nat.zero_le _, fun sa hsa => ?_⟩
  rw [putF_items, upd_upd] at hsa ⊢
  obtain ⟨nsp, gsa, eu⟩ := put_new (o' := .lst []) hsa
  rw [eu]
  refine ⟨_, rfl, p, _, dx, _, rfl, upd_same, T.Store.cl, T.Store_no_similarities, (by show 1 < 1000; decide), ?_⟩
  rw [putF_sim, upd_upd]
  -- the rows
  refine ⟨_, rfl, _, rfl, by omega, by omega, for_range (n := ((n : Nat) : Int).toNat) (fun j σ H' => ∃ y2 G1 rows, σ = [some (.ref p), some (nV n), y2, none] ∧ H' = upd G1 p (.ins T.Store.C dx [("items_many", nV n), ("similarities", .ref sa)]) ∧ Ex T.Tb G G1 ∧ G1 p = none ∧ G1 sa = some (.lst (rows.map V.ref)) ∧
      F2 (fun r (l : List Nat) => G1 r = some (.lst (l.map nV))) rows ((List.range j).map (idRow n)) ∧ (∀ b ∈ rows, G b = none) ∧ (sa :: rows).Nodup ∧ rows.length = j) ?_ ?_ ?_⟩
  · refine ⟨none, upd G sa (.lst []), [], rfl, rfl, .new gsa, by rw [upd_ne nsp.symm]; exact hp, upd_same, .nil, by simp, by simp, rfl⟩
  · rintro j σ H1 hj ⟨y2, G1, rows, rfl, rfl, e1, g1p, g1s, hrows, hnew, hnd, hlen⟩
    rw [Int.toNat_natCast] at hj
    have ej : V.int (0 + ((j : Nat) : Int)) = nV j := by rw [Int.zero_add]
    show gName 2 _ _ _ _
    rw [ej]
    generalize hI : (HO.ins T.Store.C dx [("items_many", nV n), ("similarities", .ref sa)]) = I
    have hIn : ∀ xs, I ≠ .lst xs := fun xs z => by rw [← hI] at z; cases z
    have Ipl : Plain I := hI ▸ True.intro
    refine ⟨_, rfl, p, T.Store.C, dx, _, _, rfl, by rw [hI]; exact upd_same, T.Store.cl, T.Store_no_similarities, lk_sim _ _, .inl ⟨rfl, rows.map V.ref, SqL.of (by rw [upd_ne nsp]; exact g1s)⟩, _, rfl, _, rfl, by omega, by omega, fun D hD => lc_ex (walk_range (lo := 0) (n := ((n : Nat) : Int).toNat)) (Tb := T.Tb) (fun i acc G => acc = ((List.range i).map fun k => if j = k then 100 else 0).map nV) (by rw [Int.toNat_natCast]; exact Nat.lt_of_le_of_lt hn (by decide)) hD (fun _ _ => True.intro) rfl ?_ ?_⟩
    · rintro i x acc G2 H' Nx hi eG2 gD2 rfl ⟨rfl, hx⟩ kY kN
      have ei : x = nV i := by rw [hx]; show V.int (0 + ((i : Nat) : Int)) = _; rw [Int.zero_add]
      subst ei
      have es : ((List.range (i + 1)).map fun k => if j = k then 100 else 0).map nV = ((List.range i).map fun k => if j = k then 100 else 0).map nV ++ [nV (if j = i then 100 else 0)] := by
        rw [List.range_succ, List.map_append, List.map_append]; rfl
      refine ⟨rfl, _, rfl, _, rfl, rfl, _, rfl, ?_⟩
      by_cases c : j = i
      · rw [decide_eq_true (show nV j = nV i by rw [c])]
        refine iteT (kY _ _ (.refl _) fun G' _ _ _ => ?_)
        rw [es, if_pos c]
        rfl
      · rw [decide_eq_false (show ¬ nV j = nV i from fun z => c (by have := V.int.inj z; omega))]
        refine iteF (kY _ _ (.refl _) fun G' _ _ _ => ?_)
        rw [es, if_neg c]
        rfl
    · rintro acc G2 eG2 gD2 rfl
      rw [Int.toNat_natCast]
      have g2p : G2 p = some I := eG2.old p I upd_same (fun ps z => Ipl.ntab ps z)
      obtain ⟨G3, g3p, rfl⟩ := upd_eta g2p
      have e3 : Ex T.Tb G1 G3 := eG2.strip g1p g3p Ipl
      have nDp : D ≠ p := fun z => by rw [z, upd_same] at gD2; cases gD2
      have g3D : G3 D = none := by rw [upd_ne nDp] at gD2; exact gD2
      have hDs : D ≠ sa := fun z => by rw [z] at g3D; rw [e3.lst g1s] at g3D; cases g3D
      have h1s : upd (upd G3 p I) D (.lst ((idRow n j).map nV)) sa = some (.lst (rows.map V.ref)) := by rw [upd_ne hDs.symm, upd_ne nsp]; exact e3.lst g1s
      refine ⟨sa, rows.map V.ref, _, rfl, rfl, h1s, ?_⟩
      refine ⟨by rw [List.length_map, hlen]; exact small1000 (by omega), some (nV j), upd (upd G3 D (.lst (idRow n j |>.map nV))) sa (.lst (rows.map V.ref ++ [.ref D])), rows ++ [D], rfl, ?_, ?_, ?_, ?_, ?_, ?_, ?_, ?_⟩
      · rw [← hI, upd_comm nDp.symm, upd_comm nsp.symm]
      · have h3s : upd G3 D (.lst ((idRow n j).map nV)) sa = some (.lst (rows.map V.ref)) := by rw [upd_ne hDs.symm]; exact e3.lst g1s
        exact (e1.trans (e3.trans (.new g3D))).mut gsa h3s True.intro
      · rw [upd_ne nsp.symm, upd_ne nDp.symm]; exact g3p
      · rw [upd_same, List.map_append]; rfl
      · rw [List.range_succ, List.map_append]
        rw [List.nodup_cons] at hnd
        refine (hrows.imp fun r l hr _ q => ?_).append (.one ?_)
        · have nrs : r ≠ sa := fun z => hnd.1 (by rw [← z]; exact hr)
          rw [upd_ne nrs, upd_ne (ne_of_none (e3.lst q) g3D)]
          exact e3.lst q
        · rw [upd_ne hDs, upd_same]
      · intro b hb
        rcases List.mem_append.mp hb with z | z
        · exact hnew b z
        · rw [List.mem_singleton.mp z]; exact (e1.trans e3).thr _ g3D
      · rw [List.nodup_cons] at hnd ⊢
        refine ⟨fun z => ?_, ?_⟩
        · rcases List.mem_append.mp z with z | z
          · exact hnd.1 z
          · exact hDs (List.mem_singleton.mp z).symm
        · rw [List.nodup_append]
          refine ⟨hnd.2, by simp, fun a ha b hb z => ?_⟩
          rw [List.mem_singleton.mp hb] at z
          obtain ⟨l, _, q⟩ := hrows.mem ha
          rw [z] at q
          have := e3.lst q
          rw [g3D] at this; cases this
      · rw [List.length_append, hlen]; rfl
  · rintro σ H1 ⟨y2, G1, rows, rfl, rfl, e1, g1p, g1s, hrows, hnew, hnd, hlen⟩
    rw [Int.toNat_natCast] at hrows
    refine ⟨Nat.zero_le _, fun ma hma => ?_⟩
    obtain ⟨nmp, gma, eu⟩ := put_new (o' := .lst []) hma
    rw [eu]
    refine ⟨_, rfl, p, _, dx, _, rfl, upd_same, T.Store.cl, T.Store_no_members, (by show 2 < 1000; decide), ?_⟩
    rw [putF_mems, upd_upd]
    have e2 : Ex T.Tb G1 (upd G1 ma (.lst [])) := .new gma
    refine q _ sa ma rows (e1.trans e2) (by rw [upd_ne nmp.symm]; exact g1p) (e2.lst g1s) (hrows.imp fun _ _ _ _ q => e2.lst q) upd_same ?_ ?_
    · intro b hb
      rcases List.mem_cons.mp hb with z | hb
      · rw [z]; exact gsa
      rcases List.mem_cons.mp hb with z | hb
      · rw [z]; exact e1.thr _ gma
      · exact hnew b hb
    · rw [List.nodup_cons] at hnd ⊢
      rw [List.nodup_cons]
      refine ⟨fun z => ?_, fun z => ?_, hnd.2⟩
      · rcases List.mem_cons.mp z with z | z
        · rw [z, gma] at g1s; cases g1s
        · exact hnd.1 z
      · obtain ⟨l, _, r⟩ := hrows.mem z
        rw [gma] at r; cases r
/-! ### add_member -/
theorem below_take {n : Nat} {l : List Kp433.Member} (hi : Inc l) {j : Nat} {a : Kp433.Member} (h : l[j]? = some a) (c : a.id < n) : (belowN (l.take j) n).length = j := by
  have : belowN (l.take j) n = l.take j := by
    unfold belowN
    rw [List.filter_eq_self]
    intro m hm
    obtain ⟨i, hi2⟩ := List.getElem?_of_mem hm
    have li := lt_of_get hi2
    rw [List.length_take] at li
    rw [List.getElem?_take_of_lt (by omega)] at hi2
    obtain ⟨l1, e1⟩ := List.getElem?_eq_some_iff.mp hi2
    obtain ⟨l2, e2⟩ := List.getElem?_eq_some_iff.mp h
    have := (List.pairwise_iff_getElem.mp hi) i j l1 l2 (by omega)
    rw [e1, e2] at this
    exact decide_eq_true (by omega)
  rw [this, List.length_take]
  have := lt_of_get h
  omega
theorem below_len (l : List Kp433.Member) (n : Nat) : (belowN l n).length ≤ l.length := List.length_filter_le _ _
theorem below_pre {n : Nat} {l : List Kp433.Member} (hi : Inc l) : ∀ j, belowN (l.take j) n = l.take (belowN (l.take j) n).length := by
  intro j
  induction j with
  | zero => rfl
  | succ j ih =>
    cases h : l[j]? with
    | none =>
      have : l.length ≤ j := List.getElem?_eq_none_iff.mp h
      rw [List.take_of_length_le (by omega)] at ih ⊢
      exact ih
    | some a =>
      have ef : belowN (l.take (j + 1)) n = belowN (l.take j) n ++ if a.id < n then [a] else [] := by
        unfold belowN
        rw [tk h, List.filter_append, List.filter_cons]
        by_cases c : a.id < n
        · rw [if_pos c, if_pos (decide_eq_true c)]; rfl
        · rw [if_neg c, decide_eq_false c]; rfl
      by_cases c : a.id < n
      · rw [ef, if_pos c, List.length_append, below_take hi h c]
        show _ = l.take (j + 1)
        rw [tk h, ih, below_take hi h c]
      · rw [ef, if_neg c, List.append_nil]; exact ih
def sp_Store_add_member (T : Txt K mg) : Sp := fun vs H Q _ => ∃ (A : SA) (S : Store) (n : Nat), vs = [.ref A.p, nV n] ∧ SF T H A S ∧ Wf S ∧ (∀ m ∈ S.members, m.id ≠ n) ∧
  ∀ H' A', SF T H' A' { S with members := insertMember ⟨n, []⟩ S.members } → A'.p = A.p → Fr T.Tb A.foot H H' → (∀ b ∈ A'.foot, b ∈ A.foot ∨ H b = none) → Q .non H'
theorem ok_Store_add_member (T : Txt K mg) : FnOk P w K mg base CX0 6 T.Store_add_member.f T.Store_add_member.fd ["self", "number"] (sp_Store_add_member T) := by
  refine T.Store_add_member.F.ok sc_Store_add_member (fun vs H Q E h => ?_) (fun cdv A outer s H vs Q E hr h => ⟨_, (pss_cons (ps_setLc (i := 2) (own := [("member", 3)]) (by rfl) sc_Store_add_member.nd rfl rfl (sw_true rfl rfl rfl (by decide +kernel)) (pi_list (pe_fld (pv 0) rfl)) (blkOk_by (own := [("member", 3)]) (N := N_Store_add_member) (sc := defScope s_Store_add_member) (by decide +kernel)) (fun _ _ _ _ _ => (pg_name (i := 3) sc_Store_add_member.nd rfl (Or.inl rfl))) (fun _ _ _ _ _ => (pts_one (pt_cmpR op_lt (pe_fldK K rfl (pv 3) rfl) (pv 1) (nomark _)))) (fun _ _ _ _ _ => (pv 3)))
    (pss_one (ps_fld (pv 0) (pe_op op_cat (pe_op op_cat (pv 2) (pe_lst (pa_cons (pe_make T.Member.mkO (ok_Member_init T) (hr.mono (by decide)) rfl T.Member.g T.Member_init.b .nil pass0 (pa_cons (pv 1) pa_nil)) pa_nil))) (pe_slice sl_list (pe_fld (pv 0) rfl) (po_some (pe_callB call_len_seq (by rfl) T.len_ PySem.boot_len (pa_cons (pv 2) pa_nil))) po_none)) rfl))), ?_⟩)
  · obtain ⟨_, _, _, rfl, _⟩ := h
    rfl
  obtain ⟨A, S, n, rfl, hF, W, hne, q⟩ := h
  obtain ⟨⟨p1, p2, p3, p4⟩, ⟨s1, s2, s3⟩, ⟨m1, m2⟩, nr, nm, rm⟩ := A.split hF.nd
  have hl : A.mems.length ≤ 6 := by rw [hF.ms.length]; exact W.ms
  have hlm := hF.ms.length
  refine ⟨_, rfl, A.p, _, A.dx, _, _, rfl, hF.obj, T.Store.cl, T.Store_no_members, sF_mem _ _ _, A.ma, rfl, ⟨_, SqL.of hF.mem⟩, fun D hD => lc_ex (walk_list (K := K) (a := A.ma) (xs := A.mems.map fun m => V.ref m.p)) (Tb := T.Tb) (fun j acc G => acc = (A.mems.take (belowN (S.members.take j) n).length).map (fun m => V.ref m.p)) (by rw [List.length_map]; exact Nat.lt_of_le_of_lt hl (by decide)) hD (fun H' e => SqL.of (e.lst hF.mem)) rfl ?_ ?_⟩
  · rintro j x acc G H' Nx hj eG gD rfl ⟨rfl, hx⟩ kY kN
    obtain ⟨m, a, hm, ha, rfl, r⟩ := ms_get hF hx
    have eH := eG.trans (Ex.new (Tb := T.Tb) (o := .lst ((A.mems.take (belowN (S.members.take j) n).length).map (fun m => V.ref m.p))) gD)
    refine ⟨rfl, _, rfl, m.p, _, m.dx, _, _, rfl, (eH.mema r).1, T.Member.cl, T.Member_no_number, mF_num _ _, _, rfl, _, _, rfl, rfl, _, rfl, ?_⟩
    have ef : belowN (S.members.take (j + 1)) n = belowN (S.members.take j) n ++ if a.id < n then [a] else [] := by
      unfold belowN
      rw [tk ha, List.filter_append, List.filter_cons]
      by_cases c : a.id < n
      · rw [if_pos c, if_pos (decide_eq_true c)]; rfl
      · rw [if_neg c, decide_eq_false c]; rfl
    by_cases c : a.id < n
    · rw [decide_eq_true (show (a.id : Int) < (n : Int) by omega)]
      refine iteT ⟨_, rfl, kY _ _ (.refl _) fun G' _ _ _ => ?_⟩
      rw [ef, if_pos c, List.length_append, below_take W.inc ha c]
      show _ = (A.mems.take (j + 1)).map _
      rw [tk hm, List.map_append]
      rfl
    · rw [decide_eq_false (show ¬ (a.id : Int) < (n : Int) by omega)]
      refine iteF (kN _ (.refl _) fun G' _ _ _ => ?_)
      rw [ef, if_neg c, List.append_nil]
  rintro acc G eG gD rfl
  rw [List.length_map, hlm, List.take_length]
  generalize hk : (belowN S.members n).length = k
  have hkl : k ≤ A.mems.length := by rw [← hk, hlm]; exact below_len _ _
  have hb : belowN S.members n = S.members.take k := by
    have := below_pre (n := n) W.inc S.members.length
    rw [List.take_length, hk] at this
    exact this
  generalize hH1 : upd G D (.lst ((A.mems.take k).map fun m => V.ref m.p)) = H1
  have e1 : Ex T.Tb H H1 := hH1 ▸ eG.trans (.new gD)
  have hD1 : H1 D = some (.lst ((A.mems.take k).map fun m => V.ref m.p)) := hH1 ▸ upd_same
  -- Member(number)
  refine ⟨_, rfl, _, rfl, fun x dx hx hdx ndx => ?_⟩
  have e2 : Ex T.Tb H1 (upd H1 dx (.own x)) := .new hdx
  refine ⟨upd H1 dx (.own x), x, dx, n, rfl, by rw [upd_ne ndx.symm]; exact hx, rfl, fun l hl2 nlx => ⟨rfl, (by show 1 ≤ sizeLine; decide), fun o ho => ?_⟩⟩
  have e3 : Ex T.Tb (upd H1 dx (.own x)) (upd (upd H1 dx (.own x)) l (.lst [])) := .new hl2
  have gx : upd (upd H1 dx (.own x)) l (.lst []) x = none := by rw [upd_ne nlx.symm, upd_ne ndx.symm]; exact hx
  generalize hH2 : upd (upd (upd H1 dx (.own x)) l (.lst [])) x (.ins T.Member.C dx (mF n l)) = H2 at ho ⊢
  have e4 : Ex T.Tb (upd (upd H1 dx (.own x)) l (.lst [])) H2 := hH2 ▸ .new gx
  have eA : Ex T.Tb H1 H2 := e2.trans (e3.trans e4)
  have hM2 : MemA T H2 ⟨x, dx, l⟩ ⟨n, []⟩ := ⟨hH2 ▸ upd_same, l, [], rfl, e4.lst upd_same, .nil⟩
  have e5 : Ex T.Tb H2 (upd H2 o (.lst [.ref x])) := .new ho
  refine ⟨D, o, _, _, rfl, rfl, e5.lst (eA.lst hD1), upd_same, ?_, fun o2 ho2 => ?_⟩
  · rw [List.length_map, List.length_take]
    exact Nat.le_trans (show min k A.mems.length + 1 ≤ 7 by omega) (by decide)
  generalize hH3 : upd (upd H2 o (.lst [.ref x])) o2 (.lst ((A.mems.take k).map (fun m => V.ref m.p) ++ [.ref x])) = H3
  have e6 : Ex T.Tb (upd H2 o (.lst [.ref x])) H3 := hH3 ▸ .new ho2
  have eB : Ex T.Tb H H3 := e1.trans (eA.trans (e5.trans e6))
  have hF3 := eB.sf hF
  refine ⟨_, rfl, A.p, _, A.dx, _, _, rfl, hF3.obj, T.Store.cl, T.Store_no_members, sF_mem _ _ _, _, rfl, D, _, rfl, .inl (SqL.of ((eA.trans (e5.trans e6)).lst hD1)), _, rfl, A.ma, _, rfl, SqL.of hF3.mem, fun o3 ho3 => ?_⟩
  have ek : ((((A.mems.take k).map fun m => V.ref m.p).length : Nat) : Int) = ((k : Nat) : Int) := by
    rw [List.length_map, List.length_take]; omega
  rw [ek, cut_from]
  have e7 : Ex T.Tb H3 (upd H3 o3 (.lst ((A.mems.map fun m => V.ref m.p).drop k))) := .new ho3
  have h32 : H3 o2 = some (.lst ((A.mems.take k).map (fun m => V.ref m.p) ++ [.ref x])) := hH3 ▸ upd_same
  refine ⟨o2, o3, _, _, rfl, rfl, e7.lst h32, upd_same, ?_, fun c hc => ?_⟩
  · simp only [List.length_append, List.length_map, List.length_take, List.length_drop, List.length_singleton]
    exact Nat.le_trans (show min k A.mems.length + 1 + (A.mems.length - k) ≤ 8 by omega) (by decide)
  generalize hH4 : upd (upd H3 o3 (.lst ((A.mems.map fun m => V.ref m.p).drop k))) c (.lst ((A.mems.take k).map (fun m => V.ref m.p) ++ [.ref x] ++ (A.mems.map fun m => V.ref m.p).drop k)) = H4
  have e8 : Ex T.Tb H3 H4 := hH4 ▸ e7.trans (.new hc)
  have eC : Ex T.Tb H H4 := eB.trans e8
  have nc0 : H c = none := eB.thr _ (e7.thr _ hc)
  have hF4 := eC.sf hF
  refine ⟨_, rfl, A.p, _, A.dx, _, rfl, hF4.obj, T.Store.cl, T.Store_no_members, (by show 3 < 1000; decide), ?_⟩
  rw [putF_mem2]
  generalize hms : A.mems.take k ++ [(⟨x, dx, l⟩ : MA)] ++ A.mems.drop k = ms
  have hc4 : H4 c = some (.lst (ms.map fun m => V.ref m.p)) := by
    rw [← hH4, upd_same, ← hms, List.map_append, List.map_append, List.map_drop]
    rfl
  have nx0 : H x = none := e1.thr _ hx
  have nl0 : H l = none := e1.thr _ (e2.thr _ hl2)
  have hF2 : F2 (MemA T H4) ms (insertMember ⟨n, []⟩ S.members) := by
    rw [← hms, insert_eq W.inc hne, hk, hb]
    exact ((hF4.ms.take k).append (.one ((e5.trans (e6.trans e8)).mema hM2))).append (hF4.ms.drop k)
  have old : ∀ b ∈ mfoot A.mems, ∃ o, H b = some o := fun b hb => by
    unfold mfoot at hb
    rw [List.mem_flatMap] at hb
    obtain ⟨m, hm, hb⟩ := hb
    obtain ⟨x, _, r⟩ := hF.ms.mem hm
    rcases List.mem_cons.mp hb with e | e
    · rw [e]; exact ⟨_, r.1⟩
    · rw [List.mem_singleton.mp e]
      obtain ⟨t, xs, z, ht, _⟩ := r.2
      cases z
      exact ⟨_, ht⟩
  have ro : ∀ r ∈ A.rows, ∃ o, H r = some o := fun r hr => by
    obtain ⟨y, _, q⟩ := hF.row.mem hr
    exact ⟨_, q⟩
  have fms : ∀ b, b ∈ mfoot ms ↔ b ∈ mfoot A.mems ∨ b = x ∨ b = l := fun b => by
    rw [← hms]
    unfold mfoot
    conv => rhs; rw [← List.take_append_drop k A.mems]
    rw [List.flatMap_append, List.flatMap_append, List.flatMap_append]
    simp only [List.mem_append, List.flatMap_cons, List.flatMap_nil, List.append_nil, List.mem_cons, List.not_mem_nil, or_false]
    constructor
    · rintro ((h | h) | h)
      · exact .inl (.inl h)
      · exact .inr h
      · exact .inl (.inr h)
    · rintro ((h | h) | h)
      · exact .inl (.inl h)
      · exact .inr h
      · exact .inl (.inr h)
  have nfm : (mfoot ms).Nodup := by
    rw [← hms]
    have nm' : (mfoot (A.mems.take k) ++ mfoot (A.mems.drop k)).Nodup := by
      unfold mfoot
      rw [← List.flatMap_append, List.take_append_drop]
      exact nm
    have o1 : ∀ b ∈ mfoot (A.mems.take k), ∃ o, H b = some o := fun b hb => old b ((mfoot_sub (List.take_sublist k A.mems)).subset hb)
    have o2 : ∀ b ∈ mfoot (A.mems.drop k), ∃ o, H b = some o := fun b hb => old b ((mfoot_sub (List.drop_sublist k A.mems)).subset hb)
    have em : mfoot (A.mems.take k ++ [(⟨x, dx, l⟩ : MA)] ++ A.mems.drop k) = mfoot (A.mems.take k) ++ [x, l] ++ mfoot (A.mems.drop k) := by
      unfold mfoot
      rw [List.flatMap_append, List.flatMap_append]
      rfl
    rw [em]
    rw [List.nodup_append] at nm' ⊢
    obtain ⟨n1, n2, n3⟩ := nm'
    rw [List.nodup_append]
    refine ⟨⟨n1, by simp [Ne.symm nlx], fun a ha b hb z => ?_⟩, n2, fun a ha b hb z => ?_⟩
    · obtain ⟨o, ho⟩ := o1 a ha
      rcases List.mem_cons.mp hb with e | e
      · rw [z, e, nx0] at ho; cases ho
      · rw [z, List.mem_singleton.mp e, nl0] at ho; cases ho
    · rcases List.mem_append.mp ha with h | h
      · exact n3 a h b hb z
      · obtain ⟨o, ho⟩ := o2 b hb
        rcases List.mem_cons.mp h with e | e
        · rw [← z, e, nx0] at ho; cases ho
        · rw [← z, List.mem_singleton.mp e, nl0] at ho; cases ho
  have newne : ∀ b o, H b = some o → b ≠ x ∧ b ≠ l ∧ b ≠ c := fun b o hb => ⟨fun z => (by rw [z, nx0] at hb; cases hb), fun z => (by rw [z, nl0] at hb; cases hb), fun z => (by rw [z, nc0] at hb; cases hb)⟩
  have cx : c ≠ x := fun z => by
    have : H4 x = some (.ins T.Member.C dx (mF n l)) := (e5.trans (e6.trans e8)).ins (hH2 ▸ upd_same)
    rw [z, this] at hc4; cases hc4
  have cl : c ≠ l := fun z => by
    have h2l : H2 l = some (.lst []) := e4.lst upd_same
    have : upd H3 o3 (.lst ((A.mems.map fun m => V.ref m.p).drop k)) l = some (.lst []) := (e5.trans (e6.trans e7)).lst h2l
    rw [z, this] at hc; cases hc
  have nd : ({ A with ma := c, mems := ms } : SA).foot.Nodup := by
    unfold SA.foot
    simp only [List.nodup_cons, List.nodup_append, List.mem_cons, List.mem_append, not_or]
    refine ⟨⟨p1, (newne _ _ hF.obj).2.2, fun h => p3 _ h rfl, fun h => ?_⟩, ⟨(newne _ _ hF.sim).2.2, fun h => s2 _ h rfl, fun h => ?_⟩, ⟨fun h => ?_, fun h => ?_⟩, nr, nfm, fun r hr b hb z => ?_⟩
    · rcases (fms _).mp h with h | h | h
      · exact p4 _ h rfl
      · exact (newne _ _ hF.obj).1 h
      · exact (newne _ _ hF.obj).2.1 h
    · rcases (fms _).mp h with h | h | h
      · exact s3 _ h rfl
      · exact (newne _ _ hF.sim).1 h
      · exact (newne _ _ hF.sim).2.1 h
    · obtain ⟨o, ho⟩ := ro c h
      rw [nc0] at ho; cases ho
    · rcases (fms _).mp h with h | h | h
      · obtain ⟨o, ho⟩ := old c h
        rw [nc0] at ho; cases ho
      · exact cx h
      · exact cl h
    · obtain ⟨o, ho⟩ := ro r hr
      rcases (fms _).mp hb with h | h | h
      · exact rm r hr b h z
      · exact (newne _ _ ho).1 (z.trans h)
      · exact (newne _ _ ho).2.1 (z.trans h)
  refine q _ { A with ma := c, mems := ms } (hF4.setMems hc4 hF2 (fun m hm => ?_) (newne _ _ hF.obj).2.2.symm nd) rfl ((eC.fr _).upd List.mem_cons_self hF4.obj True.intro) fun b hb => ?_
  · have k1 : m.p ≠ A.p := fun z => by
      rcases (fms _).mp (mfoot_p hm) with h | h | h
      · exact p4 _ h z.symm
      · exact (newne _ _ hF.obj).1 (z.symm.trans h)
      · exact (newne _ _ hF.obj).2.1 (z.symm.trans h)
    have k2 : m.ea ≠ A.p := fun z => by
      rcases (fms _).mp (mfoot_e hm) with h | h | h
      · exact p4 _ h z.symm
      · exact (newne _ _ hF.obj).1 (z.symm.trans h)
      · exact (newne _ _ hF.obj).2.1 (z.symm.trans h)
    exact ⟨k1, k2⟩
  · unfold SA.foot at hb ⊢
    simp only [List.mem_cons, List.mem_append] at hb ⊢
    rcases hb with e | e | e | e | e
    · exact .inl (.inl e)
    · exact .inl (.inr (.inl e))
    · rw [e]; exact .inr nc0
    · exact .inl (.inr (.inr (.inr (.inl e))))
    · rcases (fms _).mp e with h | h | h
      · exact .inl (.inr (.inr (.inr (.inr h))))
      · rw [h]; exact .inr nx0
      · rw [h]; exact .inr nl0
end
end FpS
/-! # deeds: what they share -/
namespace FpS
open PySem PySem.Spec PyProof.Rows L2
open Kp433 (Store Call Ans)
theorem foot_tr {K : PySem.W.Frag} {mg : Str → Option Value} {T : Txt K mg} {H : Hp} {A : SA} {S : Store} (h : SF T H A S) : ∀ b ∈ A.foot, ∃ o, H b = some o := fun b hb => by
  unfold SA.foot at hb
  simp only [List.mem_cons, List.mem_append] at hb
  rcases hb with e | e | e | e | e
  · rw [e]; exact ⟨_, h.obj⟩
  · rw [e]; exact ⟨_, h.sim⟩
  · rw [e]; exact ⟨_, h.mem⟩
  · obtain ⟨y, _, q⟩ := h.row.mem e
    exact ⟨_, q⟩
  · unfold mfoot at e
    rw [List.mem_flatMap] at e
    obtain ⟨m, hm, hb⟩ := e
    obtain ⟨x, _, r⟩ := h.ms.mem hm
    rcases List.mem_cons.mp hb with e | e
    · rw [e]; exact ⟨_, r.1⟩
    · rw [List.mem_singleton.mp e]
      obtain ⟨t, xs, z, ht, _⟩ := r.2
      cases z
      exact ⟨_, ht⟩
theorem wf_len {S : Store} (W : Wf S) : ∀ m ∈ S.members, m.events.length ≤ 7 := fun m hm => (W.mem m hm).len
theorem root_eq (S : Store) : Kp433.root S = Kp433.rootFrom 8 (S.members.map Kp433.leafHash) := rfl
/-! ### listed -/
def gOr (g1 g2 : TG) : TG := fun v σ H Q => g1 v σ H Q ∨ g2 v σ H Q
theorem pg_or2 {X : Cx} {tg : Expr} {g1 g2 : TG} (h1 : PG X tg g1) (h2 : PG X tg g2) : PG X tg (gOr g1 g2) := pg_or h1 h2
/-- a pair of numbers, a tuple or a list -/
def PrI (H : Hp) (v : V) (x : Int × Int) : Prop := ∃ p, v = .ref p ∧ (H p = some (.tup [.int x.1, .int x.2]) ∨ H p = some (.lst [.int x.1, .int x.2]))
def flatI (l : List (Int × Int)) : List Int := l.flatMap fun x => [x.1, x.2]
theorem flatI_snoc (l : List (Int × Int)) (x : Int × Int) : flatI (l ++ [x]) = flatI l ++ [x.1, x.2] := by
  unfold flatI
  rw [List.flatMap_append]; rfl
theorem flatI_len (l : List (Int × Int)) : (flatI l).length = 2 * l.length := by
  unfold flatI
  induction l with
  | nil => rfl
  | cons e l ih => rw [List.flatMap_cons, List.length_append, ih, List.length_cons]; simp only [List.length_cons, List.length_nil]; omega
section
variable {P : Program} {w : World} {K : PySem.W.Frag} {mg : Str → Option Value} {base : Heap}
def sp_listed (T : Txt K mg) : Sp := fun vs H Q _ => ∃ (a : Addr) (xs : List V) (l : List (Int × Int)), vs = [.ref a] ∧ H a = some (.lst xs) ∧ F2 (PrI H) xs l ∧ l.length ≤ 100 ∧ ∀ v H', Ex T.Tb H H' → IL H' v ((l.length : Int) :: flatI l) → Q v H'
theorem ok_listed (T : Txt K mg) : FnOk P w K mg base CX0 4 T.listed.f T.listed.fd ["pairs"] (sp_listed T) := by
  refine T.listed.F.ok sc_listed (fun vs H Q E h => ?_) (fun cdv A outer s H vs Q E hr h => ⟨_, (pss_cons (ps_set (i := 1) sc_listed.nd rfl (Or.inl rfl) (pe_lst (pa_cons (pe_callB call_len_seq (by rfl) T.len_ PySem.boot_len (pa_cons (pv 0) pa_nil)) pa_nil)))
    (pss_cons (ps_for PassesOwn.never rfl (pi_list (pv 0)) (pg_or2 (pg_tup (by rfl) (pgs_cons (pg_name (i := 2) sc_listed.nd rfl (Or.inl rfl)) (pgs_cons (pg_name (i := 3) sc_listed.nd rfl (Or.inl rfl)) pgs_nil))) (pg_unl (by rfl) (pgs_cons (pg_name (i := 2) sc_listed.nd rfl (Or.inl rfl)) (pgs_cons (pg_name (i := 3) sc_listed.nd rfl (Or.inl rfl)) pgs_nil))))
    (pss_one (ps_expr (pe_bm PySem.F.plainAttrs_list PySem.F.slot_list_extend PySem.F.type_list_extend mt_extend (pv 1) (pa_cons (pe_lst (pa_cons (pv 2) (pa_cons (pv 3) pa_nil))) pa_nil)))))
    (pss_one (ps_ret (pv 1))))), ?_⟩)
  · obtain ⟨_, _, _, rfl, _⟩ := h
    rfl
  obtain ⟨a, xs, l, rfl, ha, hxs, hl, q⟩ := h
  have lx := hxs.length
  refine ⟨_, rfl, a, xs, rfl, .inl (SqL.of ha), (by show 1 ≤ sizeLine; decide), fun D hD => ?_⟩
  rw [lx]
  generalize hH1 : upd H D (.lst [.int (l.length : Nat)]) = H1
  have e1 : Ex T.Tb H H1 := hH1 ▸ .new hD
  have hD1 : H1 D = some (.lst (((l.length : Int) :: flatI (l.take 0)).map V.int)) := hH1 ▸ upd_same
  refine ⟨_, rfl, a, rfl, ⟨_, SqL.of (e1.lst ha)⟩, for_list (xs := xs) (fun j σ H' => ∃ y2 y3, σ = [some (.ref a), some (.ref D), y2, y3] ∧ Ex T.Tb H H' ∧ H' D = some (.lst (((l.length : Int) :: flatI (l.take j)).map V.int))) ⟨_, _, rfl, e1, hD1⟩ (fun j σ H' _ ⟨_, _, _, e, _⟩ => SqL.of (e.lst ha)) ?_ ?_⟩
  · rintro j x σ H2 hx ⟨y2, y3, rfl, e2, h2⟩
    obtain ⟨pr, hpr, t, rfl, ht⟩ := hxs.get hx
    have lj := lt_of_get hpr
    have go : ∀ o, H2 o = none → (((l.length : Int) :: flatI (l.take j)).map V.int).length + 2 ≤ sizeLine ∧ ∃ y2 y3, ([some (.ref a), some (.ref D), some (.int pr.1), some (.int pr.2)] : L2.St) = [some (.ref a), some (.ref D), y2, y3] ∧ Ex T.Tb H (upd (upd H2 o (.lst [.int pr.1, .int pr.2])) D (.lst (((l.length : Int) :: flatI (l.take j)).map V.int ++ [.int pr.1, .int pr.2]))) ∧
        upd (upd H2 o (.lst [.int pr.1, .int pr.2])) D (.lst (((l.length : Int) :: flatI (l.take j)).map V.int ++ [.int pr.1, .int pr.2])) D = some (.lst (((l.length : Int) :: flatI (l.take (j + 1))).map V.int)) := fun o ho => by
      have e3 : Ex T.Tb H2 (upd H2 o (.lst [.int pr.1, .int pr.2])) := .new ho
      refine ⟨?_, _, _, rfl, (e2.trans e3).mut hD (e3.lst h2) True.intro, ?_⟩
      · rw [List.length_map]
        simp only [List.length_cons, flatI_len, List.length_take]
        exact Nat.le_trans (show _ ≤ 300 by omega) (by decide)
      · rw [upd_same, tk hpr, flatI_snoc]
        simp only [List.map_cons, List.map_append, List.cons_append]
        rfl
    rcases ht with ht | ht
    · refine Or.inl ⟨t, _, rfl, SqT.of (e2.tup ht), rfl, _, _, rfl, _, _, rfl, rfl, _, rfl, .inl ⟨rfl, _, SqL.of h2⟩, _, rfl, _, rfl, (by show 2 ≤ sizeLine; decide), fun o ho => ?_⟩
      obtain ⟨g1, g2⟩ := go o ho
      exact ⟨D, o, _, _, rfl, rfl, (Ex.new (Tb := T.Tb) ho).lst h2, upd_same, g1, g2⟩
    · refine Or.inr ⟨t, _, rfl, SqL.of (e2.lst ht), rfl, _, _, rfl, _, _, rfl, rfl, _, rfl, .inl ⟨rfl, _, SqL.of h2⟩, _, rfl, _, rfl, (by show 2 ≤ sizeLine; decide), fun o ho => ?_⟩
      obtain ⟨g1, g2⟩ := go o ho
      exact ⟨D, o, _, _, rfl, rfl, (Ex.new (Tb := T.Tb) ho).lst h2, upd_same, g1, g2⟩
  · rintro σ H2 ⟨y2, y3, rfl, e2, h2⟩
    rw [lx, List.take_length] at h2
    exact ⟨_, rfl, q _ _ e2 ⟨D, rfl, h2⟩⟩
/-- pairs of natural numbers -/
theorem prI_of {H : Hp} {xs : List V} {l : List (Nat × Nat)} (h : F2 (PrV H) xs l) : F2 (PrI H) xs (l.map fun x => ((x.1 : Int), (x.2 : Int))) := h.mapR fun v x _ _ ⟨p, e, hp⟩ => ⟨p, e, .inl hp⟩
def sp_one_more (T : Txt K mg) : Sp := fun vs H Q _ => ∃ o : Option Nat, vs = [oV o] ∧ Q (nV (Kp433.optionNumber o)) H
theorem ok_one_more (T : Txt K mg) : FnOk P w K mg base CX0 4 T.one_more.f T.one_more.fd ["first"] (sp_one_more T) := by
  refine T.one_more.F.ok sc_one_more (fun vs H Q E h => ?_) (fun cdv A outer s H vs Q E hr h => ⟨_, (pss_one (ps_ret (pe_ifExp (pt_cmpR op_isN (pv 0) pe_non (nomark _)) pe_int (pe_op op_add (pv 0) pe_int)))), ?_⟩)
  · obtain ⟨_, rfl, _⟩ := h
    rfl
  obtain ⟨o, rfl, q⟩ := h
  refine ⟨_, rfl, rfl, _, rfl, ?_⟩
  cases o with
  | none => exact iteT q
  | some n => exact iteF ⟨_, rfl, _, _, rfl, rfl, q⟩
/-! ### are_positions -/
theorem inc_zip : ∀ l : List Nat, Kp433.increasing l = ((List.range (l.length - 1)).map fun i => decide (l.getD i 0 < l.getD (i + 1) 0)).all id
  | [] => by simp [Kp433.increasing]
  | [a] => by simp [Kp433.increasing]
  | a :: b :: rest => by
    have ih := inc_zip (b :: rest)
    have e : (a :: b :: rest).length - 1 = ((b :: rest).length - 1) + 1 := by simp
    rw [e, range_cons, List.map_cons, List.map_map, List.all_cons, Kp433.increasing, ih]
    congr 1
def sp_are_positions (T : Txt K mg) : Sp := fun vs H Q _ => ∃ (y z : V) (m : Kp433.Member) (row : List Nat), vs = [y, z] ∧ MemR T H y m ∧ NL H z row ∧ row.length ≤ 100 ∧ ∀ H', Ex T.Tb H H' → Q (.bl (row.all (fun k => decide (k < m.events.length)) && Kp433.increasing row)) H'
theorem ok_are_positions (T : Txt K mg) : FnOk P w K mg base CX0 4 T.are_positions.f T.are_positions.fd ["member", "row"] (sp_are_positions T) := by
  refine T.are_positions.F.ok sc_are_positions (fun vs H Q E h => ?_) (fun cdv A outer s H vs Q E hr h => ⟨_, (pss_cons (ps_set (i := 2) sc_are_positions.nd rfl (Or.inl rfl) (pe_callB (cr_all rfl) (by rfl) T.all_ (by decide +kernel) (pa_cons (by exact (pe_lc (own := [("one", 3), ("other", 4)]) (by rfl) sc_are_positions.nd (pi_zip (by rfl) T.zip_ (pa_cons (pv 1) (pa_cons (pe_slice sl_list (pv 1) (po_some pe_int) po_none) pa_nil))) (blkOk_by (own := [("one", 3), ("other", 4)]) (N := N_are_positions) (sc := defScope s_are_positions) (by decide +kernel)) (fun _ _ _ _ _ => (pg_tupK K 2 rfl (by rfl) (pgs_cons (pg_name (i := 3) sc_are_positions.nd rfl (Or.inl rfl)) (pgs_cons (pg_name (i := 4) sc_are_positions.nd rfl (Or.inl rfl)) pgs_nil)))) (fun _ _ _ _ _ => pts_nil) (fun _ _ _ _ _ => (pe_cmpR op_lt (pv 3) (pv 4) (nomark _))))) pa_nil)))
    (pss_one (ps_ret (pe_and (pv 2) (pe_one (pe_callB (cr_all rfl) (by rfl) T.all_ (by decide +kernel) (pa_cons (by exact (pe_lc (own := [("position", 5)]) (by rfl) sc_are_positions.nd (pi_list (pv 1)) (blkOk_by (own := [("position", 5)]) (N := N_are_positions) (sc := defScope s_are_positions) (by decide +kernel)) (fun _ _ _ _ _ => (pg_name (i := 5) sc_are_positions.nd rfl (Or.inl rfl))) (fun _ _ _ _ _ => pts_nil) (fun _ _ _ _ _ => (pe_cmpR op_lt (pv 5) (pe_callB (call_lenK K rfl) (by rfl) T.len_ PySem.boot_len (pa_cons (pe_fldK K rfl (pv 0) rfl) pa_nil)) (nomark _))))) pa_nil))))))), ?_⟩)
  · obtain ⟨_, _, _, _, rfl, _⟩ := h
    rfl
  obtain ⟨y, z, m, row, rfl, hM, ⟨b, rfl, hb⟩, hl, q⟩ := h
  refine ⟨_, rfl, _, rfl, 1, rfl, b, _, rfl, SqL.of hb, fun c hc => ?_⟩
  rw [show (1 : Int) = ((1 : Nat) : Int) from rfl, cut_from]
  have e1 := Ex.new (Tb := T.Tb) (o := .lst ((row.map nV).drop 1)) hc
  refine ⟨b, c, row.map nV, _, rfl, SqL.of (e1.lst hb), SqL.of upd_same, fun D hD => lc_ex (walk_zip (K := K) (a := b) (b := c) (xs := row.map nV) (ys := (row.map nV).drop 1) (n := row.length - 1) (by rw [List.length_drop, List.length_map]; omega)) (Tb := T.Tb) (fun j acc G => acc = ((List.range j).map fun i => decide (row.getD i 0 < row.getD (i + 1) 0)).map V.bl) (small1000 (by omega)) hD (fun H' e => ⟨SqL.of (e.lst (e1.lst hb)), SqL.of (e.lst upd_same)⟩) rfl ?_ ?_⟩
  · rintro j x acc G H' Nx hj eG gD rfl ⟨t, x1, x2, rfl, ht, rfl, h1, h2⟩ kY kN
    have i1 : j < row.length := by omega
    have i2 : j + 1 < row.length := by omega
    have h1 : (row.map nV)[j]? = some x1 := h1
    have h2 : ((row.map nV).drop 1)[j]? = some x2 := h2
    rw [nV_get i1] at h1
    rw [List.getElem?_drop, Nat.add_comm 1 j, nV_get i2] at h2
    cases h1
    cases h2
    refine ⟨t, _, rfl, SqT.of upd_same, rfl, _, _, rfl, _, _, rfl, rfl, rfl, _, rfl, _, rfl, _, _, rfl, rfl, kY _ _ (.new ht) fun G' _ _ _ => ?_⟩
    rw [List.range_succ, List.map_append, List.map_append]
    congr 1
    show [V.bl (decide ((row.getD j 0 : Int) < (row.getD (j + 1) 0 : Int)))] = [V.bl (decide (row.getD j 0 < row.getD (j + 1) 0))]
    congr 2
    exact decide_eq_decide.mpr (by omega)
  rintro acc G eG gD rfl
  have e2 := eG.trans (Ex.new (o := .lst (((List.range (row.length - 1)).map fun i => decide (row.getD i 0 < row.getD (i + 1) 0)).map V.bl)) gD)
  refine ⟨D, _, rfl, SqL.of upd_same, _, rfl, _, rfl, ?_⟩
  rw [← inc_zip]
  have e12 := e1.trans e2
  generalize hH2 : upd G D _ = H2 at e12 e2 ⊢
  cases hi : Kp433.increasing row with
  | false =>
    refine iteF ?_
    have := q _ e12
    rw [hi, Bool.and_false] at this
    exact this
  | true =>
    have hM2 := e12.mem hM
    refine iteT ⟨_, rfl, b, rfl, ⟨_, SqL.of (e12.lst hb)⟩, fun D2 hD2 => lc_ex (walk_list (K := K) (a := b) (xs := row.map nV)) (Tb := T.Tb) (fun j acc G => acc = ((row.take j).map fun k => decide (k < m.events.length)).map V.bl) (by rw [List.length_map]; exact small1000 (by omega)) hD2 (fun H' e => SqL.of (e.lst (e12.lst hb))) rfl ?_ ?_⟩
    · rintro j x acc G2 H' Nx hj eG2 gD2 rfl ⟨rfl, hx⟩ kY kN
      obtain ⟨k, hk, rfl⟩ := map_get hx
      have eH := eG2.trans (Ex.new (Tb := T.Tb) (o := .lst (((row.take j).map fun k => decide (k < m.events.length)).map V.bl)) gD2)
      obtain ⟨p, dx, ea, rfl, hp, ea', xs, e0, hea, hxs⟩ := eH.mem hM2
      cases e0
      have lx : xs.length = m.events.length := by rw [hxs.length, List.length_map]
      refine ⟨rfl, _, rfl, _, rfl, p, _, dx, _, _, rfl, hp, T.Member.cl, T.Member_no_events, mF_ev _ _, ea, xs, rfl, .inl (SqL.of hea), _, _, rfl, rfl, kY _ _ (.refl _) fun G' _ _ _ => ?_⟩
      rw [tk hk, List.map_append, List.map_append, lx]
      congr 1
      show [V.bl (decide ((k : Int) < (m.events.length : Int)))] = [V.bl (decide (k < m.events.length))]
      congr 2
      exact decide_eq_decide.mpr (by omega)
    · rintro acc G2 eG2 gD2 rfl
      rw [List.length_map, List.take_length]
      refine ⟨D2, _, rfl, SqL.of upd_same, ?_⟩
      have := q _ (e12.trans (eG2.trans (Ex.new (o := .lst ((row.map fun k => decide (k < m.events.length)).map V.bl)) gD2)))
      rw [hi, Bool.and_true] at this
      rw [List.all_map]
      exact this
/-! ### the promise of a deed -/
abbrev ansL (a : Ans) : List Int := a.num :: a.nums
structure DIn (T : Txt K mg) (H : Hp) (A : SA) (S : Store) (n : V) (ns : List Nat) (r : V) (rs : List Nat) : Prop where
  sf : SF T H A S
  wf : Wf S
  num : NL H n ns
  row : NL H r rs
  rl : rs.length ≤ 24
  tab : LamX.Tabs T.Tb H
def DQ (T : Txt K mg) (H : Hp) (A : SA) (S : Store) (c : Call) (Q : VK) : Prop := ∀ v H' A' S', (Kp433.step (some S) c).1 = some S' → SF T H' A' S' → A'.p = A.p → Fr T.Tb A.foot H H' → (∀ b ∈ A'.foot, b ∈ A.foot ∨ H b = none) → IL H' v (ansL (Kp433.step (some S) c).2) → Q v H'
def DE (T : Txt K mg) (H : Hp) (S : Store) (c : Call) (E : XK) : Prop := ∀ k : Int, Kp433.step (some S) c = (some S, Kp433.single k) → Rz T H k E
def DSp (T : Txt K mg) (R : List Nat → List Nat → Call → Prop) : Sp := fun vs H Q E => ∃ (A : SA) (S : Store) (n r : V) (ns rs : List Nat) (c : Call), vs = [.ref A.p, n, r] ∧ DIn T H A S n ns r rs ∧ R ns rs c ∧ DQ T H A S c Q ∧ DE T H S c E
theorem DQ.same {T : Txt K mg} {H H' : Hp} {A : SA} {S : Store} {c : Call} {Q : VK} {a : Ans} {v : V} (q : DQ T H A S c Q) (hF : SF T H A S) (hs : Kp433.step (some S) c = (some S, a)) (e : Ex T.Tb H H') (hv : IL H' v (ansL a)) : Q v H' :=
  q v H' A S (by rw [hs]) (e.sf hF) rfl (e.fr _) (fun b hb => .inl hb) (by rw [hs]; exact hv)
theorem wm_some {S : Store} {id : Nat} {m : Kp433.Member} (h : Kp433.memberWith S id = some m) (f : Kp433.Member → Ans) : Kp433.withMember S id f = f m := by
  unfold Kp433.withMember
  rw [h]
theorem wm_none {S : Store} {id : Nat} (h : Kp433.memberWith S id = none) (f : Kp433.Member → Ans) : Kp433.withMember S id f = Kp433.single (-2) := by
  unfold Kp433.withMember
  rw [h]
/-- a natural list as an answer -/
theorem nl_ans {H : Hp} {v : V} {n : Nat} {l : List Nat} (h : NL H v (n :: l)) : IL H v (ansL (Kp433.natResult n l)) := h.il
theorem lst_ans {H : Hp} {v : V} {l : List Nat} (h : NL H v (l.length :: l)) : IL H v (ansL (Kp433.listResult l)) := h.il
end
end FpS
/-! # deeds that change the store -/
namespace FpS
open PySem PySem.Spec PyProof.Rows L2
open Kp433 (Store Call Ans setCell setEvents memberWith insertMember)
theorem eraseIdx_cut {α : Type} (xs : List α) (k : Nat) : xs.take k ++ xs.drop (k + 1) = xs.eraseIdx k := (List.eraseIdx_eq_take_drop_succ xs k).symm
theorem mfoot_set : ∀ {l : List MA} {k : Nat} {M : MA} {c : Addr}, l[k]? = some M → ∀ b ∈ mfoot (l.set k ⟨M.p, M.dx, c⟩), b ∈ mfoot l ∨ b = c
  | [], _, _, _, h, _, _ => by cases h
  | m :: l, 0, M, c, h, b, hb => by
    cases Option.some.inj h
    have hb' : b ∈ m.p :: c :: mfoot l := hb
    rcases List.mem_cons.mp hb' with e | hb'
    · exact .inl (by rw [e]; exact List.mem_cons_self)
    · rcases List.mem_cons.mp hb' with e | e
      · exact .inr e
      · exact .inl (List.mem_cons_of_mem _ (List.mem_cons_of_mem _ e))
  | m :: l, k + 1, M, c, h, b, hb => by
    have hb' : b ∈ m.p :: m.ea :: mfoot (l.set k ⟨M.p, M.dx, c⟩) := hb
    rcases List.mem_cons.mp hb' with e | hb'
    · exact .inl (by rw [e]; exact List.mem_cons_self)
    · rcases List.mem_cons.mp hb' with e | e
      · exact .inl (by rw [e]; exact List.mem_cons_of_mem _ List.mem_cons_self)
      · rcases mfoot_set (l := l) (by simpa using h) b e with q | q
        · exact .inl (List.mem_cons_of_mem _ (List.mem_cons_of_mem _ q))
        · exact .inr q
theorem mfoot_set_nd : ∀ {l : List MA} {k : Nat} {M : MA} {c : Addr}, (mfoot l).Nodup → c ∉ mfoot l → l[k]? = some M → (mfoot (l.set k ⟨M.p, M.dx, c⟩)).Nodup
  | [], _, _, _, _, _, h => by cases h
  | m :: l, 0, M, c, nd, nc, h => by
    cases Option.some.inj h
    have nd' : (m.p :: m.ea :: mfoot l).Nodup := nd
    have nc' : c ∉ m.p :: m.ea :: mfoot l := nc
    show (m.p :: c :: mfoot l).Nodup
    simp only [List.nodup_cons, List.mem_cons, not_or] at nd' nc' ⊢
    exact ⟨⟨fun z => nc'.1 z.symm, nd'.1.2⟩, nc'.2.2, nd'.2.2⟩
  | m :: l, k + 1, M, c, nd, nc, h => by
    have nd' : (m.p :: m.ea :: mfoot l).Nodup := nd
    have nc' : c ∉ m.p :: m.ea :: mfoot l := nc
    show (m.p :: m.ea :: mfoot (l.set k ⟨M.p, M.dx, c⟩)).Nodup
    simp only [List.nodup_cons, List.mem_cons, not_or] at nd' nc' ⊢
    have h' : l[k]? = some M := by simpa using h
    refine ⟨⟨nd'.1.1, fun z => ?_⟩, fun z => ?_, mfoot_set_nd nd'.2.2 nc'.2.2 h'⟩
    · rcases mfoot_set h' _ z with q | q
      · exact nd'.1.2 q
      · exact nc'.1 q.symm
    · rcases mfoot_set h' _ z with q | q
      · exact nd'.2.1 q
      · exact nc'.2.1 q.symm
theorem p_inj : ∀ {l : List MA}, (mfoot l).Nodup → ∀ {i j : Nat} {x y : MA}, l[i]? = some x → l[j]? = some y → x.p = y.p → i = j
  | [], _, _, _, _, _, h, _, _ => by cases h
  | m :: l, nd, i, j, x, y, hx, hy, e => by
    have nd' : (m.p :: m.ea :: mfoot l).Nodup := nd
    rw [List.nodup_cons, List.nodup_cons, List.mem_cons, not_or] at nd'
    cases i with
    | zero =>
      cases j with
      | zero => rfl
      | succ j =>
        have hy' : l[j]? = some y := by simpa using hy
        cases Option.some.inj hx
        exact absurd (e ▸ mfoot_p (List.mem_of_getElem? hy')) nd'.1.2
    | succ i =>
      have hx' : l[i]? = some x := by simpa using hx
      cases j with
      | zero =>
        cases Option.some.inj hy
        exact absurd (e.symm ▸ mfoot_p (List.mem_of_getElem? hx')) nd'.1.2
      | succ j =>
        have hy' : l[j]? = some y := by simpa using hy
        rw [p_inj nd'.2.2 hx' hy' e]
section
variable {K : PySem.W.Frag} {mg : Str → Option Value} {T : Txt K mg} {H : Hp} {A : SA} {S : Store}
theorem SF.setEa (h : SF T H A S) {k : Nat} {M : MA} {m : Kp433.Member} {c : Addr} {l : List Kp433.Event} (hM : A.mems[k]? = some M) (hm : S.members[k]? = some m) (hc : PL H (.ref c) (l.map evP)) (nc : c ∉ A.foot) :
    SF T (upd H M.p (.ins T.Member.C M.dx (mF m.id c))) { A with mems := A.mems.set k ⟨M.p, M.dx, c⟩ } { S with members := S.members.set k ⟨m.id, l⟩ } := by
  obtain ⟨⟨p1, p2, p3, p4⟩, ⟨s1, s2, s3⟩, ⟨m1, m2⟩, nr, nm, rm⟩ := A.split h.nd
  have hMm := List.mem_of_getElem? hM
  have pm := mfoot_p hMm
  obtain ⟨m', hm', rM⟩ := h.ms.get hM
  rw [hm] at hm'
  cases hm'
  have nt : ∀ zs, (HO.ins T.Member.C M.dx (mF m.id M.ea)) ≠ .tup zs := fun zs z => by cases z
  have ncm : c ∉ mfoot A.mems := fun z => nc (by unfold SA.foot; simp only [List.mem_cons, List.mem_append]; exact .inr (.inr (.inr (.inr z))))
  have ncp : c ≠ M.p := fun z => ncm (by rw [z]; exact pm)
  refine ⟨?_, ?_, ?_, ?_, ?_, ?_⟩
  · show upd _ _ _ A.p = _
    rw [upd_ne (p4 _ pm)]; exact h.obj
  · show upd _ _ _ A.sa = _
    rw [upd_ne (s3 _ pm)]; exact h.sim
  · exact h.row.imp fun r y hr _ q => by rw [upd_ne (rm r hr _ pm)]; exact q
  · show upd _ _ _ A.ma = some (.lst ((A.mems.set k ⟨M.p, M.dx, c⟩).map fun m => V.ref m.p))
    rw [upd_ne (m2 _ pm), h.mem, List.map_set, set_self (by rw [List.getElem?_map, hM]; rfl)]
  · refine F2.of_get (by show (A.mems.set k _).length = (S.members.set k _).length; rw [List.length_set, List.length_set]; exact h.ms.length) fun j x y hx hy => ?_
    have hx' : (A.mems.set k ⟨M.p, M.dx, c⟩)[j]? = some x := hx
    have hy' : (S.members.set k ⟨m.id, l⟩)[j]? = some y := hy
    by_cases e : j = k
    · subst e
      rw [List.getElem?_set_self (lt_of_get hM)] at hx'
      rw [List.getElem?_set_self (lt_of_get hm)] at hy'
      cases hx'
      cases hy'
      refine ⟨upd_same, ?_⟩
      exact pl_upd hc rM.1 nt ncp
    · rw [List.getElem?_set_ne (Ne.symm e)] at hx' hy'
      obtain ⟨y0, hy0, q⟩ := h.ms.get hx'
      rw [hy'] at hy0
      cases hy0
      have xm := List.mem_of_getElem? hx'
      refine mema_upd q rM.1 nt (fun z => e (p_inj nm hx' hM z)) fun z => ?_
      obtain ⟨t, xs, z2, ht, _⟩ := q.2
      cases z2
      rw [z, rM.1] at ht
      cases ht
  · unfold SA.foot at nc ⊢
    simp only [List.mem_cons, List.mem_append, not_or] at nc
    simp only [List.nodup_cons, List.nodup_append, List.mem_cons, List.mem_append, not_or]
    have fs := fun b hb => mfoot_set (c := c) hM b hb
    refine ⟨⟨p1, p2, fun z => p3 _ z rfl, fun z => ?_⟩, ⟨s1, fun z => s2 _ z rfl, fun z => ?_⟩, ⟨fun z => m1 _ z rfl, fun z => ?_⟩, nr, mfoot_set_nd nm ncm hM, fun r hr b hb z => ?_⟩
    · rcases fs _ z with q | q
      · exact p4 _ q rfl
      · exact nc.1 q.symm
    · rcases fs _ z with q | q
      · exact s3 _ q rfl
      · exact nc.2.1 q.symm
    · rcases fs _ z with q | q
      · exact m2 _ q rfl
      · exact nc.2.2.1 q.symm
    · rcases fs _ hb with q | q
      · exact rm r hr b q z
      · exact nc.2.2.2.1 (by rw [← q, ← z]; exact hr)
end
theorem setEv_eq {S : Store} {k : Nat} {m : Kp433.Member} (hi : Inc S.members) (h : S.members[k]? = some m) (l : List Kp433.Event) : setEvents S m.id l = { S with members := S.members.set k ⟨m.id, l⟩ } := by
  have := setEvents_get hi h l
  unfold setEvents at this ⊢
  have this' : (S.members.map fun x => if x.id = m.id then { x with events := l } else x) = S.members.set k ⟨m.id, l⟩ := this
  rw [this']
section
variable {P : Program} {w : World} {K : PySem.W.Frag} {mg : Str → Option Value} {base : Heap}
abbrev R_set_similarity : List Nat → List Nat → Call → Prop := fun ns _ c => ∃ i j v, ns = [i, j, v] ∧ c = .setSimilarity i j v
theorem ok_set_similarity (T : Txt K mg) : FnOk P w K mg base (L2.CX P w) 6 T.set_similarity.f T.set_similarity.fd ["store", "numbers", "row"] (DSp T R_set_similarity) := by
  refine T.set_similarity.F.okX sc_set_similarity (fun vs H Q E h => ?_) (fun cdv A outer s H vs Q E hr h => ⟨_, (pss_cons (ps_asg (pv 1) (pg_unl (by rfl) (pgs_cons (pg_name (i := 3) sc_set_similarity.nd rfl (Or.inl rfl)) (pgs_cons (pg_name (i := 4) sc_set_similarity.nd rfl (Or.inl rfl)) (pgs_cons (pg_name (i := 5) sc_set_similarity.nd rfl (Or.inl rfl)) pgs_nil)))))
    (pss_cons (ps_expr (pe_call (ok_need_item T) (hr.mono (by decide)) rfl T.need_item.g T.need_item.F.kp T.need_item.b .nil passE (pa_cons (pv 0) (pa_cons (pv 3) pa_nil))))
    (pss_cons (ps_expr (pe_call (ok_need_item T) (hr.mono (by decide)) rfl T.need_item.g T.need_item.F.kp T.need_item.b .nil passE (pa_cons (pv 0) (pa_cons (pv 4) pa_nil))))
    (pss_cons (ps_expr (pe_call (ok_ask T) (hr.mono (by decide)) rfl T.ask.g T.ask.F.kp T.ask.b .nil passE (pa_cons (pe_and (pe_cmpR op_ne (pv 3) (pv 4) (nomark _)) (pe_one (pe_cmpR op_le (pv 5) (pe_glob (v := .int (100)) rfl T.GREATEST_SIMILARITY.g ⟨_, rfl⟩) (nomark _)))) (pa_cons (pe_glob (v := .int (-22)) rfl T.BAD_ARGUMENT.g ⟨_, rfl⟩) pa_nil))))
    (pss_cons (ps_set (i := 6) sc_set_similarity.nd rfl (Or.inl rfl) (pe_ix ix_list (pe_ix ix_list (pe_fld (pv 0) rfl) (pv 3) (fun _ _ => rfl)) (pv 4) (fun _ _ => rfl)))
    (pss_cons (ps_expr (pe_meth (pv 0) T.Store.cl T.Store_set_similarity.m (ok_Store_set_similarity T) (hr.mono (by decide)) T.Store_set_similarity.b .nil pass0 (pa_cons (pv 3) (pa_cons (pv 4) (pa_cons (pv 5) pa_nil)))))
    (pss_one (ps_ret (pe_lst (pa_cons (pv 6) pa_nil)))))))))), ?_⟩)
  · obtain ⟨_, _, _, _, _, _, _, rfl, _⟩ := h
    rfl
  obtain ⟨A, S, n, r, ns, rs, cl, rfl, D, ⟨i, j, v, rfl, rfl⟩, q, qE⟩ := h
  obtain ⟨na, rfl, hn⟩ := D.num
  have hF := D.sf
  refine ⟨_, rfl, na, _, rfl, SqL.of hn, rfl, _, _, rfl, _, _, rfl, _, _, rfl, rfl, _, rfl, _, rfl, A, S, i, rfl, hF, fun hi => ?_, fun hi => qE (-2) (if_pos (.inl hi))⟩
  refine ⟨_, rfl, _, rfl, A, S, j, rfl, hF, fun hj => ?_, fun hj => qE (-2) (if_pos (.inr hj))⟩
  have c0 : ¬ (S.items ≤ i ∨ S.items ≤ j) := by omega
  have st0 : Kp433.step (some S) (.setSimilarity i j v) = if i = j ∨ 100 < v then (some S, Kp433.single (-22)) else (some (setCell (setCell S i j v) j i v), Kp433.single (Kp433.similarity S i j : Nat)) := if_neg c0
  refine ⟨_, rfl, _, rfl, rfl, _, rfl, ?_⟩
  by_cases hij : i = j
  · rw [decide_eq_true (show nV i = nV j by rw [hij])]
    exact iteF ⟨_, _, rfl, fun z => Bool.noConfusion z, fun _ => qE (-22) (st0.trans (if_pos (.inl hij)))⟩
  rw [decide_eq_false (show ¬ nV i = nV j from fun z => hij (by have := V.int.inj z; omega))]
  refine iteT ⟨_, rfl, _, _, rfl, rfl, _, _, rfl, fun hv => ?_, fun hv => qE (-22) (st0.trans (if_pos (.inr (by have := of_decide_eq_false hv; omega))))⟩
  have hv' : v ≤ 100 := by have := of_decide_eq_true hv; omega
  have st1 := st0.trans (if_neg (by omega : ¬ (i = j ∨ 100 < v)))
  obtain ⟨r1, a1, b1⟩ := sim_at D.wf hi hj
  obtain ⟨p1, hp1, h1⟩ := hF.row.get' a1
  refine ⟨_, rfl, A.p, _, A.dx, _, _, rfl, hF.obj, T.Store.cl, T.Store_no_similarities, sF_sim _ _ _, _, rfl, A.sa, _, _, _, rfl, rfl, SqL.of hF.sim, atI_nat (by rw [List.getElem?_map, hp1]; rfl), _, rfl, p1, _, _, _, rfl, rfl, SqL.of h1, atI_nat (by rw [List.getElem?_map, b1]; rfl), ?_⟩
  refine ⟨_, rfl, A.p, A.dx, _, rfl, hF.obj, by rfl, _, rfl, _, rfl, _, rfl, A, S, i, j, v, rfl, hF, D.wf, hi, hj, hij, fun H1 hF1 f1 => ?_⟩
  refine ⟨_, rfl, (by show 1 ≤ sizeLine; decide), fun o ho => ?_⟩
  refine q _ _ A _ (by rw [st1]) ((Ex.new (Tb := T.Tb) ho).sf hF1) rfl (f1.ex (.new ho)) (fun b hb => .inl hb) ⟨o, rfl, ?_⟩
  rw [upd_same, st1]
  rfl
abbrev R_add_member : List Nat → List Nat → Call → Prop := fun ns _ c => ∃ i, ns = [i] ∧ c = .addMember i
theorem ok_add_member (T : Txt K mg) : FnOk P w K mg base (L2.CX P w) 7 T.add_member.f T.add_member.fd ["store", "numbers", "row"] (DSp T R_add_member) := by
  refine T.add_member.F.okX sc_add_member (fun vs H Q E h => ?_) (fun cdv A outer s H vs Q E hr h => ⟨_, (pss_cons (ps_set (i := 3) sc_add_member.nd rfl (Or.inl rfl) (pe_ix ix_list (pv 1) pe_int (fun _ _ => rfl)))
    (pss_cons (ps_expr (pe_call (ok_ask T) (hr.mono (by decide)) rfl T.ask.g T.ask.F.kp T.ask.b .nil passE (pa_cons (pe_cmpR op_le (pv 3) (pe_glob (v := .int (1000000)) rfl T.GREATEST_NUMBER.g ⟨_, rfl⟩) (nomark _)) (pa_cons (pe_glob (v := .int (-22)) rfl T.BAD_ARGUMENT.g ⟨_, rfl⟩) pa_nil))))
    (pss_cons (ps_expr (pe_call (ok_ask T) (hr.mono (by decide)) rfl T.ask.g T.ask.F.kp T.ask.b .nil passE (pa_cons (pe_not (pe_call (ok_has_member T) (hr.mono (by decide)) rfl T.has_member.g T.has_member.F.kp T.has_member.b .nil pass0 (pa_cons (pv 0) (pa_cons (pv 3) pa_nil)))) (pa_cons (pe_glob (v := .int (-17)) rfl T.THERE_ALREADY.g ⟨_, rfl⟩) pa_nil))))
    (pss_cons (ps_expr (pe_call (ok_ask T) (hr.mono (by decide)) rfl T.ask.g T.ask.F.kp T.ask.b .nil passE (pa_cons (pe_cmpR op_lt (pe_callB call_len_seq (by rfl) T.len_ PySem.boot_len (pa_cons (pe_fld (pv 0) rfl) pa_nil)) (pe_glob (v := .int (6)) rfl T.MOST_MEMBERS.g ⟨_, rfl⟩) (nomark _)) (pa_cons (pe_glob (v := .int (-28)) rfl T.FULL.g ⟨_, rfl⟩) pa_nil))))
    (pss_cons (ps_expr (pe_meth (pv 0) T.Store.cl T.Store_add_member.m (ok_Store_add_member T) (hr.mono (by decide)) T.Store_add_member.b .nil pass0 (pa_cons (pv 3) pa_nil)))
    (pss_one (ps_ret (pe_lst (pa_cons (pe_callB call_len_seq (by rfl) T.len_ PySem.boot_len (pa_cons (pe_fld (pv 0) rfl) pa_nil)) pa_nil))))))))), ?_⟩)
  · obtain ⟨_, _, _, _, _, _, _, rfl, _⟩ := h
    rfl
  obtain ⟨A, S, n, r, ns, rs, cl, rfl, D, ⟨i, rfl, rfl⟩, q, qE⟩ := h
  obtain ⟨na, rfl, hn⟩ := D.num
  have hF := D.sf
  have lm : A.mems.length = S.members.length := hF.ms.length
  refine ⟨_, rfl, na, _, _, _, rfl, rfl, SqL.of hn, atI_nat (j := 0) rfl, _, rfl, _, _, rfl, rfl, _, _, rfl, fun hv => ?_, fun hv => qE (-22) (if_pos (by have := of_decide_eq_false hv; omega))⟩
  have hi : i ≤ 1000000 := by have := of_decide_eq_true hv; omega
  have st0 : Kp433.step (some S) (.addMember i) = if (memberWith S i).isSome then (some S, Kp433.single (-17)) else if Kp433.maxMembers ≤ S.members.length then (some S, Kp433.single (-28)) else (some { S with members := insertMember ⟨i, []⟩ S.members }, Kp433.single (S.members.length + 1 : Nat)) := if_neg (by omega)
  refine ⟨_, rfl, _, rfl, A, S, i, rfl, hF, D.wf, fun H1 e1 => ⟨_, rfl, _, _, rfl, fun hb => ?_, fun hb => (qE (-17) (st0.trans (if_pos (by cases h : (memberWith S i).isSome with | true => rfl | false => (rw [h] at hb; cases hb))))).mono e1⟩⟩
  have hns : (memberWith S i).isSome = false := by
    cases h : (memberWith S i).isSome with
    | false => rfl
    | true => rw [h] at hb; cases hb
  have st1 := st0.trans (if_neg (by rw [hns]; exact Bool.false_ne_true))
  have hne : ∀ m ∈ S.members, m.id ≠ i := fun m hm z => by
    have : memberWith S i = none := by
      cases h : memberWith S i with
      | none => rfl
      | some _ => rw [h] at hns; cases hns
    have := List.find?_eq_none.mp this m hm
    exact this (by rw [z]; exact beq_self_eq_true i)
  have hF1 := e1.sf hF
  refine ⟨_, rfl, A.p, _, A.dx, _, _, rfl, hF1.obj, T.Store.cl, T.Store_no_members, sF_mem _ _ _, A.ma, _, rfl, .inl (SqL.of hF1.mem), _, _, rfl, rfl, _, _, rfl, fun hv => ?_, fun hv => (qE (-28) (st1.trans (if_pos (by have := of_decide_eq_false hv; rw [List.length_map, lm] at this; show 6 ≤ _; omega)))).mono e1⟩
  have h6 : S.members.length < 6 := by
    have := of_decide_eq_true hv
    rw [List.length_map, lm] at this
    omega
  have st2 := st1.trans (if_neg (by show ¬ 6 ≤ S.members.length; omega))
  refine ⟨_, rfl, A.p, A.dx, _, rfl, hF1.obj, by rfl, _, rfl, A, S, i, rfl, hF1, D.wf, hne, fun H2 A' hF2 hA f2 hfr => ?_⟩
  have lm2 : A'.mems.length = S.members.length + 1 := by
    rw [hF2.ms.length]
    exact insert_len _ _
  refine ⟨_, rfl, A'.p, _, A'.dx, _, _, by rw [hA], hF2.obj, T.Store.cl, T.Store_no_members, sF_mem _ _ _, A'.ma, _, rfl, .inl (SqL.of hF2.mem), (by show 1 ≤ sizeLine; decide), fun o ho => ?_⟩
  have fr : Fr T.Tb A.foot H (upd H2 o (.lst [.int ((A'.mems.map fun m => V.ref m.p).length : Nat)])) := by
    refine Fr.ex ?_ (.new ho)
    exact ⟨fun b u hb nb k => f2.old b u (e1.old b u hb k) nb k, fun t => f2.tab (e1.tab t), fun b h => e1.thr b (f2.thr b h)⟩
  refine q _ _ A' _ (by rw [st2]) ((Ex.new (Tb := T.Tb) ho).sf hF2) hA fr (fun b hb => (hfr b hb).imp id (e1.thr b)) ⟨o, rfl, ?_⟩
  rw [upd_same, st2, List.length_map, lm2]
  rfl
theorem Ex.frx {Tb : List (Addr × Str)} {F : List Addr} {H H1 H' : Hp} (e : Ex Tb H H1) (f : Fr Tb F H1 H') : Fr Tb F H H' :=
  ⟨fun b u hb nb k => f.old b u (e.old b u hb k) nb k, fun t => f.tab (e.tab t), fun b h => e.thr b (f.thr b h)⟩
abbrev R_delete_member : List Nat → List Nat → Call → Prop := fun ns _ c => ∃ i, ns = [i] ∧ c = .deleteMember i

theorem ok_delete_member (T : Txt K mg) : FnOk P w K mg base (L2.CX P w) 9 T.delete_member.f T.delete_member.fd ["store", "numbers", "row"] (DSp T R_delete_member) := by
  refine T.delete_member.F.okX sc_delete_member (fun vs H Q E h => ?_) (fun cdv A outer s H vs Q E hr h => ⟨_, (pss_cons (ps_set (i := 3) sc_delete_member.nd rfl (Or.inl rfl) (pe_call (ok_member_of T) (hr.mono (by decide)) rfl T.member_of.g T.member_of.F.kp T.member_of.b .nil passE (pa_cons (pv 0) (pa_cons (pe_ix ix_list (pv 1) pe_int (fun _ _ => rfl)) pa_nil))))
    (pss_cons (ps_set (i := 4) sc_delete_member.nd rfl (Or.inl rfl) (pe_call (ok_root_of T) (hr.mono (by decide)) rfl T.root_of.g T.root_of.F.kp T.root_of.b .nil pass0 (pa_cons (pe_fld (pv 0) rfl) pa_nil)))
    (pss_cons (ps_expr (pe_meth (pv 0) T.Store.cl T.Store_delete_member.m (ok_Store_delete_member T) (hr.mono (by decide)) T.Store_delete_member.b .nil pass0 (pa_cons (pe_ix ix_list (pv 1) pe_int (fun _ _ => rfl)) pa_nil)))
    (pss_one (ps_ret (pe_op op_cat (pe_op op_cat (pe_lst (pa_cons (pe_callB call_len_seq (by rfl) T.len_ PySem.boot_len (pa_cons (pe_fld (pv 3) rfl) pa_nil)) pa_nil)) (pe_call (ok_halves_of T) (hr.mono (by decide)) rfl T.halves_of.g T.halves_of.F.kp T.halves_of.b .nil pass0 (pa_cons (pv 4) pa_nil))) (pe_call (ok_halves_of T) (hr.mono (by decide)) rfl T.halves_of.g T.halves_of.F.kp T.halves_of.b .nil pass0 (pa_cons (pe_call (ok_root_of T) (hr.mono (by decide)) rfl T.root_of.g T.root_of.F.kp T.root_of.b .nil pass0 (pa_cons (pe_fld (pv 0) rfl) pa_nil)) pa_nil)))))))), ?_⟩)
  · obtain ⟨_, _, _, _, _, _, _, rfl, _⟩ := h
    rfl
  obtain ⟨A, S, n, r, ns, rs, cl, rfl, D, ⟨i, rfl, rfl⟩, q, qE⟩ := h
  obtain ⟨na, rfl, hn⟩ := D.num
  have hF := D.sf
  have W := D.wf
  have st : ∀ o, memberWith S i = o → Kp433.step (some S) (.deleteMember i) = (match o with
    | none => (some S, Kp433.single (-2))
    | some m => (some { S with members := S.members.filter fun x => x.id != i }, Kp433.natResult m.events.length (Kp433.halves (Kp433.root S) ++ Kp433.halves (Kp433.root { S with members := S.members.filter fun x => x.id != i })))) := fun o h => by rw [← h]; rfl
  refine ⟨_, rfl, _, rfl, na, _, _, _, rfl, rfl, SqL.of hn, atI_nat (j := 0) rfl, A, S, i, rfl, hF, W, fun k M m H1 hm hM hk hid hkk hidx e1 => ?_, fun hm => qE (-2) (st _ hm)⟩
  have hF1 := e1.sf hF
  have W6 := W.ms
  refine ⟨_, rfl, A.p, _, A.dx, _, _, rfl, hF1.obj, T.Store.cl, T.Store_no_members, sF_mem _ _ _, _, S.members, rfl, hF1.msr, wf_len W, W6, fun H2 e2 => ?_⟩
  have hF2 := e2.sf hF1
  refine ⟨_, rfl, A.p, A.dx, _, rfl, hF2.obj, by rfl, _, rfl, na, _, _, _, rfl, rfl, SqL.of ((e1.trans e2).lst hn), atI_nat (j := 0) rfl, A, S, i, rfl, hF2, W, fun H3 A' hF3 hA f3 hfr => ?_⟩
  obtain ⟨mm, hmm, rM⟩ := hF2.ms.get hM
  rw [hk] at hmm
  cases hmm
  -- the member that was taken out stands as before
  have hMf : M.p ≠ A.p ∧ M.ea ≠ A.p := by
    obtain ⟨⟨_, _, _, p4⟩, _⟩ := A.split hF.nd
    exact ⟨(p4 _ (mfoot_p (List.mem_of_getElem? hM))).symm, (p4 _ (mfoot_e (List.mem_of_getElem? hM))).symm⟩
  obtain ⟨hMo, ea', xs, e0, hea, hxs⟩ := rM
  cases e0
  have hMo3 := f3.old _ _ hMo (by simpa using hMf.1) (fun _ z => by cases z)
  have hea3 := f3.old _ _ hea (by simpa using hMf.2) (fun _ z => by cases z)
  have lx : xs.length = m.events.length := by rw [hxs.length, List.length_map]
  have W6' : (S.members.filter fun x => x.id != i).length ≤ 6 := Nat.le_trans (List.length_filter_le _ _) W6
  have W7' : ∀ m ∈ S.members.filter fun x => x.id != i, m.events.length ≤ 7 := fun m hm => wf_len W m (List.mem_filter.mp hm).1
  refine ⟨_, rfl, M.p, _, M.dx, _, _, rfl, hMo3, T.Member.cl, T.Member_no_events, mF_ev _ _, M.ea, xs, rfl, .inl (SqL.of hea3), (by show 1 ≤ sizeLine; decide), fun o ho => ?_⟩
  rw [lx]
  have e4 := Ex.new (Tb := T.Tb) (o := .lst [.int (m.events.length : Nat)]) ho
  refine ⟨_, rfl, _, rfl, fun v5 H5 e5 h5 => ?_⟩
  obtain ⟨a5, rfl, ha5⟩ := h5
  refine ⟨o, a5, _, _, rfl, rfl, e5.lst upd_same, ha5, (by rw [List.length_map]; show 1 + 2 ≤ sizeLine; decide), fun o6 ho6 => ?_⟩
  have e6 := Ex.new (Tb := T.Tb) (o := .lst ([.int (m.events.length : Nat)] ++ (Kp433.halves (Kp433.rootFrom 8 (S.members.map Kp433.leafHash))).map nV)) ho6
  have hF6 := ((e4.trans e5).trans e6).sf hF3
  refine ⟨_, rfl, A'.p, _, A'.dx, _, _, by rw [hA], hF6.obj, T.Store.cl, T.Store_no_members, sF_mem _ _ _, _, _, rfl, hF6.msr, W7', W6', fun H7 e7 => ⟨_, rfl, fun v8 H8 e8 h8 => ?_⟩⟩
  obtain ⟨a8, rfl, ha8⟩ := h8
  refine ⟨o6, a8, _, _, rfl, rfl, (e7.trans e8).lst upd_same, ha8, (by rw [List.length_append, List.length_map, List.length_map]; show 1 + 2 + 2 ≤ sizeLine; decide), fun o9 ho9 => ?_⟩
  have e9 := (((e4.trans e5).trans e6).trans (e7.trans e8)).trans (Ex.new (o := .lst ([.int (m.events.length : Nat)] ++ (Kp433.halves (Kp433.rootFrom 8 (S.members.map Kp433.leafHash))).map nV ++ (Kp433.halves (Kp433.rootFrom 8 ((S.members.filter fun x => x.id != i).map Kp433.leafHash))).map nV)) ho9)
  have f3' : Fr T.Tb A.foot H2 H3 := ⟨fun b u hb nb k => f3.old b u hb (fun z => nb (by rw [List.mem_singleton.mp z]; exact List.mem_cons_self)) k, f3.tab, f3.thr⟩
  refine q _ _ A' _ (by rw [st _ hm]) (e9.sf hF3) hA (((e1.trans e2).frx f3').ex e9) (fun b hb => (hfr b hb).imp id ((e1.trans e2).thr b)) ⟨o9, rfl, ?_⟩
  rw [upd_same, st _ hm, root_eq, root_eq]
  show _ = some (HO.lst ((((m.events.length : Int)) :: (Kp433.halves _ ++ Kp433.halves _).map fun x : Nat => (x : Int)).map V.int))
  rw [List.map_cons, List.map_map, List.map_append]
  rfl
abbrev R_add_event : List Nat → List Nat → Call → Prop := fun ns _ c => ∃ id i w, ns = [id, i, w] ∧ c = .addEvent id i w
theorem ok_add_event (T : Txt K mg) : FnOk P w K mg base (L2.CX P w) 6 T.add_event.f T.add_event.fd ["store", "numbers", "row"] (DSp T R_add_event) := by
  refine T.add_event.F.okX sc_add_event (fun vs H Q E h => ?_) (fun cdv A outer s H vs Q E hr h => ⟨_, (pss_cons (ps_asg (pv 1) (pg_unl (by rfl) (pgs_cons (pg_name (i := 3) sc_add_event.nd rfl (Or.inl rfl)) (pgs_cons (pg_name (i := 4) sc_add_event.nd rfl (Or.inl rfl)) (pgs_cons (pg_name (i := 5) sc_add_event.nd rfl (Or.inl rfl)) pgs_nil)))))
    (pss_cons (ps_set (i := 6) sc_add_event.nd rfl (Or.inl rfl) (pe_call (ok_member_of T) (hr.mono (by decide)) rfl T.member_of.g T.member_of.F.kp T.member_of.b .nil passE (pa_cons (pv 0) (pa_cons (pv 3) pa_nil))))
    (pss_cons (ps_expr (pe_call (ok_need_item T) (hr.mono (by decide)) rfl T.need_item.g T.need_item.F.kp T.need_item.b .nil passE (pa_cons (pv 0) (pa_cons (pv 4) pa_nil))))
    (pss_cons (ps_expr (pe_call (ok_ask T) (hr.mono (by decide)) rfl T.ask.g T.ask.F.kp T.ask.b .nil passE (pa_cons (pe_chain op_le op_le pe_int (pv 5) (pe_glob (v := .int (10)) rfl T.GREATEST_WEIGHT.g ⟨_, rfl⟩)) (pa_cons (pe_glob (v := .int (-22)) rfl T.BAD_ARGUMENT.g ⟨_, rfl⟩) pa_nil))))
    (pss_cons (ps_expr (pe_call (ok_ask T) (hr.mono (by decide)) rfl T.ask.g T.ask.F.kp T.ask.b .nil passE (pa_cons (pe_cmpR op_lt (pe_callB call_len_seq (by rfl) T.len_ PySem.boot_len (pa_cons (pe_fld (pv 6) rfl) pa_nil)) (pe_glob (v := .int (7)) rfl T.MOST_EVENTS.g ⟨_, rfl⟩) (nomark _)) (pa_cons (pe_glob (v := .int (-28)) rfl T.FULL.g ⟨_, rfl⟩) pa_nil))))
    (pss_cons (ps_expr (pe_meth (pv 6) T.Member.cl T.Member_add_event.m (ok_Member_add_event T) (hr.mono (by decide)) T.Member_add_event.b .nil pass0 (pa_cons (pv 4) (pa_cons (pv 5) pa_nil))))
    (pss_one (ps_ret (pe_lst (pa_cons (pe_op op_sub (pe_callB call_len_seq (by rfl) T.len_ PySem.boot_len (pa_cons (pe_fld (pv 6) rfl) pa_nil)) pe_int) pa_nil)))))))))), ?_⟩)
  · obtain ⟨_, _, _, _, _, _, _, rfl, _⟩ := h
    rfl
  obtain ⟨A, S, n, r, ns, rs, cl, rfl, D, ⟨id, i, w, rfl, rfl⟩, q, qE⟩ := h
  obtain ⟨na, rfl, hn⟩ := D.num
  have hF := D.sf
  have W := D.wf
  have st : ∀ o, memberWith S id = o → Kp433.step (some S) (.addEvent id i w) = (match o with
    | none => (some S, Kp433.single (-2))
    | some m => if S.items ≤ i then (some S, Kp433.single (-2)) else if w < 1 ∨ 10 < w then (some S, Kp433.single (-22)) else if Kp433.maxEvents ≤ m.events.length then (some S, Kp433.single (-28)) else (some (setEvents S id (m.events ++ [⟨i, w⟩])), Kp433.single (m.events.length : Nat))) := fun o h => by rw [← h]; rfl
  refine ⟨_, rfl, na, _, rfl, SqL.of hn, rfl, _, _, rfl, _, _, rfl, _, _, rfl, rfl, _, rfl, _, rfl, A, S, id, rfl, hF, W, fun k M m H1 hm hM hk hid hkk hidx e1 => ?_, fun hm => qE (-2) (st _ hm)⟩
  have st0 := st _ hm
  have hF1 := e1.sf hF
  refine ⟨_, rfl, _, rfl, A, S, i, rfl, hF1, fun hi => ?_, fun hi => (qE (-2) (st0.trans (if_pos hi))).mono e1⟩
  have st1 := st0.trans (if_neg (by omega))
  -- 1 <= weight <= 10
  refine ⟨_, rfl, _, _, rfl, rfl, _, rfl, ?_⟩
  rcases Nat.lt_or_ge w 1 with c1 | c1
  · rw [decide_eq_false (show ¬ (1 : Int) ≤ (w : Int) by omega)]
    exact iteF ⟨_, _, rfl, fun z => Bool.noConfusion z, fun _ => (qE (-22) (st1.trans (if_pos (.inl c1)))).mono e1⟩
  rw [decide_eq_true (show (1 : Int) ≤ (w : Int) by omega)]
  refine iteT ⟨_, _, rfl, rfl, _, _, rfl, fun hv => ?_, fun hv => (qE (-22) (st1.trans (if_pos (by have := of_decide_eq_false hv; omega)))).mono e1⟩
  have c2 : w ≤ 10 := by have := of_decide_eq_true hv; omega
  have st2 := st1.trans (if_neg (by omega))
  have rM := hF1.ms.get hM
  obtain ⟨mm, hmm, hMo, ea', xs, e0, hea, hxs⟩ := rM
  rw [hk] at hmm
  cases hmm
  cases e0
  have lx : xs.length = m.events.length := by rw [hxs.length, List.length_map]
  refine ⟨_, rfl, M.p, _, M.dx, _, _, rfl, hMo, T.Member.cl, T.Member_no_events, mF_ev _ _, M.ea, xs, rfl, .inl (SqL.of hea), _, _, rfl, rfl, _, _, rfl, fun hv => ?_, fun hv => (qE (-28) (st2.trans (if_pos (by have := of_decide_eq_false hv; show 7 ≤ _; omega)))).mono e1⟩
  have c3 : m.events.length < 7 := by have := of_decide_eq_true hv; omega
  have st3 := st2.trans (if_neg (by show ¬ 7 ≤ _; omega))
  refine ⟨_, rfl, M.p, M.dx, _, rfl, hMo, by rfl, _, rfl, _, rfl, M.p, M.dx, M.ea, m.id, i, w, xs, rfl, hMo, hea, by omega, fun t ht => ?_⟩
  have e2 := Ex.new (Tb := T.Tb) (o := .tup [nV i, nV w]) ht
  have hF3 : SF T (upd (upd H1 t (.tup [nV i, nV w])) M.ea (.lst (xs ++ [.ref t]))) A { S with members := S.members.set k ⟨m.id, m.events ++ [⟨i, w⟩]⟩ } := (e2.sf hF1).setEvs hM hk (e2.lst hea) (by rw [List.map_append]; exact (e2.prs hxs).append (.one ⟨t, rfl, upd_same⟩))
  have f3 : Fr T.Tb A.foot H (upd (upd H1 t (.tup [nV i, nV w])) M.ea (.lst (xs ++ [.ref t]))) := ((e1.trans e2).fr _).upd (SA.mem_e (List.mem_of_getElem? hM)) (e2.lst hea) True.intro
  generalize upd (upd H1 t (.tup [nV i, nV w])) M.ea (.lst (xs ++ [.ref t])) = H3 at hF3 f3 ⊢
  obtain ⟨mm, hmm, hMo3, ea', xs3, e0, hea3, hxs3⟩ := hF3.ms.get hM
  cases e0
  have hmm' : (S.members.set k ⟨m.id, m.events ++ [⟨i, w⟩]⟩)[k]? = some mm := hmm
  rw [List.getElem?_set_self (lt_of_get hk)] at hmm'
  cases hmm'
  have lx3 : xs3.length = m.events.length + 1 := by rw [hxs3.length, List.length_map, List.length_append]; rfl
  refine ⟨_, rfl, M.p, _, M.dx, _, _, rfl, hMo3, T.Member.cl, T.Member_no_events, mF_ev _ _, M.ea, xs3, rfl, .inl (SqL.of hea3), _, _, rfl, rfl, (by show 1 ≤ sizeLine; decide), fun o ho => ?_⟩
  have eS : setEvents S id (m.events ++ [⟨i, w⟩]) = { S with members := S.members.set k ⟨m.id, m.events ++ [⟨i, w⟩]⟩ } := by rw [← hid]; exact setEv_eq W.inc hk _
  rw [eS] at st3
  refine q _ _ A _ (by rw [st3]) ((Ex.new (Tb := T.Tb) ho).sf hF3) rfl (f3.ex (.new ho)) (fun b hb => .inl hb) ⟨o, rfl, ?_⟩
  rw [upd_same, st3, lx3]
  show some (HO.lst [V.int (((m.events.length + 1 : Nat) : Int) - 1)]) = some (HO.lst [V.int ((m.events.length : Nat) : Int)])
  rw [show ((m.events.length + 1 : Nat) : Int) - 1 = ((m.events.length : Nat) : Int) by omega]
abbrev R_remove_event : List Nat → List Nat → Call → Prop := fun ns _ c => ∃ id k, ns = [id, k] ∧ c = .removeEvent id k
theorem ok_remove_event (T : Txt K mg) : FnOk P w K mg base (L2.CX P w) 6 T.remove_event.f T.remove_event.fd ["store", "numbers", "row"] (DSp T R_remove_event) := by
  refine T.remove_event.F.okX sc_remove_event (fun vs H Q E h => ?_) (fun cdv A outer s H vs Q E hr h => ⟨_, (pss_cons (ps_asg (pv 1) (pg_unl (by rfl) (pgs_cons (pg_name (i := 3) sc_remove_event.nd rfl (Or.inl rfl)) (pgs_cons (pg_name (i := 4) sc_remove_event.nd rfl (Or.inl rfl)) pgs_nil))))
    (pss_cons (ps_set (i := 5) sc_remove_event.nd rfl (Or.inl rfl) (pe_call (ok_member_of T) (hr.mono (by decide)) rfl T.member_of.g T.member_of.F.kp T.member_of.b .nil passE (pa_cons (pv 0) (pa_cons (pv 3) pa_nil))))
    (pss_cons (ps_expr (pe_call (ok_need_event T) (hr.mono (by decide)) rfl T.need_event.g T.need_event.F.kp T.need_event.b .nil passE (pa_cons (pv 5) (pa_cons (pv 4) pa_nil))))
    (pss_cons (ps_expr (pe_meth (pv 5) T.Member.cl T.Member_remove_event.m (ok_Member_remove_event T) (hr.mono (by decide)) T.Member_remove_event.b .nil pass0 (pa_cons (pv 4) pa_nil)))
    (pss_one (ps_ret (pe_lst (pa_cons (pe_callB call_len_seq (by rfl) T.len_ PySem.boot_len (pa_cons (pe_fld (pv 5) rfl) pa_nil)) pa_nil)))))))), ?_⟩)
  · obtain ⟨_, _, _, _, _, _, _, rfl, _⟩ := h
    rfl
  obtain ⟨A, S, n, r, ns, rs, cl, rfl, D, ⟨id, i, rfl, rfl⟩, q, qE⟩ := h
  obtain ⟨na, rfl, hn⟩ := D.num
  have hF := D.sf
  have W := D.wf
  have st : ∀ o, memberWith S id = o → Kp433.step (some S) (.removeEvent id i) = (match o with
    | none => (some S, Kp433.single (-2))
    | some m => if m.events.length ≤ i then (some S, Kp433.single (-2)) else (some (setEvents S id (m.events.eraseIdx i)), Kp433.single (m.events.length - 1 : Nat))) := fun o h => by rw [← h]; rfl
  refine ⟨_, rfl, na, _, rfl, SqL.of hn, rfl, _, _, rfl, _, _, rfl, rfl, _, rfl, _, rfl, A, S, id, rfl, hF, W, fun k M m H1 hm hM hk hid hkk hidx e1 => ?_, fun hm => qE (-2) (st _ hm)⟩
  have st0 := st _ hm
  have hF1 := e1.sf hF
  have rM := hF1.ms.get hM
  obtain ⟨mm, hmm, rM⟩ := rM
  rw [hk] at hmm
  cases hmm
  have rMr := rM.r
  refine ⟨_, rfl, _, rfl, _, m, i, rfl, rMr, fun hi => ?_, fun hi => (qE (-2) (st0.trans (if_pos hi))).mono e1⟩
  have st1 := st0.trans (if_neg (by omega))
  obtain ⟨hMo, ea', xs, e0, hea, hxs⟩ := rM
  cases e0
  have lx : xs.length = m.events.length := by rw [hxs.length, List.length_map]
  have l7 := wf_len W m (List.mem_of_getElem? hk)
  refine ⟨_, rfl, M.p, M.dx, _, rfl, hMo, by rfl, _, rfl, M.p, M.dx, M.ea, m.id, i, xs, rfl, hMo, hea, by omega, fun G c e2 nc hc => ?_⟩
  have hcf : c ∉ A.foot := fun z => by
    obtain ⟨o, ho⟩ := foot_tr hF1 c z
    rw [nc] at ho
    cases ho
  have hpl : PL G (.ref c) ((m.events.eraseIdx i).map evP) := by
    refine ⟨c, _, rfl, hc, ?_⟩
    have := (hxs.take i).append (hxs.drop (i + 1))
    rw [← eraseIdx_cut m.events i, List.map_append, List.map_take, List.map_drop]
    exact e2.prs this
  have hF3 := (e2.sf hF1).setEa hM hk hpl hcf
  have f3 : Fr T.Tb A.foot H (upd G M.p (.ins T.Member.C M.dx (mF m.id c))) := ((e1.trans e2).fr _).upd (SA.mem_p (List.mem_of_getElem? hM)) (e2.ins hMo) True.intro
  generalize upd G M.p (.ins T.Member.C M.dx (mF m.id c)) = H3 at hF3 f3 ⊢
  have hM' : (A.mems.set k ⟨M.p, M.dx, c⟩)[k]? = some ⟨M.p, M.dx, c⟩ := List.getElem?_set_self (lt_of_get hM)
  obtain ⟨mm, hmm, hMo3, ea', xs3, e0, hea3, hxs3⟩ := hF3.ms.get hM'
  cases e0
  have hmm' : (S.members.set k ⟨m.id, m.events.eraseIdx i⟩)[k]? = some mm := hmm
  rw [List.getElem?_set_self (lt_of_get hk)] at hmm'
  cases hmm'
  have lx3 : xs3.length = m.events.length - 1 := by rw [hxs3.length, List.length_map, List.length_eraseIdx, if_pos hi]
  refine ⟨_, rfl, M.p, _, M.dx, _, _, rfl, hMo3, T.Member.cl, T.Member_no_events, mF_ev _ _, c, xs3, rfl, .inl (SqL.of hea3), (by show 1 ≤ sizeLine; decide), fun o ho => ?_⟩
  have eS : setEvents S id (m.events.eraseIdx i) = { S with members := S.members.set k ⟨m.id, m.events.eraseIdx i⟩ } := by rw [← hid]; exact setEv_eq W.inc hk _
  rw [eS] at st1
  refine q _ _ _ _ (by rw [st1]) ((Ex.new (Tb := T.Tb) ho).sf hF3) rfl (f3.ex (.new ho)) (fun b hb => ?_) ⟨o, rfl, ?_⟩
  · unfold SA.foot at hb ⊢
    simp only [List.mem_cons, List.mem_append] at hb ⊢
    rcases hb with e | e | e | e | e
    · exact .inl (.inl e)
    · exact .inl (.inr (.inl e))
    · exact .inl (.inr (.inr (.inl e)))
    · exact .inl (.inr (.inr (.inr (.inl e))))
    · rcases mfoot_set hM b e with h | h
      · exact .inl (.inr (.inr (.inr (.inr h))))
      · rw [h]; exact .inr (e1.thr _ nc)
  · rw [upd_same, st1, lx3]
    rfl
end
end FpS
/-! # deeds that tell: events, scores, rankings -/
namespace FpS
open PySem PySem.Spec PyProof.Rows L2
open Kp433 (Store Call Ans memberWith withMember natResult single listResult scoreOf contribution ranking)
theorem flat_nat (ps : List (Nat × Nat)) : flatI (ps.map fun x => ((x.1 : Int), (x.2 : Int))) = (ps.flatMap fun x => [x.1, x.2]).map fun x : Nat => (x : Int) := by
  unfold flatI
  induction ps with
  | nil => rfl
  | cons x ps ih => rw [List.map_cons, List.flatMap_cons, List.flatMap_cons, List.map_append, ih]; rfl
theorem flat_ev (l : List Kp433.Event) : ((l.map evP).flatMap fun x => [x.1, x.2]) = l.flatMap fun e => [e.item, e.weight] := by rw [List.flatMap_map]
theorem flat_rank (l : List Nat) (f : Nat → Nat) : ((l.map fun i => (i, f i)).flatMap fun x => [x.1, x.2]) = l.flatMap fun i => [i, f i] := by rw [List.flatMap_map]
section
variable {K : PySem.W.Frag} {mg : Str → Option Value} {T : Txt K mg} {H : Hp} {A : SA} {S : Store}
theorem SF.at (h : SF T H A S) {k : Nat} {M : MA} {m : Kp433.Member} (hM : A.mems[k]? = some M) (hk : S.members[k]? = some m) : MemA T H M m := by
  obtain ⟨m', hm', r⟩ := h.ms.get hM
  rw [hk] at hm'
  cases hm'
  exact r
theorem ranked_ans {v : V} {l : List (Int × Int)} {ps : List (Nat × Nat)} (hl : l = ps.map fun x => ((x.1 : Int), (x.2 : Int))) (h : IL H v ((l.length : Int) :: flatI l)) : IL H v (ansL (natResult ps.length (ps.flatMap fun x => [x.1, x.2]))) := by
  subst hl
  rw [flat_nat, List.length_map] at h
  exact h
end
theorem inc_gt : ∀ (l : List Nat) (a : Nat), Kp433.increasing l = true → (∀ b, l.head? = some b → a < b) → ∀ x ∈ l, a + 1 ≤ x
  | [], _, _, _, x, hx => by cases hx
  | [b], a, _, h, x, hx => by rw [List.mem_singleton.mp hx]; exact h b rfl
  | b :: c :: r, a, hi, h, x, hx => by
    rw [Kp433.increasing, Bool.and_eq_true, decide_eq_true_eq] at hi
    have hb := h b rfl
    rcases List.mem_cons.mp hx with e | e
    · rw [e]; exact hb
    · exact inc_gt (c :: r) a hi.2 (fun z hz => by cases Option.some.inj hz; omega) x e
/-- an increasing list of numbers below n has no more than n of them -/
theorem inc_len : ∀ (l : List Nat) (lo n : Nat), Kp433.increasing l = true → (∀ x ∈ l, lo ≤ x ∧ x < n) → l.length + lo ≤ max n lo
  | [], lo, n, _, _ => by simp only [List.length_nil]; omega
  | [a], lo, n, _, h => by
    have := h a List.mem_cons_self
    simp only [List.length_cons, List.length_nil]; omega
  | a :: b :: r, lo, n, hi, h => by
    rw [Kp433.increasing, Bool.and_eq_true, decide_eq_true_eq] at hi
    have ha := h a List.mem_cons_self
    have hb := h b (List.mem_cons_of_mem _ List.mem_cons_self)
    have gt : ∀ x ∈ b :: r, a + 1 ≤ x ∧ x < n := fun x hx => ⟨inc_gt (b :: r) a hi.2 (by simpa using hi.1) x hx, (h x (List.mem_cons_of_mem _ hx)).2⟩
    have ih := inc_len (b :: r) (a + 1) n hi.2 gt
    rw [List.length_cons]
    omega
theorem inc_small {n : Nat} {l : List Nat} (h : (l.all (fun k => decide (k < n)) && Kp433.increasing l) = true) : l.length ≤ n := by
  rw [Bool.and_eq_true] at h
  have := inc_len l 0 n h.2 fun x hx => ⟨Nat.zero_le _, of_decide_eq_true (List.all_eq_true.mp h.1 x hx)⟩
  omega
section
variable {P : Program} {w : World} {K : PySem.W.Frag} {mg : Str → Option Value} {base : Heap}
abbrev R_tell_events : List Nat → List Nat → Call → Prop := fun ns _ c => ∃ i, ns = [i] ∧ c = .events i
theorem ok_tell_events (T : Txt K mg) : FnOk P w K mg base (L2.CX P w) 6 T.tell_events.f T.tell_events.fd ["store", "numbers", "row"] (DSp T R_tell_events) := by
  refine T.tell_events.F.okX sc_tell_events (fun vs H Q E h => ?_) (fun cdv A outer s H vs Q E hr h => ⟨_, (pss_one (ps_ret (pe_call (ok_listed T) (hr.mono (by decide)) rfl T.listed.g T.listed.F.kp T.listed.b .nil pass0 (pa_cons (pe_fld (pe_call (ok_member_of T) (hr.mono (by decide)) rfl T.member_of.g T.member_of.F.kp T.member_of.b .nil passE (pa_cons (pv 0) (pa_cons (pe_ix ix_list (pv 1) pe_int (fun _ _ => rfl)) pa_nil))) rfl) pa_nil)))), ?_⟩)
  · obtain ⟨_, _, _, _, _, _, _, rfl, _⟩ := h
    rfl
  obtain ⟨A, S, n, r, ns, rs, cl, rfl, D, ⟨i, rfl, rfl⟩, q, qE⟩ := h
  obtain ⟨na, rfl, hn⟩ := D.num
  have hF := D.sf
  have W := D.wf
  have st : Kp433.step (some S) (.events i) = (some S, withMember S i fun m => natResult m.events.length (m.events.flatMap fun e => [e.item, e.weight])) := rfl
  refine ⟨_, rfl, _, rfl, na, _, _, _, rfl, rfl, SqL.of hn, atI_nat (j := 0) rfl, A, S, i, rfl, hF, W, fun k M m H1 hm hM hk hid hkk hidx e1 => ?_, fun hm => qE (-2) (st.trans (by rw [wm_none hm]))⟩
  have l7 := wf_len W m (List.mem_of_getElem? hk)
  obtain ⟨hMo, ea', xs, e0, hea, hxs⟩ := (e1.sf hF).at hM hk
  cases e0
  refine ⟨M.p, _, M.dx, _, _, rfl, hMo, T.Member.cl, T.Member_no_events, mF_ev _ _, M.ea, xs, _, rfl, hea, prI_of hxs, by rw [List.length_map, List.length_map]; omega, fun v H2 e2 hv => ?_⟩
  have hv' := ranked_ans rfl hv
  rw [List.length_map, flat_ev] at hv'
  exact q.same hF (st.trans (by rw [wm_some hm])) (e1.trans e2) hv'
abbrev R_tell_scores : List Nat → List Nat → Call → Prop := fun ns _ c => ∃ i, ns = [i] ∧ c = .scores i
theorem ok_tell_scores (T : Txt K mg) : FnOk P w K mg base (L2.CX P w) 6 T.tell_scores.f T.tell_scores.fd ["store", "numbers", "row"] (DSp T R_tell_scores) := by
  refine T.tell_scores.F.okX sc_tell_scores (fun vs H Q E h => ?_) (fun cdv A outer s H vs Q E hr h => ⟨_, (pss_cons (ps_set (i := 3) sc_tell_scores.nd rfl (Or.inr rfl) (pe_call (ok_member_of T) (hr.mono (by decide)) rfl T.member_of.g T.member_of.F.kp T.member_of.b .nil passE (pa_cons (pv 0) (pa_cons (pe_ix ix_list (pv 1) pe_int (fun _ _ => rfl)) pa_nil))))
    (pss_one (ps_ret (pe_op op_cat (pe_lst (pa_cons (pe_fld (pv 0) rfl) pa_nil)) (by exact (pe_lc (own := [("item", 4)]) (by rfl) sc_tell_scores.nd (pi_range1 (by rfl) T.range_ (pa_cons (pe_fld (pv 0) rfl) pa_nil)) (blkOk_by (own := [("item", 4)]) (N := N_tell_scores) (sc := defScope s_tell_scores) (by decide +kernel)) (fun _ _ _ _ _ => (pg_name (i := 4) sc_tell_scores.nd rfl (Or.inl rfl))) (fun _ _ _ _ _ => pts_nil) (fun _ _ _ _ _ => (pe_call (ok_score_of T) (hr.mono (by decide)) rfl T.score_of.g T.score_of.F.kp T.score_of.b .nil pass0 (pa_cons (pv 0) (pa_cons (pe_fldK K rfl (pv 3) rfl) (pa_cons (pv 4) pa_nil))))))))))), ?_⟩)
  · obtain ⟨_, _, _, _, _, _, _, rfl, _⟩ := h
    rfl
  obtain ⟨A, S, n, r, ns, rs, cl, rfl, D, ⟨i, rfl, rfl⟩, q, qE⟩ := h
  obtain ⟨na, rfl, hn⟩ := D.num
  have hF := D.sf
  have W := D.wf
  have st : Kp433.step (some S) (.scores i) = (some S, withMember S i fun m => listResult ((List.range S.items).map (scoreOf S m.events))) := rfl
  refine ⟨_, rfl, _, rfl, na, _, _, _, rfl, rfl, SqL.of hn, atI_nat (j := 0) rfl, A, S, i, rfl, hF, W, fun k M m H1 hm hM hk hid hkk hidx e1 => ?_, fun hm => qE (-2) (st.trans (by rw [wm_none hm]))⟩
  have l7 := wf_len W m (List.mem_of_getElem? hk)
  have wm := W.mem m (List.mem_of_getElem? hk)
  have hF1 := e1.sf hF
  have i6 := W.hi
  refine ⟨_, rfl, A.p, _, A.dx, _, _, rfl, hF1.obj, T.Store.cl, T.Store_no_items_many, sF_items _ _ _, (by show 1 ≤ sizeLine; decide), fun o ho => ?_⟩
  have e2 := Ex.new (Tb := T.Tb) (o := .lst [nV S.items]) ho
  have hF2 := e2.sf hF1
  refine ⟨_, rfl, A.p, _, A.dx, _, _, rfl, hF2.obj, T.Store.cl, T.Store_no_items_many, sF_items _ _ _, _, rfl, by omega, by omega, fun D1 hD1 => lc_ex (walk_range (lo := 0) (n := ((S.items : Nat) : Int).toNat)) (Tb := T.Tb) (fun j acc G => acc = ((List.range j).map (scoreOf S m.events)).map nV) (by rw [Int.toNat_natCast]; exact Nat.lt_of_le_of_lt i6 (by decide)) hD1 (fun _ _ => True.intro) rfl ?_ ?_⟩
  · rintro j x acc G H' Nx hj eG gD rfl ⟨rfl, hx⟩ kY kN
    rw [Int.toNat_natCast] at hj
    have ej : x = nV j := by rw [hx]; show V.int (0 + ((j : Nat) : Int)) = _; rw [Int.zero_add]
    subst ej
    have hF3 := (eG.trans (Ex.new (o := .lst (((List.range j).map (scoreOf S m.events)).map nV)) gD)).sf hF2
    have rM := hF3.at hM hk
    refine ⟨rfl, _, rfl, _, rfl, M.p, _, M.dx, _, _, rfl, rM.1, T.Member.cl, T.Member_no_events, mF_ev _ _, _, rfl, _, _, S, m.events, j, rfl, hF3.st, rM.2, W, hj, wm.evs, fun H4 e4 => kY _ _ e4 fun G' _ _ _ => ?_⟩
    rw [List.range_succ, List.map_append, List.map_append]
    rfl
  · rintro acc G eG gD rfl
    rw [Int.toNat_natCast]
    have e3 := eG.trans (Ex.new (o := .lst (((List.range S.items).map (scoreOf S m.events)).map nV)) gD)
    refine ⟨o, D1, _, _, rfl, rfl, e3.lst upd_same, upd_same, ?_, fun c hc => ?_⟩
    · simp only [List.length_map, List.length_range, List.length_singleton]
      exact Nat.le_trans (show 1 + S.items ≤ 7 by omega) (by decide)
    · refine q.same hF (st.trans (by rw [wm_some hm])) (e1.trans (e2.trans (e3.trans (.new hc)))) (lst_ans ⟨c, rfl, ?_⟩)
      rw [upd_same, List.length_map, List.length_range]
      rfl
abbrev R_recommend : List Nat → List Nat → Call → Prop := fun ns _ c => ∃ i k, ns = [i, k] ∧ c = .recommend i k
theorem ok_recommend (T : Txt K mg) (B : Bs T base) : FnOk P w K mg base (L2.CX P w) 10 T.recommend.f T.recommend.fd ["store", "numbers", "row"] (DSp T R_recommend) := by
  refine T.recommend.F.okX sc_recommend (fun vs H Q E h => ?_) (fun cdv A outer s H vs Q E hr h => ⟨_, (pss_cons (ps_asg (pv 1) (pg_unl (by rfl) (pgs_cons (pg_name (i := 3) sc_recommend.nd rfl (Or.inl rfl)) (pgs_cons (pg_name (i := 4) sc_recommend.nd rfl (Or.inl rfl)) pgs_nil))))
    (pss_cons (ps_set (i := 5) sc_recommend.nd rfl (Or.inl rfl) (pe_call (ok_member_of T) (hr.mono (by decide)) rfl T.member_of.g T.member_of.F.kp T.member_of.b .nil passE (pa_cons (pv 0) (pa_cons (pv 3) pa_nil))))
    (pss_one (ps_ret (pe_call (ok_listed T) (hr.mono (by decide)) rfl T.listed.g T.listed.F.kp T.listed.b .nil pass0 (pa_cons (pe_slice sl_list (pe_call (ok_ranking_by T B) (hr.mono (by decide)) rfl T.ranking_by.g T.ranking_by.F.kp T.ranking_by.b .nil pass0 (pa_cons (pv 0) (pa_cons (pe_fld (pv 5) rfl) (pa_cons (pe_fld (pv 5) rfl) pa_nil)))) po_none (po_some (pv 4))) pa_nil)))))), ?_⟩)
  · obtain ⟨_, _, _, _, _, _, _, rfl, _⟩ := h
    rfl
  obtain ⟨A, S, n, r, ns, rs, cl, rfl, D, ⟨i, cnt, rfl, rfl⟩, q, qE⟩ := h
  obtain ⟨na, rfl, hn⟩ := D.num
  have hF := D.sf
  have W := D.wf
  have st : Kp433.step (some S) (.recommend i cnt) = (some S, withMember S i fun m => natResult ((ranking S m.events m.events).take cnt).length (((ranking S m.events m.events).take cnt).flatMap fun j => [j, scoreOf S m.events j])) := rfl
  refine ⟨_, rfl, na, _, rfl, SqL.of hn, rfl, _, _, rfl, _, _, rfl, rfl, _, rfl, _, rfl, A, S, i, rfl, hF, W, fun k M m H1 hm hM hk hid hkk hidx e1 => ?_, fun hm => qE (-2) (st.trans (by rw [wm_none hm]))⟩
  have wm := W.mem m (List.mem_of_getElem? hk)
  have l7 := wm.len
  have hF1 := e1.sf hF
  have rM := hF1.at hM hk
  refine ⟨_, rfl, _, rfl, M.p, _, M.dx, _, _, rfl, rM.1, T.Member.cl, T.Member_no_events, mF_ev _ _, _, rfl, M.p, _, M.dx, _, _, rfl, rM.1, T.Member.cl, T.Member_no_events, mF_ev _ _, _, _, _, S, m.events, m.events, rfl, hF1.st, rM.2, rM.2, W, by omega, wm.evs, e1.tab D.tab, fun v H2 e2 hv => ?_⟩
  obtain ⟨p, xs, rfl, hp, hxs⟩ := hv
  refine ⟨_, rfl, _, rfl, p, xs, rfl, SqL.of hp, fun o ho => ?_⟩
  rw [cut_to]
  have e3 := Ex.new (Tb := T.Tb) (o := .lst (xs.take cnt)) ho
  have hl : (rankP S m.events m.events).length ≤ 6 := by rw [rankP_len]; exact Nat.le_trans (ranking_len _ _ _) W.hi
  refine ⟨o, _, _, rfl, upd_same, prI_of (e3.prs (hxs.take cnt)), by rw [List.length_map, List.length_take]; omega, fun v H3 e4 hv => ?_⟩
  have hv' := ranked_ans rfl hv
  unfold rankP at hv'
  rw [← List.map_take, List.length_map, flat_rank] at hv'
  exact q.same hF (st.trans (by rw [wm_some hm])) (e1.trans (e2.trans (e3.trans e4))) hv'
abbrev R_tell_contributions : List Nat → List Nat → Call → Prop := fun ns _ c => ∃ i k, ns = [i, k] ∧ c = .contributions i k
theorem ok_tell_contributions (T : Txt K mg) : FnOk P w K mg base (L2.CX P w) 6 T.tell_contributions.f T.tell_contributions.fd ["store", "numbers", "row"] (DSp T R_tell_contributions) := by
  refine T.tell_contributions.F.okX sc_tell_contributions (fun vs H Q E h => ?_) (fun cdv A outer s H vs Q E hr h => ⟨_, (pss_cons (ps_asg (pv 1) (pg_unl (by rfl) (pgs_cons (pg_name (i := 3) sc_tell_contributions.nd rfl (Or.inl rfl)) (pgs_cons (pg_name (i := 4) sc_tell_contributions.nd rfl (Or.inr rfl)) pgs_nil))))
    (pss_cons (ps_set (i := 5) sc_tell_contributions.nd rfl (Or.inl rfl) (pe_call (ok_member_of T) (hr.mono (by decide)) rfl T.member_of.g T.member_of.F.kp T.member_of.b .nil passE (pa_cons (pv 0) (pa_cons (pv 3) pa_nil))))
    (pss_cons (ps_expr (pe_call (ok_need_item T) (hr.mono (by decide)) rfl T.need_item.g T.need_item.F.kp T.need_item.b .nil passE (pa_cons (pv 0) (pa_cons (pv 4) pa_nil))))
    (pss_one (ps_ret (pe_op op_cat (pe_lst (pa_cons (pe_callB call_len_seq (by rfl) T.len_ PySem.boot_len (pa_cons (pe_fld (pv 5) rfl) pa_nil)) pa_nil)) (by exact (pe_lc (own := [("event", 6)]) (by rfl) sc_tell_contributions.nd (pi_list (pe_fld (pv 5) rfl)) (blkOk_by (own := [("event", 6)]) (N := N_tell_contributions) (sc := defScope s_tell_contributions) (by decide +kernel)) (fun _ _ _ _ _ => (pg_name (i := 6) sc_tell_contributions.nd rfl (Or.inl rfl))) (fun _ _ _ _ _ => pts_nil) (fun _ _ _ _ _ => (pe_call (ok_contribution_of T) (hr.mono (by decide)) rfl T.contribution_of.g T.contribution_of.F.kp T.contribution_of.b .nil pass0 (pa_cons (pv 0) (pa_cons (pv 6) (pa_cons (pv 4) pa_nil))))))))))))), ?_⟩)
  · obtain ⟨_, _, _, _, _, _, _, rfl, _⟩ := h
    rfl
  obtain ⟨A, S, n, r, ns, rs, cl, rfl, D, ⟨i, it, rfl, rfl⟩, q, qE⟩ := h
  obtain ⟨na, rfl, hn⟩ := D.num
  have hF := D.sf
  have W := D.wf
  have st : Kp433.step (some S) (.contributions i it) = (some S, withMember S i fun m => if S.items ≤ it then single (-2) else listResult (m.events.map (contribution S it))) := rfl
  refine ⟨_, rfl, na, _, rfl, SqL.of hn, rfl, _, _, rfl, _, _, rfl, rfl, _, rfl, _, rfl, A, S, i, rfl, hF, W, fun k M m H1 hm hM hk hid hkk hidx e1 => ?_, fun hm => qE (-2) (st.trans (by rw [wm_none hm]))⟩
  have wm := W.mem m (List.mem_of_getElem? hk)
  have l7 := wm.len
  have hF1 := e1.sf hF
  obtain ⟨hMo, ea', xs, e0, hea, hxs⟩ := hF1.at hM hk
  cases e0
  have lx : xs.length = m.events.length := by rw [hxs.length, List.length_map]
  refine ⟨_, rfl, _, rfl, A, S, it, rfl, hF1, fun hi => ?_, fun hi => (qE (-2) (st.trans (by rw [wm_some hm, if_pos hi]))).mono e1⟩
  refine ⟨_, rfl, M.p, _, M.dx, _, _, rfl, hMo, T.Member.cl, T.Member_no_events, mF_ev _ _, M.ea, xs, rfl, .inl (SqL.of hea), (by show 1 ≤ sizeLine; decide), fun o ho => ?_⟩
  rw [lx]
  have e2 := Ex.new (Tb := T.Tb) (o := .lst [.int (m.events.length : Nat)]) ho
  refine ⟨_, rfl, M.p, _, M.dx, _, _, rfl, e2.ins hMo, T.Member.cl, T.Member_no_events, mF_ev _ _, M.ea, rfl, ⟨_, SqL.of (e2.lst hea)⟩, fun D1 hD1 => lc_ex (walk_list (K := K) (a := M.ea) (xs := xs)) (Tb := T.Tb) (fun j acc G => acc = ((m.events.take j).map (contribution S it)).map nV) (by rw [lx]; exact small1000 (by omega)) hD1 (fun H' e => SqL.of (e.lst (e2.lst hea))) rfl ?_ ?_⟩
  · rintro j x acc G H' Nx hj eG gD rfl ⟨rfl, hx⟩ kY kN
    have eH := e2.trans (eG.trans (Ex.new (o := .lst (((m.events.take j).map (contribution S it)).map nV)) gD))
    obtain ⟨pr, hpr, r2⟩ := hxs.get hx
    obtain ⟨e, he, rfl⟩ := map_get hpr
    have hem := wm.evs.2 e (List.mem_of_getElem? he)
    refine ⟨rfl, _, rfl, _, rfl, _, rfl, _, _, S, e, it, rfl, (eH.sf hF1).st, eH.prv r2, W, hi, hem.1, hem.2, kY _ _ (.refl _) fun G' _ _ _ => ?_⟩
    rw [tk he, List.map_append, List.map_append]
    rfl
  · rintro acc G eG gD rfl
    rw [lx, List.take_length]
    have e3 := eG.trans (Ex.new (o := .lst ((m.events.map (contribution S it)).map nV)) gD)
    refine ⟨o, D1, _, _, rfl, rfl, e3.lst upd_same, upd_same, ?_, fun c hc => ?_⟩
    · simp only [List.length_map, List.length_singleton]
      exact Nat.le_trans (show 1 + m.events.length ≤ 8 by omega) (by decide)
    · refine q.same hF (st.trans (by rw [wm_some hm, if_neg (by omega)])) (e1.trans (e2.trans (e3.trans (.new hc)))) (lst_ans ⟨c, rfl, ?_⟩)
      rw [upd_same, List.length_map]
      rfl
abbrev R_what_if : List Nat → List Nat → Call → Prop := fun ns rs c => ∃ i, ns = [i] ∧ c = .whatIf i rs
theorem ok_what_if (T : Txt K mg) (B : Bs T base) : FnOk P w K mg base (L2.CX P w) 10 T.what_if.f T.what_if.fd ["store", "numbers", "row"] (DSp T R_what_if) := by
  refine T.what_if.F.okX sc_what_if (fun vs H Q E h => ?_) (fun cdv A outer s H vs Q E hr h => ⟨_, (pss_cons (ps_set (i := 3) sc_what_if.nd rfl (Or.inl rfl) (pe_call (ok_member_of T) (hr.mono (by decide)) rfl T.member_of.g T.member_of.F.kp T.member_of.b .nil passE (pa_cons (pv 0) (pa_cons (pe_ix ix_list (pv 1) pe_int (fun _ _ => rfl)) pa_nil))))
    (pss_cons (ps_expr (pe_call (ok_ask T) (hr.mono (by decide)) rfl T.ask.g T.ask.F.kp T.ask.b .nil passE (pa_cons (pe_call (ok_are_positions T) (hr.mono (by decide)) rfl T.are_positions.g T.are_positions.F.kp T.are_positions.b .nil pass0 (pa_cons (pv 3) (pa_cons (pv 2) pa_nil))) (pa_cons (pe_glob (v := .int (-22)) rfl T.BAD_ARGUMENT.g ⟨_, rfl⟩) pa_nil))))
    (pss_one (ps_ret (pe_call (ok_listed T) (hr.mono (by decide)) rfl T.listed.g T.listed.F.kp T.listed.b .nil pass0 (pa_cons (pe_call (ok_ranking_by T B) (hr.mono (by decide)) rfl T.ranking_by.g T.ranking_by.F.kp T.ranking_by.b .nil pass0 (pa_cons (pv 0) (pa_cons (pe_fld (pv 3) rfl) (pa_cons (pe_call (ok_events_at T) (hr.mono (by decide)) rfl T.events_at.g T.events_at.F.kp T.events_at.b .nil pass0 (pa_cons (pe_fld (pv 3) rfl) (pa_cons (pv 2) pa_nil))) pa_nil)))) pa_nil)))))), ?_⟩)
  · obtain ⟨_, _, _, _, _, _, _, rfl, _⟩ := h
    rfl
  obtain ⟨A, S, n, r, ns, rs, cl, rfl, D, ⟨i, rfl, rfl⟩, q, qE⟩ := h
  obtain ⟨na, rfl, hn⟩ := D.num
  have hF := D.sf
  have W := D.wf
  have hrl := D.rl
  have st : Kp433.step (some S) (.whatIf i rs) = (some S, withMember S i fun m => if (rs.all (fun k => decide (k < m.events.length)) && Kp433.increasing rs) = false then single (-22) else
      natResult (ranking S m.events (Kp433.part m.events rs)).length ((ranking S m.events (Kp433.part m.events rs)).flatMap fun j => [j, scoreOf S (Kp433.part m.events rs) j])) := rfl
  refine ⟨_, rfl, _, rfl, na, _, _, _, rfl, rfl, SqL.of hn, atI_nat (j := 0) rfl, A, S, i, rfl, hF, W, fun k M m H1 hm hM hk hid hkk hidx e1 => ?_, fun hm => qE (-2) (st.trans (by rw [wm_none hm]))⟩
  have wm := W.mem m (List.mem_of_getElem? hk)
  have l7 := wm.len
  have hF1 := e1.sf hF
  have hr1 := e1.nl D.row
  refine ⟨_, rfl, _, rfl, _, r, m, rs, rfl, (hF1.at hM hk).r, hr1, by omega, fun H2 e2 => ⟨_, _, rfl, fun hb => ?_, fun hb => (qE (-22) (st.trans (by rw [wm_some hm, if_pos hb]))).mono (e1.trans e2)⟩⟩
  have hF2 := e2.sf hF1
  have rM := hF2.at hM hk
  have hlt : ∀ j ∈ rs, j < m.events.length := fun j hj => by
    rw [Bool.and_eq_true] at hb
    exact of_decide_eq_true (List.all_eq_true.mp hb.1 j hj)
  have pl : (Kp433.part m.events rs).length ≤ 8 := by
    have h1 := inc_small hb
    exact Nat.le_trans (part_len _ _) (by omega)
  refine ⟨_, rfl, _, rfl, M.p, _, M.dx, _, _, rfl, rM.1, T.Member.cl, T.Member_no_events, mF_ev _ _, _, rfl, M.p, _, M.dx, _, _, rfl, rM.1, T.Member.cl, T.Member_no_events, mF_ev _ _, _, rfl, _, r, m.events, rs, rfl, rM.2, e2.nl hr1, hlt, by omega, fun v3 H3 e3 h3 => ?_⟩
  have hF3 := e3.sf hF2
  refine ⟨_, _, v3, S, m.events, Kp433.part m.events rs, rfl, hF3.st, e3.pl rM.2, h3, W, by omega, ⟨pl, fun e he => wm.evs.2 e (part_mem he)⟩, ((e1.trans e2).trans e3).tab D.tab, fun v H4 e4 hv => ?_⟩
  obtain ⟨p, xs, rfl, hp, hxs⟩ := hv
  have hl : (rankP S m.events (Kp433.part m.events rs)).length ≤ 6 := by rw [rankP_len]; exact Nat.le_trans (ranking_len _ _ _) W.hi
  refine ⟨p, xs, _, rfl, hp, prI_of hxs, by rw [List.length_map]; omega, fun v H5 e5 hv => ?_⟩
  have hv' := ranked_ans rfl hv
  unfold rankP at hv'
  rw [List.length_map, flat_rank] at hv'
  exact q.same hF (st.trans (by rw [wm_some hm, if_neg (by rw [hb]; exact Bool.noConfusion)])) ((e1.trans e2).trans (e3.trans (e4.trans e5))) hv'
end
end FpS
/-! # deeds that explain -/
namespace FpS
open PySem PySem.Spec PyProof.Rows L2
open Kp433 (Store Call Ans memberWith withMember natResult single listResult scoreOf contribution ranking first optionNumber)
theorem single_ans {H : Hp} {p : Addr} {n : Nat} (h : H p = some (.lst [nV n])) : IL H (.ref p) (ansL (single (n : Nat))) := ⟨p, rfl, h⟩
theorem margin_val {s : Store} {l : List Kp433.Event} : ∀ {i j : Nat} {r : List Nat}, ranking s l l = i :: j :: r → scoreOf s l j ≤ scoreOf s l i := fun {i j r} h => by
  have := ranking_sorted s l l
  rw [h, List.pairwise_cons] at this
  have := this.1 j List.mem_cons_self
  unfold Ahead at this
  omega
section
variable {P : Program} {w : World} {K : PySem.W.Frag} {mg : Str → Option Value} {base : Heap}
abbrev R_margin : List Nat → List Nat → Call → Prop := fun ns _ c => ∃ i, ns = [i] ∧ c = .margin i
theorem ok_margin (T : Txt K mg) (B : Bs T base) : FnOk P w K mg base (L2.CX P w) 10 T.margin.f T.margin.fd ["store", "numbers", "row"] (DSp T R_margin) := by
  refine T.margin.F.okX sc_margin (fun vs H Q E h => ?_) (fun cdv A outer s H vs Q E hr h => ⟨_, (pss_cons (ps_set (i := 3) sc_margin.nd rfl (Or.inl rfl) (pe_call (ok_member_of T) (hr.mono (by decide)) rfl T.member_of.g T.member_of.F.kp T.member_of.b .nil passE (pa_cons (pv 0) (pa_cons (pe_ix ix_list (pv 1) pe_int (fun _ _ => rfl)) pa_nil))))
    (pss_cons (ps_set (i := 4) sc_margin.nd rfl (Or.inl rfl) (pe_call (ok_ranking_by T B) (hr.mono (by decide)) rfl T.ranking_by.g T.ranking_by.F.kp T.ranking_by.b .nil pass0 (pa_cons (pv 0) (pa_cons (pe_fld (pv 3) rfl) (pa_cons (pe_fld (pv 3) rfl) pa_nil)))))
    (pss_cons (ps_expr (pe_call (ok_ask T) (hr.mono (by decide)) rfl T.ask.g T.ask.F.kp T.ask.b .nil passE (pa_cons (pe_cmpR (op_neE hr.units0) (pv 4) (pe_lst pa_nil) (nomark _)) (pa_cons (pe_glob (v := .int (-33)) rfl T.NONE_SUCH.g ⟨_, rfl⟩) pa_nil))))
    (pss_one (ps_ret (pe_lst (pa_cons (pe_op op_sub (pe_ix ix_tup (pe_ix ix_list (pv 4) pe_int (fun _ _ => rfl)) pe_int (fun _ _ => rfl)) (pe_ifExp (pt_cmpR op_gt (pe_callB call_len_seq (by rfl) T.len_ PySem.boot_len (pa_cons (pv 4) pa_nil)) pe_int (nomark _)) (pe_ix ix_tup (pe_ix ix_list (pv 4) pe_int (fun _ _ => rfl)) pe_int (fun _ _ => rfl)) pe_int)) pa_nil))))))), ?_⟩)
  · obtain ⟨_, _, _, _, _, _, _, rfl, _⟩ := h
    rfl
  obtain ⟨A, S, n, r, ns, rs, cl, rfl, D, ⟨i, rfl, rfl⟩, q, qE⟩ := h
  obtain ⟨na, rfl, hn⟩ := D.num
  have hF := D.sf
  have W := D.wf
  have st : Kp433.step (some S) (.margin i) = (some S, withMember S i fun m => if (first S m.events m.events).isNone then single (-33) else single (Kp433.margin S m.events : Nat)) := rfl
  refine ⟨_, rfl, _, rfl, na, _, _, _, rfl, rfl, SqL.of hn, atI_nat (j := 0) rfl, A, S, i, rfl, hF, W, fun k M m H1 hm hM hk hid hkk hidx e1 => ?_, fun hm => qE (-2) (st.trans (by rw [wm_none hm]))⟩
  have wm := W.mem m (List.mem_of_getElem? hk)
  have l7 := wm.len
  have hF1 := e1.sf hF
  have rM := hF1.at hM hk
  refine ⟨_, rfl, _, rfl, M.p, _, M.dx, _, _, rfl, rM.1, T.Member.cl, T.Member_no_events, mF_ev _ _, _, rfl, M.p, _, M.dx, _, _, rfl, rM.1, T.Member.cl, T.Member_no_events, mF_ev _ _, _, _, _, S, m.events, m.events, rfl, hF1.st, rM.2, rM.2, W, by omega, wm.evs, e1.tab D.tab, fun v H2 e2 hv => ?_⟩
  obtain ⟨p, xs, rfl, hp, hxs⟩ := hv
  refine ⟨_, rfl, Nat.zero_le _, fun b hb => ⟨p, b, xs, rfl, rfl, SqL.of ((Ex.new (Tb := T.Tb) hb).lst hp), upd_same, _, _, rfl, fun hc => ?_, fun hc => ?_⟩⟩
  · have e3 := Ex.new (Tb := T.Tb) (o := .lst []) hb
    have hp3 := e3.lst hp
    have hx3 := e3.prs hxs
    have eA := e1.trans (e2.trans e3)
    generalize upd H2 b (.lst []) = H3 at e3 hp3 hx3 eA ⊢
    unfold rankP at hx3
    have fin : ∀ z : Int, z = (Kp433.margin S m.events : Nat) → ranking S m.events m.events ≠ [] → ∀ o, H3 o = none → Q (.ref o) (upd H3 o (.lst [.int z])) := fun z hz hne o ho => by
      have hfi : (first S m.events m.events).isNone = false := by
        unfold first
        cases hh : ranking S m.events m.events with
        | nil => exact absurd hh hne
        | cons _ _ => rfl
      refine q.same hF (st.trans (by rw [wm_some hm, if_neg (by rw [hfi]; exact Bool.noConfusion)])) (eA.trans (.new ho)) (single_ans ?_)
      rw [upd_same, hz]
    cases hr1 : ranking S m.events m.events with
    | nil =>
      rw [hr1] at hx3
      cases hx3
      cases hc
    | cons i1 r1 =>
      rw [hr1] at hx3 fin
      cases hx3 with
      | @cons x1 _ xs1 _ rx1 hx4 =>
        obtain ⟨t1, rfl, ht1⟩ := rx1
        refine ⟨_, rfl, p, _, _, _, rfl, rfl, SqL.of hp3, atI_nat (j := 0) rfl, t1, _, _, _, rfl, rfl, SqT.of ht1, atI_nat (j := 1) rfl, _, rfl, p, _, rfl, .inl (SqL.of hp3), _, _, rfl, rfl, _, rfl, ?_⟩
        cases hr2 : r1 with
        | nil =>
          rw [hr2] at hx4
          cases hx4
          refine iteF ⟨_, _, rfl, rfl, (by show 1 ≤ sizeLine; decide), fun o ho => ?_⟩
          refine fin _ ?_ (by simp) o ho
          show ((scoreOf S m.events i1 : Nat) : Int) - 0 = _
          unfold Kp433.margin
          rw [hr1, hr2, Int.sub_zero]
        | cons i2 r2 =>
          rw [hr2] at hx4
          cases hx4 with
          | @cons x2 _ xs2 _ rx2 hx5 =>
            obtain ⟨t2, rfl, ht2⟩ := rx2
            rw [decide_eq_true (show (1 : Int) < ((V.ref t1 :: V.ref t2 :: xs2).length : Nat) by simp only [List.length_cons]; omega)]
            refine iteT ⟨_, rfl, p, _, _, _, rfl, rfl, SqL.of hp3, atI_nat (j := 1) rfl, t2, _, _, _, rfl, rfl, SqT.of ht2, atI_nat (j := 1) rfl, _, _, rfl, rfl, (by show 1 ≤ sizeLine; decide), fun o ho => ?_⟩
            refine fin _ ?_ (by simp) o ho
            have le := margin_val (s := S) (l := m.events) (hr1.trans (by rw [hr2]))
            show ((scoreOf S m.events i1 : Nat) : Int) - ((scoreOf S m.events i2 : Nat) : Int) = _
            unfold Kp433.margin
            rw [hr1, hr2]
            show _ = ((scoreOf S m.events i1 - scoreOf S m.events i2 : Nat) : Int)
            omega
  · have hfi : (first S m.events m.events).isNone = true := by
      unfold first
      cases hh : ranking S m.events m.events with
      | nil => rfl
      | cons _ _ =>
        unfold rankP at hxs
        rw [hh] at hxs
        cases hxs
        cases hc
    exact (qE (-33) (st.trans (by rw [wm_some hm, if_pos hfi]))).mono ((e1.trans e2).trans (.new hb))
theorem first_none {o : Option Nat} (h : o = none) : o.isNone = true := by rw [h]; rfl
theorem first_ne {o : Option Nat} (h : o ≠ none) : ¬ o.isNone = true := fun z => h (by cases o with | none => rfl | some _ => cases z)
abbrev R_tell_removal_set : List Nat → List Nat → Call → Prop := fun ns _ c => ∃ i, ns = [i] ∧ c = .removalSet i
theorem ok_tell_removal_set (T : Txt K mg) (B : Bs T base) : FnOk P w K mg base (L2.CX P w) 13 T.tell_removal_set.f T.tell_removal_set.fd ["store", "numbers", "row"] (DSp T R_tell_removal_set) := by
  refine T.tell_removal_set.F.okX sc_tell_removal_set (fun vs H Q E h => ?_) (fun cdv A outer s H vs Q E hr h => ⟨_, (pss_cons (ps_set (i := 3) sc_tell_removal_set.nd rfl (Or.inl rfl) (pe_call (ok_member_of T) (hr.mono (by decide)) rfl T.member_of.g T.member_of.F.kp T.member_of.b .nil passE (pa_cons (pv 0) (pa_cons (pe_ix ix_list (pv 1) pe_int (fun _ _ => rfl)) pa_nil))))
    (pss_cons (ps_set (i := 4) sc_tell_removal_set.nd rfl (Or.inl rfl) (pe_call (ok_removal_set_of T B) (hr.mono (by decide)) rfl T.removal_set_of.g T.removal_set_of.F.kp T.removal_set_of.b .nil passE (pa_cons (pv 0) (pa_cons (pv 3) pa_nil))))
    (pss_cons (ps_set (i := 5) sc_tell_removal_set.nd rfl (Or.inl rfl) (pe_call (ok_first_by T B) (hr.mono (by decide)) rfl T.first_by.g T.first_by.F.kp T.first_by.b .nil pass0 (pa_cons (pv 0) (pa_cons (pe_fld (pv 3) rfl) (pa_cons (pe_call (ok_events_without T) (hr.mono (by decide)) rfl T.events_without.g T.events_without.F.kp T.events_without.b .nil pass0 (pa_cons (pe_fld (pv 3) rfl) (pa_cons (pv 4) pa_nil))) pa_nil)))))
    (pss_one (ps_ret (pe_op op_cat (pe_op op_cat (pe_lst (pa_cons (pe_callB call_len_seq (by rfl) T.len_ PySem.boot_len (pa_cons (pv 4) pa_nil)) pa_nil)) (pv 4)) (pe_lst (pa_cons (pe_call (ok_one_more T) (hr.mono (by decide)) rfl T.one_more.g T.one_more.F.kp T.one_more.b .nil pass0 (pa_cons (pv 5) pa_nil)) pa_nil)))))))), ?_⟩)
  · obtain ⟨_, _, _, _, _, _, _, rfl, _⟩ := h
    rfl
  obtain ⟨A, S, n, r, ns, rs, cl, rfl, D, ⟨i, rfl, rfl⟩, q, qE⟩ := h
  obtain ⟨na, rfl, hn⟩ := D.num
  have hF := D.sf
  have W := D.wf
  have st : Kp433.step (some S) (.removalSet i) = (some S, withMember S i fun m => if (first S m.events m.events).isNone then single (-33) else match Kp433.removalSet S m.events with
    | none => single (-33)
    | some x => Kp433.setResult (some x) [optionNumber (first S m.events (Kp433.without m.events x))]) := rfl
  refine ⟨_, rfl, _, rfl, na, _, _, _, rfl, rfl, SqL.of hn, atI_nat (j := 0) rfl, A, S, i, rfl, hF, W, fun k M m H1 hm hM hk hid hkk hidx e1 => ?_, fun hm => qE (-2) (st.trans (by rw [wm_none hm]))⟩
  have wm := W.mem m (List.mem_of_getElem? hk)
  have l7 := wm.len
  have hF1 := e1.sf hF
  have rM := hF1.at hM hk
  refine ⟨_, rfl, _, rfl, _, _, S, m, rfl, hF1.st, rM.r, W, wm, e1.tab D.tab, fun x v H2 hne hx e2 hv => ?_, fun hno => (qE (-33) (st.trans (by rw [wm_some hm, if_pos (first_none hno)]))).mono e1⟩
  have xl : x.length ≤ 7 := Nat.le_trans (sets_len l7 (List.mem_of_find?_eq_some hx)) l7
  have hF2 := e2.sf hF1
  have rM2 := hF2.at hM hk
  refine ⟨_, rfl, _, rfl, M.p, _, M.dx, _, _, rfl, rM2.1, T.Member.cl, T.Member_no_events, mF_ev _ _, _, rfl, M.p, _, M.dx, _, _, rfl, rM2.1, T.Member.cl, T.Member_no_events, mF_ev _ _, _, rfl, _, v, m.events, x, rfl, rM2.2, hv, by omega, fun v3 H3 e3 h3 => ?_⟩
  have hF3 := e3.sf hF2
  refine ⟨_, _, v3, S, m.events, Kp433.without m.events x, rfl, hF3.st, e3.pl rM2.2, h3, W, by omega, ⟨Nat.le_trans (without_len _ _) (by omega), fun e he => wm.evs.2 e (without_mem he)⟩, ((e1.trans e2).trans e3).tab D.tab, fun H4 e4 => ?_⟩
  obtain ⟨pv, rfl, hpv⟩ := (e3.trans e4).nl hv
  refine ⟨_, rfl, pv, _, rfl, .inl (SqL.of hpv), (by show 1 ≤ sizeLine; decide), fun o ho => ?_⟩
  rw [List.length_map]
  have e5 := Ex.new (Tb := T.Tb) (o := .lst [.int (x.length : Nat)]) ho
  refine ⟨_, rfl, o, pv, _, _, rfl, rfl, upd_same, e5.lst hpv, ?_, fun o2 ho2 => ?_⟩
  · rw [List.length_map]; exact Nat.le_trans (show 1 + x.length ≤ 8 by omega) (by decide)
  have e6 := Ex.new (Tb := T.Tb) (o := .lst ([.int (x.length : Nat)] ++ x.map nV)) ho2
  refine ⟨_, rfl, first S m.events (Kp433.without m.events x), rfl, (by show 1 ≤ sizeLine; decide), fun o3 ho3 => ?_⟩
  have e7 := Ex.new (Tb := T.Tb) (o := .lst [nV (optionNumber (first S m.events (Kp433.without m.events x)))]) ho3
  refine ⟨o2, o3, _, _, rfl, rfl, e7.lst upd_same, upd_same, ?_, fun o4 ho4 => ?_⟩
  · rw [List.length_append, List.length_map]; exact Nat.le_trans (show 1 + x.length + 1 ≤ 9 by omega) (by decide)
  refine q.same hF (st.trans (by rw [wm_some hm, if_neg (first_ne hne), hx]; first | done | rfl)) ((e1.trans e2).trans ((e3.trans e4).trans ((e5.trans e6).trans (e7.trans (.new ho4))))) (nl_ans ⟨o4, rfl, ?_⟩)
  rw [upd_same, List.map_cons, List.map_append]
  rfl
abbrev R_tell_sufficient_set : List Nat → List Nat → Call → Prop := fun ns _ c => ∃ i, ns = [i] ∧ c = .sufficientSet i
theorem ok_tell_sufficient_set (T : Txt K mg) (B : Bs T base) : FnOk P w K mg base (L2.CX P w) 13 T.tell_sufficient_set.f T.tell_sufficient_set.fd ["store", "numbers", "row"] (DSp T R_tell_sufficient_set) := by
  refine T.tell_sufficient_set.F.okX sc_tell_sufficient_set (fun vs H Q E h => ?_) (fun cdv A outer s H vs Q E hr h => ⟨_, (pss_cons (ps_set (i := 3) sc_tell_sufficient_set.nd rfl (Or.inl rfl) (pe_call (ok_sufficient_set_of T B) (hr.mono (by decide)) rfl T.sufficient_set_of.g T.sufficient_set_of.F.kp T.sufficient_set_of.b .nil passE (pa_cons (pv 0) (pa_cons (pe_call (ok_member_of T) (hr.mono (by decide)) rfl T.member_of.g T.member_of.F.kp T.member_of.b .nil passE (pa_cons (pv 0) (pa_cons (pe_ix ix_list (pv 1) pe_int (fun _ _ => rfl)) pa_nil))) pa_nil))))
    (pss_one (ps_ret (pe_op op_cat (pe_lst (pa_cons (pe_callB call_len_seq (by rfl) T.len_ PySem.boot_len (pa_cons (pv 3) pa_nil)) pa_nil)) (pv 3))))), ?_⟩)
  · obtain ⟨_, _, _, _, _, _, _, rfl, _⟩ := h
    rfl
  obtain ⟨A, S, n, r, ns, rs, cl, rfl, D, ⟨i, rfl, rfl⟩, q, qE⟩ := h
  obtain ⟨na, rfl, hn⟩ := D.num
  have hF := D.sf
  have W := D.wf
  have st : Kp433.step (some S) (.sufficientSet i) = (some S, withMember S i fun m => if (first S m.events m.events).isNone then single (-33) else Kp433.setResult (Kp433.sufficientSet S m.events) []) := rfl
  refine ⟨_, rfl, _, rfl, _, rfl, na, _, _, _, rfl, rfl, SqL.of hn, atI_nat (j := 0) rfl, A, S, i, rfl, hF, W, fun k M m H1 hm hM hk hid hkk hidx e1 => ?_, fun hm => qE (-2) (st.trans (by rw [wm_none hm]))⟩
  have wm := W.mem m (List.mem_of_getElem? hk)
  have l7 := wm.len
  have hF1 := e1.sf hF
  have rM := hF1.at hM hk
  refine ⟨_, _, S, m, rfl, hF1.st, rM.r, W, wm, e1.tab D.tab, fun x v H2 hne hx e2 hv => ?_, fun hno => (qE (-33) (st.trans (by rw [wm_some hm, if_pos (first_none hno)]))).mono e1⟩
  have xl : x.length ≤ 7 := Nat.le_trans (sets_len l7 (List.mem_of_find?_eq_some hx)) l7
  obtain ⟨pv, rfl, hpv⟩ := hv
  refine ⟨_, rfl, pv, _, rfl, .inl (SqL.of hpv), (by show 1 ≤ sizeLine; decide), fun o ho => ?_⟩
  rw [List.length_map]
  have e5 := Ex.new (Tb := T.Tb) (o := .lst [.int (x.length : Nat)]) ho
  refine ⟨_, rfl, o, pv, _, _, rfl, rfl, upd_same, e5.lst hpv, ?_, fun o2 ho2 => ?_⟩
  · rw [List.length_map]; exact Nat.le_trans (show 1 + x.length ≤ 8 by omega) (by decide)
  refine q.same hF (st.trans (by rw [wm_some hm, if_neg (first_ne hne), hx]; first | done | rfl)) ((e1.trans e2).trans (e5.trans (.new ho2))) (nl_ans (n := x.length) (l := x ++ []) ⟨o2, rfl, ?_⟩)
  rw [upd_same, List.append_nil]
  rfl
abbrev R_robust : List Nat → List Nat → Call → Prop := fun ns _ c => ∃ i k, ns = [i, k] ∧ c = .robust i k
theorem ok_robust (T : Txt K mg) (B : Bs T base) : FnOk P w K mg base (L2.CX P w) 13 T.robust.f T.robust.fd ["store", "numbers", "row"] (DSp T R_robust) := by
  refine T.robust.F.okX sc_robust (fun vs H Q E h => ?_) (fun cdv A outer s H vs Q E hr h => ⟨_, (pss_cons (ps_asg (pv 1) (pg_unl (by rfl) (pgs_cons (pg_name (i := 3) sc_robust.nd rfl (Or.inl rfl)) (pgs_cons (pg_name (i := 4) sc_robust.nd rfl (Or.inl rfl)) pgs_nil))))
    (pss_one (ps_ret (pe_lst (pa_cons (pe_callTy call_int1 (by rfl) T.int_ (by decide +kernel) (pa_cons (pe_cmpR op_gt (pe_callB call_len_seq (by rfl) T.len_ PySem.boot_len (pa_cons (pe_call (ok_removal_set_of T B) (hr.mono (by decide)) rfl T.removal_set_of.g T.removal_set_of.F.kp T.removal_set_of.b .nil passE (pa_cons (pv 0) (pa_cons (pe_call (ok_member_of T) (hr.mono (by decide)) rfl T.member_of.g T.member_of.F.kp T.member_of.b .nil passE (pa_cons (pv 0) (pa_cons (pv 3) pa_nil))) pa_nil))) pa_nil)) (pv 4) (nomark _)) pa_nil)) pa_nil))))), ?_⟩)
  · obtain ⟨_, _, _, _, _, _, _, rfl, _⟩ := h
    rfl
  obtain ⟨A, S, n, r, ns, rs, cl, rfl, D, ⟨i, cnt, rfl, rfl⟩, q, qE⟩ := h
  obtain ⟨na, rfl, hn⟩ := D.num
  have hF := D.sf
  have W := D.wf
  have st : Kp433.step (some S) (.robust i cnt) = (some S, withMember S i fun m => if (first S m.events m.events).isNone then single (-33) else single (if Kp433.isRobust S m.events cnt then 1 else 0)) := rfl
  refine ⟨_, rfl, na, _, rfl, SqL.of hn, rfl, _, _, rfl, _, _, rfl, rfl, _, rfl, _, rfl, _, rfl, A, S, i, rfl, hF, W, fun k M m H1 hm hM hk hid hkk hidx e1 => ?_, fun hm => qE (-2) (st.trans (by rw [wm_none hm]))⟩
  have wm := W.mem m (List.mem_of_getElem? hk)
  have l7 := wm.len
  have hF1 := e1.sf hF
  have rM := hF1.at hM hk
  refine ⟨_, _, S, m, rfl, hF1.st, rM.r, W, wm, e1.tab D.tab, fun x v H2 hne hx e2 hv => ?_, fun hno => (qE (-33) (st.trans (by rw [wm_some hm, if_pos (first_none hno)]))).mono e1⟩
  obtain ⟨pv, rfl, hpv⟩ := hv
  refine ⟨pv, _, rfl, .inl (SqL.of hpv), _, rfl, _, _, rfl, rfl, .inr ⟨_, rfl, (by show 1 ≤ sizeLine; decide), fun o ho => ?_⟩⟩
  rw [List.length_map]
  refine q.same hF (st.trans (by rw [wm_some hm, if_neg (first_ne hne), robust_eq l7 hx])) ((e1.trans e2).trans (.new ho)) ⟨o, rfl, ?_⟩
  rw [upd_same]
  by_cases c : cnt < x.length
  · rw [decide_eq_true c, decide_eq_true (show (cnt : Int) < (x.length : Int) by omega)]
    rfl
  · rw [decide_eq_false c, decide_eq_false (show ¬ (cnt : Int) < (x.length : Int) by omega)]
    rfl
abbrev R_needed_weight : List Nat → List Nat → Call → Prop := fun ns _ c => ∃ i a b, ns = [i, a, b] ∧ c = .neededWeight i a b
theorem ok_needed_weight (T : Txt K mg) (B : Bs T base) : FnOk P w K mg base (L2.CX P w) 12 T.needed_weight.f T.needed_weight.fd ["store", "numbers", "row"] (DSp T R_needed_weight) := by
  refine T.needed_weight.F.okX sc_needed_weight (fun vs H Q E h => ?_) (fun cdv A outer s H vs Q E hr h => ⟨_, (pss_cons (ps_asg (pv 1) (pg_unl (by rfl) (pgs_cons (pg_name (i := 3) sc_needed_weight.nd rfl (Or.inl rfl)) (pgs_cons (pg_name (i := 4) sc_needed_weight.nd rfl (Or.inl rfl)) (pgs_cons (pg_name (i := 5) sc_needed_weight.nd rfl (Or.inl rfl)) pgs_nil)))))
    (pss_cons (ps_set (i := 6) sc_needed_weight.nd rfl (Or.inl rfl) (pe_call (ok_member_of T) (hr.mono (by decide)) rfl T.member_of.g T.member_of.F.kp T.member_of.b .nil passE (pa_cons (pv 0) (pa_cons (pv 3) pa_nil))))
    (pss_cons (ps_expr (pe_call (ok_need_item T) (hr.mono (by decide)) rfl T.need_item.g T.need_item.F.kp T.need_item.b .nil passE (pa_cons (pv 0) (pa_cons (pv 4) pa_nil))))
    (pss_cons (ps_expr (pe_call (ok_need_item T) (hr.mono (by decide)) rfl T.need_item.g T.need_item.F.kp T.need_item.b .nil passE (pa_cons (pv 0) (pa_cons (pv 5) pa_nil))))
    (pss_cons (ps_set (i := 7) sc_needed_weight.nd rfl (Or.inl rfl) (pe_call (ok_least_weight T B) (hr.mono (by decide)) rfl T.least_weight.g T.least_weight.F.kp T.least_weight.b .nil pass0 (pa_cons (pv 0) (pa_cons (pv 6) (pa_cons (pv 4) (pa_cons (pv 5) (pa_cons (pe_glob (v := .int (100)) rfl T.GREATEST_TRIED.g ⟨_, rfl⟩) pa_nil)))))))
    (pss_cons (ps_expr (pe_call (ok_ask T) (hr.mono (by decide)) rfl T.ask.g T.ask.F.kp T.ask.b .nil passE (pa_cons (pe_cmpR op_notN (pv 7) pe_non (nomark _)) (pa_cons (pe_glob (v := .int (-33)) rfl T.NONE_SUCH.g ⟨_, rfl⟩) pa_nil))))
    (pss_one (ps_ret (pe_lst (pa_cons (pv 7) pa_nil)))))))))), ?_⟩)
  · obtain ⟨_, _, _, _, _, _, _, rfl, _⟩ := h
    rfl
  obtain ⟨A, S, n, r, ns, rs, cl, rfl, D, ⟨i, on, goal, rfl, rfl⟩, q, qE⟩ := h
  obtain ⟨na, rfl, hn⟩ := D.num
  have hF := D.sf
  have W := D.wf
  have st : Kp433.step (some S) (.neededWeight i on goal) = (some S, withMember S i fun m => if S.items ≤ on ∨ S.items ≤ goal then single (-2) else match Kp433.neededWeight S m.events on goal with
    | none => single (-33)
    | some w => single (w : Nat)) := rfl
  refine ⟨_, rfl, na, _, rfl, SqL.of hn, rfl, _, _, rfl, _, _, rfl, _, _, rfl, rfl, _, rfl, _, rfl, A, S, i, rfl, hF, W, fun k M m H1 hm hM hk hid hkk hidx e1 => ?_, fun hm => qE (-2) (st.trans (by rw [wm_none hm]))⟩
  have wm := W.mem m (List.mem_of_getElem? hk)
  have hF1 := e1.sf hF
  have rM := hF1.at hM hk
  refine ⟨_, rfl, _, rfl, A, S, on, rfl, hF1, fun h1 => ?_, fun h1 => (qE (-2) (st.trans (by rw [wm_some hm, if_pos (.inl h1)]))).mono e1⟩
  refine ⟨_, rfl, _, rfl, A, S, goal, rfl, hF1, fun h2 => ?_, fun h2 => (qE (-2) (st.trans (by rw [wm_some hm, if_pos (.inr h2)]))).mono e1⟩
  have c0 : ¬ (S.items ≤ on ∨ S.items ≤ goal) := by omega
  refine ⟨_, rfl, _, rfl, _, rfl, _, rfl, _, _, S, m, on, goal, rfl, hF1.st, rM.r, W, wm, e1.tab D.tab, h1, fun H2 e2 => ?_⟩
  refine ⟨_, rfl, rfl, _, _, rfl, fun hc => ?_, fun hc => ?_⟩
  · cases hw : Kp433.neededWeight S m.events on goal with
    | none => rw [hw] at hc; cases hc
    | some z =>
      refine ⟨_, rfl, (by show 1 ≤ sizeLine; decide), fun o ho => ?_⟩
      exact q.same hF (st.trans (by rw [wm_some hm, if_neg c0, hw]; first | done | rfl)) ((e1.trans e2).trans (.new ho)) (single_ans upd_same)
  · cases hw : Kp433.neededWeight S m.events on goal with
    | some z => rw [hw] at hc; cases hc
    | none => exact (qE (-33) (st.trans (by rw [wm_some hm, if_neg c0, hw]; first | done | rfl))).mono (e1.trans e2)
abbrev R_shapley : List Nat → List Nat → Call → Prop := fun ns _ c => ∃ i k, ns = [i, k] ∧ c = .shapley i k
theorem flatI_range (n : Nat) (f : Nat → Int × Int) : flatI ((List.range n).map f) = (List.range n).flatMap fun e => [(f e).1, (f e).2] := by
  unfold flatI
  rw [List.flatMap_map]
theorem ok_shapley (T : Txt K mg) (B : Bs T base) : FnOk P w K mg base (L2.CX P w) 13 T.shapley.f T.shapley.fd ["store", "numbers", "row"] (DSp T R_shapley) := by
  refine T.shapley.F.okX sc_shapley (fun vs H Q E h => ?_) (fun cdv A outer s H vs Q E hr h => ⟨_, (pss_cons (ps_asg (pv 1) (pg_unl (by rfl) (pgs_cons (pg_name (i := 3) sc_shapley.nd rfl (Or.inl rfl)) (pgs_cons (pg_name (i := 4) sc_shapley.nd rfl (Or.inr rfl)) pgs_nil))))
    (pss_cons (ps_set (i := 5) sc_shapley.nd rfl (Or.inr rfl) (pe_call (ok_member_of T) (hr.mono (by decide)) rfl T.member_of.g T.member_of.F.kp T.member_of.b .nil passE (pa_cons (pv 0) (pa_cons (pv 3) pa_nil))))
    (pss_cons (ps_expr (pe_call (ok_need_item T) (hr.mono (by decide)) rfl T.need_item.g T.need_item.F.kp T.need_item.b .nil passE (pa_cons (pv 0) (pa_cons (pv 4) pa_nil))))
    (pss_one (ps_ret (pe_call (ok_listed T) (hr.mono (by decide)) rfl T.listed.g T.listed.F.kp T.listed.b .nil pass0 (pa_cons (by exact (pe_lc (own := [("position", 6)]) (by rfl) sc_shapley.nd (pi_range1 (by rfl) T.range_ (pa_cons (pe_callB call_len_seq (by rfl) T.len_ PySem.boot_len (pa_cons (pe_fld (pv 5) rfl) pa_nil)) pa_nil)) (blkOk_by (own := [("position", 6)]) (N := N_shapley) (sc := defScope s_shapley) (by decide +kernel)) (fun _ _ _ _ _ => (pg_name (i := 6) sc_shapley.nd rfl (Or.inl rfl))) (fun _ _ _ _ _ => pts_nil) (fun _ _ _ _ _ => (pe_call (ok_share_of T B) (hr.mono (by decide)) rfl T.share_of.g T.share_of.F.kp T.share_of.b .nil pass0 (pa_cons (pv 0) (pa_cons (pv 5) (pa_cons (pv 4) (pa_cons (pv 6) pa_nil)))))))) pa_nil))))))), ?_⟩)
  · obtain ⟨_, _, _, _, _, _, _, rfl, _⟩ := h
    rfl
  obtain ⟨A, S, n, r, ns, rs, cl, rfl, D, ⟨i, it, rfl, rfl⟩, q, qE⟩ := h
  obtain ⟨na, rfl, hn⟩ := D.num
  have hF := D.sf
  have W := D.wf
  have st : Kp433.step (some S) (.shapley i it) = (some S, withMember S i fun m => if S.items ≤ it then single (-2) else ⟨(m.events.length : Int), (List.range m.events.length).flatMap fun e => [(Kp433.shapley S m.events it e).num, ((Kp433.shapley S m.events it e).den : Int)]⟩) := rfl
  refine ⟨_, rfl, na, _, rfl, SqL.of hn, rfl, _, _, rfl, _, _, rfl, rfl, _, rfl, _, rfl, A, S, i, rfl, hF, W, fun k M m H1 hm hM hk hid hkk hidx e1 => ?_, fun hm => qE (-2) (st.trans (by rw [wm_none hm]))⟩
  have wm := W.mem m (List.mem_of_getElem? hk)
  have l7 := wm.len
  have hF1 := e1.sf hF
  obtain ⟨hMo, ea', xs, e0, hea, hxs⟩ := hF1.at hM hk
  cases e0
  have lx : xs.length = m.events.length := by rw [hxs.length, List.length_map]
  refine ⟨_, rfl, _, rfl, A, S, it, rfl, hF1, fun hi => ?_, fun hi => (qE (-2) (st.trans (by rw [wm_some hm, if_pos hi]))).mono e1⟩
  refine ⟨_, rfl, M.p, _, M.dx, _, _, rfl, hMo, T.Member.cl, T.Member_no_events, mF_ev _ _, M.ea, xs, rfl, .inl (SqL.of hea), ((m.events.length : Nat) : Int), by rw [lx], by omega, by omega, fun D1 hD1 => lc_ex (walk_range (lo := 0) (n := ((m.events.length : Nat) : Int).toNat)) (Tb := T.Tb) (fun j acc G => F2 (PrI G) acc ((List.range j).map fun e => ((Kp433.shapley S m.events it e).num, ((Kp433.shapley S m.events it e).den : Int)))) (by rw [Int.toNat_natCast]; exact Nat.lt_of_le_of_lt l7 (by decide)) hD1 (fun _ _ => True.intro) .nil ?_ ?_⟩
  · rintro j x acc G H' Nx hj eG gD hacc ⟨rfl, hx⟩ kY kN
    rw [Int.toNat_natCast] at hj
    have ej : x = nV j := by rw [hx]; show V.int (0 + ((j : Nat) : Int)) = _; rw [Int.zero_add]
    subst ej
    have eH := eG.trans (Ex.new (Tb := T.Tb) (o := .lst acc) gD)
    have hF3 := eH.sf hF1
    refine ⟨rfl, _, rfl, _, rfl, _, rfl, _, rfl, _, _, S, m, it, j, rfl, hF3.st, (hF3.at hM hk).r, W, wm, (e1.trans eH).tab D.tab, hj, fun v H4 e4 hv => kY _ _ e4 fun G' e' gd' e5 => ?_⟩
    rw [List.range_succ, List.map_append]
    refine (hacc.imp fun v x _ _ ⟨p, e, h⟩ => ⟨p, e, h.imp (fun h => e'.tup h) (fun h => e'.lst h)⟩).append (.one ?_)
    obtain ⟨p, rfl, hp⟩ := hv
    have hpD : p ≠ D1 := fun z => by
      rw [z, e5, upd_same] at hp
      rw [HO.lst.inj (Option.some.inj hp)] at hacc
      obtain ⟨_, _, _, e, _⟩ := hacc.get (i := 0) rfl
      cases e
    refine ⟨p, rfl, .inr ?_⟩
    rw [e5, upd_ne hpD] at hp
    exact hp
  · rintro acc G eG gD hacc
    rw [Int.toNat_natCast] at hacc
    have eD := Ex.new (Tb := T.Tb) (o := .lst acc) gD
    refine ⟨D1, acc, _, rfl, upd_same, hacc.imp fun v x _ _ ⟨p, e, h⟩ => ⟨p, e, h.imp (fun h => eD.tup h) (fun h => eD.lst h)⟩, by rw [List.length_map, List.length_range]; omega, fun v H5 e5 hv => ?_⟩
    rw [flatI_range, List.length_map, List.length_range] at hv
    exact q.same hF (st.trans (by rw [wm_some hm, if_neg (by omega)])) (e1.trans (eG.trans (eD.trans e5))) hv
end
end FpS
/-! # influence, roots, proofs, absence, status -/
namespace FpS
open PySem PySem.Spec PyProof.Rows L2
open Kp433 (Store Call Ans memberWith withMember natResult single listResult scoreOf contribution ranking first optionNumber halves)
theorem moved_eq (s : Store) (whole a b : List Kp433.Event) (n : Nat) : movedN (rankP s whole a) (rankP s whole b) n = ((List.range n).filter fun q => (ranking s whole b)[q]? != (ranking s whole a)[q]?).length := by
  unfold movedN
  congr 2
  funext q
  rw [rankP_get, rankP_get, Option.map_map, Option.map_map]
  cases (ranking s whole b)[q]? <;> cases (ranking s whole a)[q]? <;> rfl
section
variable {P : Program} {w : World} {K : PySem.W.Frag} {mg : Str → Option Value} {base : Heap}
abbrev R_influence : List Nat → List Nat → Call → Prop := fun ns _ c => ∃ i k, ns = [i, k] ∧ c = .influence i k
theorem ok_influence (T : Txt K mg) (B : Bs T base) : FnOk P w K mg base (L2.CX P w) 11 T.influence.f T.influence.fd ["store", "numbers", "row"] (DSp T R_influence) := by
  refine T.influence.F.okX sc_influence (fun vs H Q E h => ?_) (fun cdv A outer s H vs Q E hr h => ⟨_, (pss_cons (ps_asg (pv 1) (pg_unl (by rfl) (pgs_cons (pg_name (i := 3) sc_influence.nd rfl (Or.inl rfl)) (pgs_cons (pg_name (i := 4) sc_influence.nd rfl (Or.inl rfl)) pgs_nil))))
    (pss_cons (ps_set (i := 5) sc_influence.nd rfl (Or.inr rfl) (pe_call (ok_member_of T) (hr.mono (by decide)) rfl T.member_of.g T.member_of.F.kp T.member_of.b .nil passE (pa_cons (pv 0) (pa_cons (pv 3) pa_nil))))
    (pss_cons (ps_expr (pe_call (ok_need_event T) (hr.mono (by decide)) rfl T.need_event.g T.need_event.F.kp T.need_event.b .nil passE (pa_cons (pv 5) (pa_cons (pv 4) pa_nil))))
    (pss_cons (ps_set (i := 6) sc_influence.nd rfl (Or.inl rfl) (pe_call (ok_events_without T) (hr.mono (by decide)) rfl T.events_without.g T.events_without.F.kp T.events_without.b .nil pass0 (pa_cons (pe_fld (pv 5) rfl) (pa_cons (pe_lst (pa_cons (pv 4) pa_nil)) pa_nil))))
    (pss_cons (ps_set (i := 7) sc_influence.nd rfl (Or.inl rfl) (pe_call (ok_ranking_by T B) (hr.mono (by decide)) rfl T.ranking_by.g T.ranking_by.F.kp T.ranking_by.b .nil pass0 (pa_cons (pv 0) (pa_cons (pe_fld (pv 5) rfl) (pa_cons (pe_fld (pv 5) rfl) pa_nil)))))
    (pss_cons (ps_set (i := 8) sc_influence.nd rfl (Or.inl rfl) (pe_call (ok_ranking_by T B) (hr.mono (by decide)) rfl T.ranking_by.g T.ranking_by.F.kp T.ranking_by.b .nil pass0 (pa_cons (pv 0) (pa_cons (pe_fld (pv 5) rfl) (pa_cons (pv 6) pa_nil)))))
    (pss_cons (ps_setLc (i := 9) (own := [("events", 10)]) (by rfl) sc_influence.nd rfl rfl (sw_true rfl rfl rfl (by decide +kernel)) (pi_list (pe_lst (pa_cons (pe_fld (pv 5) rfl) (pa_cons (pv 6) pa_nil)))) (blkOk_by (own := [("events", 10)]) (N := N_influence) (sc := defScope s_influence) (by decide +kernel)) (fun _ _ _ _ _ => (pg_name (i := 10) sc_influence.nd rfl (Or.inl rfl))) (fun _ _ _ _ _ => pts_nil) (fun _ _ _ _ _ => (pe_call (ok_one_more T) (hr.mono (by decide)) rfl T.one_more.g T.one_more.F.kp T.one_more.b .nil pass0 (pa_cons (pe_call (ok_first_by T B) (hr.mono (by decide)) rfl T.first_by.g T.first_by.F.kp T.first_by.b .nil pass0 (pa_cons (pv 0) (pa_cons (pe_fldK K rfl (pv 5) rfl) (pa_cons (pv 10) pa_nil)))) pa_nil))))
    (pss_one (ps_ret (pe_op op_cat (pv 9) (pe_lst (pa_cons (pe_call (ok_moved_many T) (hr.mono (by decide)) rfl T.moved_many.g T.moved_many.F.kp T.moved_many.b .nil pass0 (pa_cons (pv 7) (pa_cons (pv 8) pa_nil))) pa_nil)))))))))))), ?_⟩)
  · obtain ⟨_, _, _, _, _, _, _, rfl, _⟩ := h
    rfl
  obtain ⟨A, S, n, r, ns, rs, cl, rfl, D, ⟨i, ps, rfl, rfl⟩, q, qE⟩ := h
  obtain ⟨na, rfl, hn⟩ := D.num
  have hF := D.sf
  have W := D.wf
  have st : Kp433.step (some S) (.influence i ps) = (some S, withMember S i fun m => if m.events.length ≤ ps then single (-2) else
      natResult (optionNumber (ranking S m.events m.events).head?) [optionNumber (ranking S m.events (Kp433.without m.events [ps])).head?, ((List.range (ranking S m.events m.events).length).filter fun q => (ranking S m.events (Kp433.without m.events [ps]))[q]? != (ranking S m.events m.events)[q]?).length]) := rfl
  refine ⟨_, rfl, na, _, rfl, SqL.of hn, rfl, _, _, rfl, _, _, rfl, rfl, _, rfl, _, rfl, A, S, i, rfl, hF, W, fun k M m H1 hm hM hk hid hkk hidx e1 => ?_, fun hm => qE (-2) (st.trans (by rw [wm_none hm]))⟩
  have wm := W.mem m (List.mem_of_getElem? hk)
  have l7 := wm.len
  have hF1 := e1.sf hF
  have rM := hF1.at hM hk
  refine ⟨_, rfl, _, rfl, _, m, ps, rfl, rM.r, fun hi => ?_, fun hi => (qE (-2) (st.trans (by rw [wm_some hm, if_pos hi]))).mono e1⟩
  -- left
  refine ⟨_, rfl, M.p, _, M.dx, _, _, rfl, rM.1, T.Member.cl, T.Member_no_events, mF_ev _ _, _, rfl, (by show 1 ≤ sizeLine; decide), fun o ho => ?_⟩
  have e2 := Ex.new (Tb := T.Tb) (o := .lst [nV ps]) ho
  refine ⟨_, _, m.events, [ps], rfl, e2.pl rM.2, ⟨o, rfl, upd_same⟩, by omega, fun vl H3 e3 hl => ?_⟩
  have e13 := e2.trans e3
  have hF3 := e13.sf hF1
  have rM3 := hF3.at hM hk
  have okl : EvsOk S (Kp433.without m.events [ps]) := ⟨Nat.le_trans (without_len _ _) (by omega), fun e he => wm.evs.2 e (without_mem he)⟩
  refine ⟨_, rfl, _, rfl, M.p, _, M.dx, _, _, rfl, rM3.1, T.Member.cl, T.Member_no_events, mF_ev _ _, _, rfl, M.p, _, M.dx, _, _, rfl, rM3.1, T.Member.cl, T.Member_no_events, mF_ev _ _, _, _, _, S, m.events, m.events, rfl, hF3.st, rM3.2, rM3.2, W, by omega, wm.evs, (e1.trans e13).tab D.tab, fun v4 H4 e4 h4 => ?_⟩
  have hF4 := e4.sf hF3
  have rM4 := hF4.at hM hk
  have hl4 := e4.pl hl
  refine ⟨_, rfl, _, rfl, M.p, _, M.dx, _, _, rfl, rM4.1, T.Member.cl, T.Member_no_events, mF_ev _ _, _, rfl, _, _, _, S, m.events, _, rfl, hF4.st, rM4.2, hl4, W, by omega, okl, ((e1.trans e13).trans e4).tab D.tab, fun v5 H5 e5 h5 => ?_⟩
  have hF5 := e5.sf hF4
  have rM5 := hF5.at hM hk
  have hl5 := e5.pl hl4
  have h45 := e5.pl h4
  have eA := (e1.trans e13).trans (e4.trans e5)
  -- firsts
  refine ⟨_, rfl, M.p, _, M.dx, _, _, rfl, rM5.1, T.Member.cl, T.Member_no_events, mF_ev _ _, _, rfl, (by show 2 ≤ sizeLine; decide), fun o6 ho6 => ?_⟩
  have e6 := Ex.new (Tb := T.Tb) (o := .lst [.ref M.ea, vl]) ho6
  have hF6 := e6.sf hF5
  refine ⟨o6, rfl, ⟨_, SqL.of upd_same⟩, fun D1 hD1 => lc_ex (walk_list (K := K) (a := o6) (xs := [.ref M.ea, vl])) (Tb := T.Tb) (fun j acc G => acc = (([optionNumber (first S m.events m.events), optionNumber (first S m.events (Kp433.without m.events [ps]))].take j).map nV)) (by show 2 < sizeLine; decide) hD1 (fun H' e => SqL.of (e.lst upd_same)) rfl ?_ ?_⟩
  · rintro j x acc G H' Nx hj eG gD rfl ⟨rfl, hx⟩ kY kN
    have eH := eG.trans (Ex.new (Tb := T.Tb) (o := .lst (([optionNumber (first S m.events m.events), optionNumber (first S m.events (Kp433.without m.events [ps]))].take j).map nV)) gD)
    have hF7 := eH.sf hF6
    have rM7 := hF7.at hM hk
    have hev : ∃ l : List Kp433.Event, PL (upd G D1 (.lst (([optionNumber (first S m.events m.events), optionNumber (first S m.events (Kp433.without m.events [ps]))].take j).map nV))) x (l.map evP) ∧ EvsOk S l ∧ [optionNumber (first S m.events m.events), optionNumber (first S m.events (Kp433.without m.events [ps]))][j]? = some (optionNumber (first S m.events l)) := by
      match j, hx with
      | 0, hx => cases hx; exact ⟨m.events, rM7.2, wm.evs, rfl⟩
      | 1, hx => cases hx; exact ⟨_, (e6.trans eH).pl hl5, okl, rfl⟩
      | j + 2, hx => simp at hx
    obtain ⟨l, hl7, ok7, hg⟩ := hev
    refine ⟨rfl, _, rfl, _, rfl, M.p, _, M.dx, _, _, rfl, rM7.1, T.Member.cl, T.Member_no_events, mF_ev _ _, _, rfl, _, _, _, S, m.events, l, rfl, hF7.st, rM7.2, hl7, W, by omega, ok7, (eA.trans (e6.trans eH)).tab D.tab, fun H8 e8 => ⟨_, rfl, kY _ _ e8 fun G' _ _ _ => ?_⟩⟩
    rw [tk hg, List.map_append]
    rfl
  · rintro acc G eG gD rfl
    have e7 := eG.trans (Ex.new (Tb := T.Tb) (o := .lst (([optionNumber (first S m.events m.events), optionNumber (first S m.events (Kp433.without m.events [ps]))].take 2).map nV)) gD)
    have h4' := (e6.trans e7).pl h45
    have h5' := (e6.trans e7).pl h5
    refine ⟨_, rfl, _, rfl, _, rfl, _, _, _, _, rfl, h4', h5', fun H8 e8 => ⟨(by show 1 ≤ sizeLine; decide), fun o9 ho9 => ?_⟩⟩
    have e9 := Ex.new (Tb := T.Tb) (o := .lst [nV (movedN (rankP S m.events m.events) (rankP S m.events (Kp433.without m.events [ps])) (rankP S m.events m.events).length)]) ho9
    refine ⟨D1, o9, _, _, rfl, rfl, (e8.trans e9).lst upd_same, upd_same, (by show 2 + 1 ≤ sizeLine; decide), fun c hc => ?_⟩
    refine q.same hF (st.trans (by rw [wm_some hm, if_neg (by omega)])) (eA.trans ((e6.trans e7).trans ((e8.trans e9).trans (.new hc)))) (nl_ans ⟨c, rfl, ?_⟩)
    rw [upd_same, moved_eq, rankP_len]
    rfl
/-! ### roots and proofs -/
abbrev R_tell_root : List Nat → List Nat → Call → Prop := fun _ _ c => c = .root
theorem ok_tell_root (T : Txt K mg) : FnOk P w K mg base (L2.CX P w) 9 T.tell_root.f T.tell_root.fd ["store", "numbers", "row"] (DSp T R_tell_root) := by
  refine T.tell_root.F.okX sc_tell_root (fun vs H Q E h => ?_) (fun cdv A outer s H vs Q E hr h => ⟨_, (pss_one (ps_ret (pe_op op_cat (pe_lst (pa_cons (pe_callB call_len_seq (by rfl) T.len_ PySem.boot_len (pa_cons (pe_fld (pv 0) rfl) pa_nil)) pa_nil)) (pe_call (ok_halves_of T) (hr.mono (by decide)) rfl T.halves_of.g T.halves_of.F.kp T.halves_of.b .nil pass0 (pa_cons (pe_call (ok_root_of T) (hr.mono (by decide)) rfl T.root_of.g T.root_of.F.kp T.root_of.b .nil pass0 (pa_cons (pe_fld (pv 0) rfl) pa_nil)) pa_nil))))), ?_⟩)
  · obtain ⟨_, _, _, _, _, _, _, rfl, _⟩ := h
    rfl
  obtain ⟨A, S, n, r, ns, rs, cl, rfl, D, rfl, q, qE⟩ := h
  have hF := D.sf
  have W := D.wf
  have st : Kp433.step (some S) .root = (some S, natResult S.members.length (halves (Kp433.root S))) := rfl
  refine ⟨_, rfl, A.p, _, A.dx, _, _, rfl, hF.obj, T.Store.cl, T.Store_no_members, sF_mem _ _ _, A.ma, _, rfl, .inl (SqL.of hF.mem), (by show 1 ≤ sizeLine; decide), fun o ho => ?_⟩
  rw [List.length_map, hF.ms.length]
  have e2 := Ex.new (Tb := T.Tb) (o := .lst [.int (S.members.length : Nat)]) ho
  have hF2 := e2.sf hF
  refine ⟨_, rfl, A.p, _, A.dx, _, _, rfl, hF2.obj, T.Store.cl, T.Store_no_members, sF_mem _ _ _, _, S.members, rfl, hF2.msr, wf_len W, W.ms, fun H3 e3 => ⟨_, rfl, fun v4 H4 e4 h4 => ?_⟩⟩
  obtain ⟨p, rfl, hp⟩ := h4
  refine ⟨o, p, _, _, rfl, rfl, (e3.trans e4).lst upd_same, hp, (by rw [List.length_map]; show 1 + 2 ≤ sizeLine; decide), fun c hc => ?_⟩
  refine q.same hF st (e2.trans ((e3.trans e4).trans (.new hc))) (nl_ans ⟨c, rfl, ?_⟩)
  rw [upd_same, root_eq]
  rfl
abbrev R_tell_leaf : List Nat → List Nat → Call → Prop := fun ns _ c => ∃ i, ns = [i] ∧ c = .leaf i
theorem ok_tell_leaf (T : Txt K mg) : FnOk P w K mg base (L2.CX P w) 7 T.tell_leaf.f T.tell_leaf.fd ["store", "numbers", "row"] (DSp T R_tell_leaf) := by
  refine T.tell_leaf.F.okX sc_tell_leaf (fun vs H Q E h => ?_) (fun cdv A outer s H vs Q E hr h => ⟨_, (pss_cons (ps_set (i := 3) sc_tell_leaf.nd rfl (Or.inl rfl) (pe_call (ok_member_of T) (hr.mono (by decide)) rfl T.member_of.g T.member_of.F.kp T.member_of.b .nil passE (pa_cons (pv 0) (pa_cons (pe_ix ix_list (pv 1) pe_int (fun _ _ => rfl)) pa_nil))))
    (pss_one (ps_ret (pe_op op_cat (pe_lst (pa_cons (pe_call (ok_index_of T) (hr.mono (by decide)) rfl T.index_of.g T.index_of.F.kp T.index_of.b .nil pass0 (pa_cons (pv 0) (pa_cons (pe_fld (pv 3) rfl) pa_nil))) pa_nil)) (pe_call (ok_halves_of T) (hr.mono (by decide)) rfl T.halves_of.g T.halves_of.F.kp T.halves_of.b .nil pass0 (pa_cons (pe_call (ok_leaf_of T) (hr.mono (by decide)) rfl T.leaf_of.g T.leaf_of.F.kp T.leaf_of.b .nil pass0 (pa_cons (pv 3) pa_nil)) pa_nil)))))), ?_⟩)
  · obtain ⟨_, _, _, _, _, _, _, rfl, _⟩ := h
    rfl
  obtain ⟨A, S, n, r, ns, rs, cl, rfl, D, ⟨i, rfl, rfl⟩, q, qE⟩ := h
  obtain ⟨na, rfl, hn⟩ := D.num
  have hF := D.sf
  have W := D.wf
  have st : Kp433.step (some S) (.leaf i) = (some S, withMember S i fun m => natResult (Kp433.indexOf S i) (halves (Kp433.leafHash m))) := rfl
  refine ⟨_, rfl, _, rfl, na, _, _, _, rfl, rfl, SqL.of hn, atI_nat (j := 0) rfl, A, S, i, rfl, hF, W, fun k M m H1 hm hM hk hid hkk hidx e1 => ?_, fun hm => qE (-2) (st.trans (by rw [wm_none hm]))⟩
  have l7 := wf_len W m (List.mem_of_getElem? hk)
  have hF1 := e1.sf hF
  have rM := hF1.at hM hk
  refine ⟨_, rfl, _, rfl, M.p, _, M.dx, _, _, rfl, rM.1, T.Member.cl, T.Member_no_number, mF_num _ _, A, S, m.id, rfl, hF1, W, fun H2 e2 => ⟨(by show 1 ≤ sizeLine; decide), fun o ho => ?_⟩⟩
  rw [hid, ← hkk]
  have e3 := Ex.new (Tb := T.Tb) (o := .lst [nV k]) ho
  have rM3 := ((e2.trans e3).sf hF1).at hM hk
  refine ⟨_, rfl, _, m, rfl, rM3.r, l7, fun H4 e4 => ⟨_, rfl, fun v5 H5 e5 h5 => ?_⟩⟩
  obtain ⟨p, rfl, hp⟩ := h5
  refine ⟨o, p, _, _, rfl, rfl, (e4.trans e5).lst upd_same, hp, (by rw [List.length_map]; show 1 + 2 ≤ sizeLine; decide), fun c hc => ?_⟩
  refine q.same hF (st.trans (by rw [wm_some hm])) ((e1.trans e2).trans (e3.trans ((e4.trans e5).trans (.new hc)))) (nl_ans ⟨c, rfl, ?_⟩)
  rw [upd_same, hidx]
  rfl
abbrev R_tell_proof : List Nat → List Nat → Call → Prop := fun ns _ c => ∃ i, ns = [i] ∧ c = .proof i
def prNums (l : List (Nat × Nat)) : List Nat := l.flatMap fun x => x.1 :: halves x.2
theorem prNums_snoc (l : List (Nat × Nat)) (x : Nat × Nat) : prNums (l ++ [x]) = prNums l ++ (x.1 :: halves x.2) := by
  unfold prNums
  rw [List.flatMap_append, List.flatMap_cons, List.flatMap_nil, List.append_nil]
theorem prNums_len (l : List (Nat × Nat)) : (prNums l).length = 3 * l.length := by
  unfold prNums
  induction l with
  | nil => rfl
  | cons x l ih =>
    rw [List.flatMap_cons, List.length_append, ih, List.length_cons, List.length_cons]
    have : (halves x.2).length = 2 := rfl
    omega
theorem ok_tell_proof (T : Txt K mg) : FnOk P w K mg base (L2.CX P w) 9 T.tell_proof.f T.tell_proof.fd ["store", "numbers", "row"] (DSp T R_tell_proof) := by
  refine T.tell_proof.F.okX sc_tell_proof (fun vs H Q E h => ?_) (fun cdv A outer s H vs Q E hr h => ⟨_, (pss_cons (ps_set (i := 3) sc_tell_proof.nd rfl (Or.inl rfl) (pe_call (ok_member_of T) (hr.mono (by decide)) rfl T.member_of.g T.member_of.F.kp T.member_of.b .nil passE (pa_cons (pv 0) (pa_cons (pe_ix ix_list (pv 1) pe_int (fun _ _ => rfl)) pa_nil))))
    (pss_cons (ps_set (i := 4) sc_tell_proof.nd rfl (Or.inl rfl) (pe_call (ok_proof_of T) (hr.mono (by decide)) rfl T.proof_of.g T.proof_of.F.kp T.proof_of.b .nil pass0 (pa_cons (pe_fld (pv 0) rfl) (pa_cons (pe_call (ok_index_of T) (hr.mono (by decide)) rfl T.index_of.g T.index_of.F.kp T.index_of.b .nil pass0 (pa_cons (pv 0) (pa_cons (pe_fld (pv 3) rfl) pa_nil))) pa_nil))))
    (pss_cons (ps_set (i := 5) sc_tell_proof.nd rfl (Or.inl rfl) (pe_lst (pa_cons (pe_callB call_len_seq (by rfl) T.len_ PySem.boot_len (pa_cons (pv 4) pa_nil)) pa_nil)))
    (PSs.nox (pss_cons (ps_for PassesOwn.never rfl (pi_list (pv 4)) (pg_tup (by rfl) (pgs_cons (pg_name (i := 6) sc_tell_proof.nd rfl (Or.inl rfl)) (pgs_cons (pg_name (i := 7) sc_tell_proof.nd rfl (Or.inl rfl)) pgs_nil)))
    (pss_one (ps_expr (pe_bm PySem.F.plainAttrs_list PySem.F.slot_list_extend PySem.F.type_list_extend mt_extend (pv 5) (pa_cons (pe_op op_cat (pe_lst (pa_cons (pv 6) pa_nil)) (pe_call (ok_halves_of T) (hr.mono (by decide)) rfl T.halves_of.g T.halves_of.F.kp T.halves_of.b .nil pass0 (pa_cons (pv 7) pa_nil))) pa_nil)))))
    (pss_one (ps_ret (pv 5)))))))), ?_⟩)
  · obtain ⟨_, _, _, _, _, _, _, rfl, _⟩ := h
    rfl
  obtain ⟨A, S, n, r, ns, rs, cl, rfl, D, ⟨i, rfl, rfl⟩, q, qE⟩ := h
  obtain ⟨na, rfl, hn⟩ := D.num
  have hF := D.sf
  have W := D.wf
  have st : Kp433.step (some S) (.proof i) = (some S, withMember S i fun _ => natResult (Kp433.proof S (Kp433.indexOf S i)).length (prNums (Kp433.proof S (Kp433.indexOf S i)))) := rfl
  refine ⟨_, rfl, _, rfl, na, _, _, _, rfl, rfl, SqL.of hn, atI_nat (j := 0) rfl, A, S, i, rfl, hF, W, fun k M m H1 hm hM hk hid hkk hidx e1 => ?_, fun hm => qE (-2) (st.trans (by rw [wm_none hm]))⟩
  have hF1 := e1.sf hF
  have rM := hF1.at hM hk
  refine ⟨_, rfl, A.p, _, A.dx, _, _, rfl, hF1.obj, T.Store.cl, T.Store_no_members, sF_mem _ _ _, _, rfl, _, rfl, M.p, _, M.dx, _, _, rfl, rM.1, T.Member.cl, T.Member_no_number, mF_num _ _, A, S, m.id, rfl, hF1, W, fun H2 e2 => ?_⟩
  rw [hid, ← hkk]
  have hF2 := e2.sf hF1
  have hkl := lt_of_get hk
  refine ⟨_, S.members, k, rfl, hF2.msr, wf_len W, W.ms, hkl, fun v3 H3 e3 h3 => ?_⟩
  have epr : Kp433.proof S (Kp433.indexOf S i) = Kp433.proofFrom 8 (S.members.map Kp433.leafHash) k := by rw [hidx]; rfl
  have h9 : (Kp433.proofFrom 8 (S.members.map Kp433.leafHash) k).length ≤ 9 := by
    rw [← proof_chain 8 _ _ (by rw [List.length_map]; exact hkl) (by rw [List.length_map]; have := W.ms; omega)]
    exact Nat.le_trans (proofC_len _ _) (chain_len _ _)
  rw [← epr] at h3 h9
  generalize Kp433.proof S (Kp433.indexOf S i) = pr at h3 h9 st
  obtain ⟨p, xs, rfl, hp, hxs⟩ := h3
  have lx := hxs.length
  refine ⟨_, rfl, p, xs, rfl, .inl (SqL.of hp), (by show 1 ≤ sizeLine; decide), fun D1 hD1 => ?_⟩
  rw [lx]
  generalize hH4 : upd H3 D1 (.lst [.int (pr.length : Nat)]) = H4
  have e4 : Ex T.Tb H3 H4 := hH4 ▸ .new hD1
  have hD4 : H4 D1 = some (.lst ((pr.length :: prNums (pr.take 0)).map nV)) := hH4 ▸ upd_same
  refine ⟨_, rfl, p, rfl, ⟨_, SqL.of (e4.lst hp)⟩, for_list (xs := xs) (fun j σ H' => ∃ y6 y7, σ = [some (.ref A.p), some (.ref na), some r, some (.ref M.p), some (.ref p), some (.ref D1), y6, y7] ∧ Ex T.Tb H3 H' ∧ H' D1 = some (.lst ((pr.length :: prNums (pr.take j)).map nV))) ⟨_, _, rfl, e4, hD4⟩ (fun j σ H' _ ⟨_, _, _, e, _⟩ => SqL.of (e.lst hp)) ?_ ?_⟩
  · rintro j x σ H5 hx ⟨y6, y7, rfl, e5, h5⟩
    obtain ⟨z, hz, r2⟩ := hxs.get hx
    obtain ⟨t, rfl, ht⟩ := e5.prv r2
    have lj := lt_of_get hz
    refine ⟨t, _, rfl, SqT.of ht, rfl, _, _, rfl, _, _, rfl, rfl, _, rfl, .inl ⟨rfl, _, SqL.of h5⟩, _, rfl, (by show 1 ≤ sizeLine; decide), fun o ho => ?_⟩
    have e6 := Ex.new (Tb := T.Tb) (o := .lst [nV z.1]) ho
    refine ⟨_, rfl, z.2, rfl, fun v7 H7 e7 h7 => ?_⟩
    obtain ⟨b, rfl, hb⟩ := h7
    refine ⟨o, b, _, _, rfl, rfl, e7.lst upd_same, hb, (by rw [List.length_map]; show 1 + 2 ≤ sizeLine; decide), fun c hc => ?_⟩
    have e8 := Ex.new (Tb := T.Tb) (o := .lst ([nV z.1] ++ (halves z.2).map nV)) hc
    have e68 := e6.trans (e7.trans e8)
    refine ⟨D1, c, _, _, rfl, rfl, e68.lst h5, upd_same, ?_, some (nV z.1), some (nV z.2), rfl, (e5.trans e68).mut hD1 (e68.lst h5) True.intro, ?_⟩
    · simp only [List.length_append, List.length_map, List.length_cons, prNums_len, List.length_take, List.length_nil]
      have : (halves z.2).length = 2 := rfl
      exact Nat.le_trans (show _ ≤ 100 by omega) (by decide)
    · rw [upd_same, tk hz, prNums_snoc]
      simp only [List.map_cons, List.map_append, List.cons_append]
      rfl
  · rintro σ H5 ⟨y6, y7, rfl, e5, h5⟩
    rw [lx, List.take_length] at h5
    exact ⟨_, rfl, q.same hF (st.trans (by rw [wm_some hm])) ((e1.trans e2).trans (e3.trans e5)) (nl_ans ⟨D1, rfl, h5⟩)⟩
abbrev R_check_proof : List Nat → List Nat → Call → Prop := fun ns rs c => ∃ a b x y, ns = [a, b, x, y] ∧ c = .checkProof a b x y rs
theorem ok_check_proof (T : Txt K mg) : FnOk P w K mg base (L2.CX P w) 7 T.check_proof.f T.check_proof.fd ["store", "numbers", "row"] (DSp T R_check_proof) := by
  refine T.check_proof.F.okX sc_check_proof (fun vs H Q E h => ?_) (fun cdv A outer s H vs Q E hr h => ⟨_, (pss_cons (ps_asg (pv 1) (pg_unl (by rfl) (pgs_cons (pg_name (i := 3) sc_check_proof.nd rfl (Or.inl rfl)) (pgs_cons (pg_name (i := 4) sc_check_proof.nd rfl (Or.inl rfl)) (pgs_cons (pg_name (i := 5) sc_check_proof.nd rfl (Or.inl rfl)) (pgs_cons (pg_name (i := 6) sc_check_proof.nd rfl (Or.inl rfl)) pgs_nil))))))
    (pss_cons (ps_expr (pe_call (ok_ask T) (hr.mono (by decide)) rfl T.ask.g T.ask.F.kp T.ask.b .nil passE (pa_cons (pe_call (ok_are_steps T) (hr.mono (by decide)) rfl T.are_steps.g T.are_steps.F.kp T.are_steps.b .nil pass0 (pa_cons (pv 2) pa_nil)) (pa_cons (pe_glob (v := .int (-22)) rfl T.BAD_ARGUMENT.g ⟨_, rfl⟩) pa_nil))))
    (pss_one (ps_ret (pe_lst (pa_cons (pe_callTy call_int1 (by rfl) T.int_ (by decide +kernel) (pa_cons (pe_cmpR op_eq (pe_call (ok_end_of T) (hr.mono (by decide)) rfl T.end_of.g T.end_of.F.kp T.end_of.b .nil pass0 (pa_cons (pe_call (ok_value_of T) (hr.mono (by decide)) rfl T.value_of.g T.value_of.F.kp T.value_of.b .nil pass0 (pa_cons (pv 3) (pa_cons (pv 4) pa_nil))) (pa_cons (pv 2) pa_nil))) (pe_call (ok_value_of T) (hr.mono (by decide)) rfl T.value_of.g T.value_of.F.kp T.value_of.b .nil pass0 (pa_cons (pv 5) (pa_cons (pv 6) pa_nil))) (nomark _)) pa_nil)) pa_nil)))))), ?_⟩)
  · obtain ⟨_, _, _, _, _, _, _, rfl, _⟩ := h
    rfl
  obtain ⟨A, S, n, r, ns, rs, cl, rfl, D, ⟨a, b, x, y, rfl, rfl⟩, q, qE⟩ := h
  obtain ⟨na, rfl, hn⟩ := D.num
  have hF := D.sf
  have st : ∀ o, Kp433.stepsOf rs = o → Kp433.step (some S) (.checkProof a b x y rs) = (some S, match o with
    | none => single (-22)
    | some steps => single (if Kp433.foldProof (Kp433.join a b) steps = Kp433.join x y then 1 else 0)) := fun o h => by rw [← h]; rfl
  refine ⟨_, rfl, na, _, rfl, SqL.of hn, rfl, _, _, rfl, _, _, rfl, _, _, rfl, _, _, rfl, rfl, _, rfl, r, rs, rfl, D.row, by have := D.rl; omega, fun H1 e1 => ⟨_, _, rfl, fun hb => ?_, fun hb => ?_⟩⟩
  · obtain ⟨stp, hs⟩ := Option.isSome_iff_exists.mp hb
    refine ⟨_, rfl, _, rfl, a, b, rfl, _, rfl, Kp433.join a b, r, rs, stp, rfl, e1.nl D.row, D.rl, hs, fun H2 e2 => ⟨_, rfl, _, rfl, x, y, rfl, rfl, .inr ⟨_, rfl, (by show 1 ≤ sizeLine; decide), fun o ho => ?_⟩⟩⟩
    refine q.same hF (st _ hs) ((e1.trans e2).trans (.new ho)) ⟨o, rfl, ?_⟩
    rw [upd_same]
    by_cases c : Kp433.foldProof (Kp433.join a b) stp = Kp433.join x y
    · rw [decide_eq_true (show nV (Kp433.foldProof (Kp433.join a b) stp) = nV (Kp433.join x y) by rw [c])]
      show some (HO.lst [V.int 1]) = some (HO.lst [V.int (if _ then 1 else 0)])
      rw [if_pos c]
    · rw [decide_eq_false (show ¬ nV (Kp433.foldProof (Kp433.join a b) stp) = nV (Kp433.join x y) from fun z => c (by have := V.int.inj z; omega))]
      show some (HO.lst [V.int 0]) = some (HO.lst [V.int (if _ then 1 else 0)])
      rw [if_neg c]
  · have hs : Kp433.stepsOf rs = none := by
      cases h : Kp433.stepsOf rs with
      | none => rfl
      | some _ => rw [h] at hb; cases hb
    exact (qE (-22) (st _ hs)).mono e1
abbrev R_root_without : List Nat → List Nat → Call → Prop := fun ns _ c => ∃ i, ns = [i] ∧ c = .rootWithout i
theorem filter_one {n : Nat} : ∀ {l : List Kp433.Member} {m : Kp433.Member}, Inc l → (l.find? fun x => x.id == n) = some m → (l.filter fun x => x.id != n).length = l.length - 1
  | [], _, _, h => by cases h
  | x :: l, m, hi, h => by
    unfold Inc at hi
    rw [List.pairwise_cons] at hi
    by_cases c : x.id = n
    · rw [List.filter_cons, if_neg (by rw [c]; simp)]
      have : l.filter (fun x => x.id != n) = l := by
        rw [List.filter_eq_self]
        intro y hy
        have := hi.1 y hy
        have : y.id ≠ n := by omega
        simpa using this
      rw [this]; rfl
    · have cb : (x.id == n) = false := by simpa using c
      rw [List.find?_cons_of_neg (by rw [cb]; exact Bool.false_ne_true)] at h
      rw [List.filter_cons, if_pos (by simpa using c), List.length_cons, filter_one hi.2 h, List.length_cons]
      have := List.length_pos_of_mem (List.mem_of_find?_eq_some h)
      omega
theorem ok_root_without (T : Txt K mg) : FnOk P w K mg base (L2.CX P w) 9 T.root_without.f T.root_without.fd ["store", "numbers", "row"] (DSp T R_root_without) := by
  refine T.root_without.F.okX sc_root_without (fun vs H Q E h => ?_) (fun cdv A outer s H vs Q E hr h => ⟨_, (pss_cons (ps_expr (pe_call (ok_ask T) (hr.mono (by decide)) rfl T.ask.g T.ask.F.kp T.ask.b .nil passE (pa_cons (pe_call (ok_has_member T) (hr.mono (by decide)) rfl T.has_member.g T.has_member.F.kp T.has_member.b .nil pass0 (pa_cons (pv 0) (pa_cons (pe_ix ix_list (pv 1) pe_int (fun _ _ => rfl)) pa_nil))) (pa_cons (pe_glob (v := .int (-2)) rfl T.NOT_THERE.g ⟨_, rfl⟩) pa_nil))))
    (pss_cons (ps_set (i := 3) sc_root_without.nd rfl (Or.inl rfl) (pe_call (ok_others_than T) (hr.mono (by decide)) rfl T.others_than.g T.others_than.F.kp T.others_than.b .nil pass0 (pa_cons (pv 0) (pa_cons (pe_ix ix_list (pv 1) pe_int (fun _ _ => rfl)) pa_nil))))
    (pss_one (ps_ret (pe_op op_cat (pe_lst (pa_cons (pe_callB call_len_seq (by rfl) T.len_ PySem.boot_len (pa_cons (pv 3) pa_nil)) pa_nil)) (pe_call (ok_halves_of T) (hr.mono (by decide)) rfl T.halves_of.g T.halves_of.F.kp T.halves_of.b .nil pass0 (pa_cons (pe_call (ok_root_of T) (hr.mono (by decide)) rfl T.root_of.g T.root_of.F.kp T.root_of.b .nil pass0 (pa_cons (pv 3) pa_nil)) pa_nil))))))), ?_⟩)
  · obtain ⟨_, _, _, _, _, _, _, rfl, _⟩ := h
    rfl
  obtain ⟨A, S, n, r, ns, rs, cl, rfl, D, ⟨i, rfl, rfl⟩, q, qE⟩ := h
  obtain ⟨na, rfl, hn⟩ := D.num
  have hF := D.sf
  have W := D.wf
  have st : Kp433.step (some S) (.rootWithout i) = (some S, withMember S i fun _ => natResult (S.members.length - 1) (halves (Kp433.root { S with members := S.members.filter fun x => x.id != i }))) := rfl
  refine ⟨_, rfl, _, rfl, na, _, _, _, rfl, rfl, SqL.of hn, atI_nat (j := 0) rfl, A, S, i, rfl, hF, W, fun H1 e1 => ⟨_, _, rfl, fun hb => ?_, fun hb => ?_⟩⟩
  · obtain ⟨m, hm⟩ := Option.isSome_iff_exists.mp hb
    have hF1 := e1.sf hF
    refine ⟨_, rfl, _, rfl, na, _, _, _, rfl, rfl, SqL.of (e1.lst hn), atI_nat (j := 0) rfl, A, S, i, rfl, hF1, W, fun c H2 ms e2 nc hc hsub hms => ?_⟩
    have lms : ms.length = S.members.length - 1 := by rw [hms.length]; exact filter_one W.inc hm
    refine ⟨_, rfl, c, _, rfl, .inl (SqL.of hc), (by show 1 ≤ sizeLine; decide), fun o ho => ?_⟩
    rw [List.length_map, lms]
    have e3 := Ex.new (Tb := T.Tb) (o := .lst [.int (S.members.length - 1 : Nat)]) ho
    refine ⟨_, rfl, _, S.members.filter fun x => x.id != i, rfl, ⟨c, _, rfl, e3.lst hc, hms.mapL fun _ _ _ _ r => (e3.mema r).r⟩, fun m hm => wf_len W m (List.mem_filter.mp hm).1, Nat.le_trans (List.length_filter_le _ _) W.ms, fun H4 e4 => ⟨_, rfl, fun v5 H5 e5 h5 => ?_⟩⟩
    obtain ⟨p, rfl, hp⟩ := h5
    refine ⟨o, p, _, _, rfl, rfl, (e4.trans e5).lst upd_same, hp, (by rw [List.length_map]; show 1 + 2 ≤ sizeLine; decide), fun c2 hc2 => ?_⟩
    refine q.same hF (st.trans (by rw [wm_some hm])) ((e1.trans e2).trans (e3.trans ((e4.trans e5).trans (.new hc2)))) (nl_ans ⟨c2, rfl, ?_⟩)
    rw [upd_same, root_eq]
    rfl
  · have hm : memberWith S i = none := by
      cases h : memberWith S i with
      | none => rfl
      | some _ => rw [h] at hb; cases hb
    exact (qE (-2) (st.trans (by rw [wm_none hm]))).mono e1
end
end FpS
/-! # absence, status -/
namespace FpS
open PySem PySem.Spec PyProof.Rows L2
open Kp433 (Store Call Ans memberWith withMember natResult single listResult optionNumber)
def aboveN (l : List Kp433.Member) (n : Nat) : List Kp433.Member := l.filter fun m => decide (n < m.id)
theorem above_head {n : Nat} {l : List Kp433.Member} : (aboveN l n).head? = l.find? fun m => decide (n < m.id) := by
  unfold aboveN
  rw [List.head?_filter]
theorem inc_last {l : List Kp433.Member} (h : Inc l) {m : Kp433.Member} (hl : l.getLast? = some m) : ∀ x ∈ l, x.id ≤ m.id := by
  intro x hx
  obtain ⟨i, hi⟩ := List.getElem?_of_mem hx
  rw [List.getLast?_eq_getElem?] at hl
  obtain ⟨l1, e1⟩ := List.getElem?_eq_some_iff.mp hi
  obtain ⟨l2, e2⟩ := List.getElem?_eq_some_iff.mp hl
  rcases Nat.lt_or_ge i (l.length - 1) with c | c
  · have := (List.pairwise_iff_getElem.mp h) i (l.length - 1) l1 l2 c
    rw [e1, e2] at this
    omega
  · have e : i = l.length - 1 := by omega
    subst e
    rw [e1] at e2
    rw [e2]
    exact Nat.le_refl _
theorem inc_head {l : List Kp433.Member} (h : Inc l) {m : Kp433.Member} (hl : l.head? = some m) : ∀ x ∈ l, m.id ≤ x.id := by
  intro x hx
  cases l with
  | nil => cases hl
  | cons y l =>
    cases Option.some.inj hl
    unfold Inc at h
    rw [List.pairwise_cons] at h
    rcases List.mem_cons.mp hx with e | e
    · rw [e]; exact Nat.le_refl _
    · exact Nat.le_of_lt (h.1 x e)
section
variable {P : Program} {w : World} {K : PySem.W.Frag} {mg : Str → Option Value} {base : Heap}
abbrev R_absence : List Nat → List Nat → Call → Prop := fun ns _ c => ∃ i, ns = [i] ∧ c = .absence i
def plus1 (l : List Kp433.Member) : List Int := l.map fun m => (m.id : Int) + 1
theorem ok_absence (T : Txt K mg) : FnOk P w K mg base (L2.CX P w) 5 T.absence.f T.absence.fd ["store", "numbers", "row"] (DSp T R_absence) := by
  refine T.absence.F.okX sc_absence (fun vs H Q E h => ?_) (fun cdv A outer s H vs Q E hr h => ⟨_, (pss_cons (ps_set (i := 3) sc_absence.nd rfl (Or.inr rfl) (pe_ix ix_list (pv 1) pe_int (fun _ _ => rfl)))
    (pss_cons (ps_expr (pe_call (ok_ask T) (hr.mono (by decide)) rfl T.ask.g T.ask.F.kp T.ask.b .nil passE (pa_cons (pe_not (pe_call (ok_has_member T) (hr.mono (by decide)) rfl T.has_member.g T.has_member.F.kp T.has_member.b .nil pass0 (pa_cons (pv 0) (pa_cons (pv 3) pa_nil)))) (pa_cons (pe_glob (v := .int (-17)) rfl T.THERE_ALREADY.g ⟨_, rfl⟩) pa_nil))))
    (pss_cons (ps_setLc (i := 4) (own := [("member", 6)]) (by rfl) sc_absence.nd rfl rfl (sw_true rfl rfl rfl (by decide +kernel)) (pi_list (pe_fld (pv 0) rfl)) (blkOk_by (own := [("member", 6)]) (N := N_absence) (sc := defScope s_absence) (by decide +kernel)) (fun _ _ _ _ _ => (pg_name (i := 6) sc_absence.nd rfl (Or.inl rfl))) (fun _ _ _ _ _ => (pts_one (pt_cmpR op_lt (pe_fldK K rfl (pv 6) rfl) (pv 3) (nomark _)))) (fun _ _ _ _ _ => (pe_op op_add (pe_fldK K rfl (pv 6) rfl) pe_int)))
    (pss_cons (ps_setLc (i := 5) (own := [("member", 6)]) (by rfl) sc_absence.nd rfl rfl (sw_true rfl rfl rfl (by decide +kernel)) (pi_list (pe_fld (pv 0) rfl)) (blkOk_by (own := [("member", 6)]) (N := N_absence) (sc := defScope s_absence) (by decide +kernel)) (fun _ _ _ _ _ => (pg_name (i := 6) sc_absence.nd rfl (Or.inl rfl))) (fun _ _ _ _ _ => (pts_one (pt_cmpR op_gt (pe_fldK K rfl (pv 6) rfl) (pv 3) (nomark _)))) (fun _ _ _ _ _ => (pe_op op_add (pe_fldK K rfl (pv 6) rfl) pe_int)))
    (pss_one (ps_ret (pe_lst (pa_cons pe_int (pa_cons (pe_callBK (cr_maxD rfl) (by rfl) T.max_ (by decide +kernel) (pa_cons (pv 4) pa_nil) (pk_cons pe_int pk_nil)) (pa_cons (pe_callBK (cr_minD rfl) (by rfl) T.min_ (by decide +kernel) (pa_cons (pv 5) pa_nil) (pk_cons pe_int pk_nil)) pa_nil)))))))))), ?_⟩)
  · obtain ⟨_, _, _, _, _, _, _, rfl, _⟩ := h
    rfl
  obtain ⟨A, S, n, r, ns, rs, cl, rfl, D, ⟨i, rfl, rfl⟩, q, qE⟩ := h
  obtain ⟨na, rfl, hn⟩ := D.num
  have hF := D.sf
  have W := D.wf
  have st : Kp433.step (some S) (.absence i) = (some S, if (memberWith S i).isSome then single (-17) else natResult 0 [optionNumber (Kp433.neighbours S i).1, optionNumber (Kp433.neighbours S i).2]) := rfl
  have lm := hF.ms.length
  have h6 : A.mems.length ≤ 6 := by rw [lm]; exact W.ms
  refine ⟨_, rfl, na, _, _, _, rfl, rfl, SqL.of hn, atI_nat (j := 0) rfl, _, rfl, _, rfl, A, S, i, rfl, hF, W, fun H1 e1 => ⟨_, rfl, _, _, rfl, fun hb => ?_, fun hb => (qE (-17) (st.trans (by rw [if_pos (show (memberWith S i).isSome = true by cases h : (memberWith S i).isSome with | true => rfl | false => (rw [h] at hb; cases hb))]))).mono e1⟩⟩
  have hs : ¬ (memberWith S i).isSome = true := by
    intro h
    rw [h] at hb
    cases hb
  have hF1 := e1.sf hF
  -- below
  refine ⟨_, rfl, A.p, _, A.dx, _, _, rfl, hF1.obj, T.Store.cl, T.Store_no_members, sF_mem _ _ _, A.ma, rfl, ⟨_, SqL.of hF1.mem⟩, fun D1 hD1 => lc_ex (walk_list (K := K) (a := A.ma) (xs := A.mems.map fun m => V.ref m.p)) (Tb := T.Tb) (fun j acc G => acc = (plus1 (belowN (S.members.take j) i)).map V.int) (by rw [List.length_map]; exact Nat.lt_of_le_of_lt h6 (by decide)) hD1 (fun H' e => SqL.of (e.lst hF1.mem)) rfl ?_ ?_⟩
  · rintro j x acc G H' Nx hj eG gD rfl ⟨rfl, hx⟩ kY kN
    obtain ⟨m, a, hm, ha, rfl, r2⟩ := ms_get hF1 hx
    have eH := eG.trans (Ex.new (Tb := T.Tb) (o := .lst ((plus1 (belowN (S.members.take j) i)).map V.int)) gD)
    have r3 := (eH.mema r2).1
    have ef : belowN (S.members.take (j + 1)) i = belowN (S.members.take j) i ++ if a.id < i then [a] else [] := by
      unfold belowN
      rw [tk ha, List.filter_append, List.filter_cons]
      by_cases c : a.id < i
      · rw [if_pos c, if_pos (decide_eq_true c)]; rfl
      · rw [if_neg c, decide_eq_false c]; rfl
    refine ⟨rfl, _, rfl, m.p, _, m.dx, _, _, rfl, r3, T.Member.cl, T.Member_no_number, mF_num _ _, _, rfl, _, _, rfl, rfl, _, rfl, ?_⟩
    by_cases c : a.id < i
    · rw [decide_eq_true (show (a.id : Int) < (i : Int) by omega)]
      refine iteT ⟨_, rfl, m.p, _, m.dx, _, _, rfl, r3, T.Member.cl, T.Member_no_number, mF_num _ _, _, _, rfl, rfl, kY _ _ (.refl _) fun G' _ _ _ => ?_⟩
      rw [ef, if_pos c]
      unfold plus1
      rw [List.map_append, List.map_append]
      rfl
    · rw [decide_eq_false (show ¬ (a.id : Int) < (i : Int) by omega)]
      refine iteF (kN _ (.refl _) fun G' _ _ _ => ?_)
      rw [ef, if_neg c, List.append_nil]
  rintro acc G eG gD rfl
  rw [List.length_map, lm, List.take_length]
  have e2 := eG.trans (Ex.new (Tb := T.Tb) (o := .lst ((plus1 (belowN S.members i)).map V.int)) gD)
  have hF2 := e2.sf hF1
  have hD1' : upd G D1 (.lst ((plus1 (belowN S.members i)).map V.int)) D1 = some (.lst ((plus1 (belowN S.members i)).map V.int)) := upd_same
  generalize upd G D1 (.lst ((plus1 (belowN S.members i)).map V.int)) = H2 at e2 hF2 hD1' ⊢
  -- above
  refine ⟨_, rfl, A.p, _, A.dx, _, _, rfl, hF2.obj, T.Store.cl, T.Store_no_members, sF_mem _ _ _, A.ma, rfl, ⟨_, SqL.of hF2.mem⟩, fun D2 hD2 => lc_ex (walk_list (K := K) (a := A.ma) (xs := A.mems.map fun m => V.ref m.p)) (Tb := T.Tb) (fun j acc G => acc = (plus1 (aboveN (S.members.take j) i)).map V.int) (by rw [List.length_map]; exact Nat.lt_of_le_of_lt h6 (by decide)) hD2 (fun H' e => SqL.of (e.lst hF2.mem)) rfl ?_ ?_⟩
  · rintro j x acc G H' Nx hj eG gD rfl ⟨rfl, hx⟩ kY kN
    obtain ⟨m, a, hm, ha, rfl, r2⟩ := ms_get hF2 hx
    have eH := eG.trans (Ex.new (Tb := T.Tb) (o := .lst ((plus1 (aboveN (S.members.take j) i)).map V.int)) gD)
    have r3 := (eH.mema r2).1
    have ef : aboveN (S.members.take (j + 1)) i = aboveN (S.members.take j) i ++ if i < a.id then [a] else [] := by
      unfold aboveN
      rw [tk ha, List.filter_append, List.filter_cons]
      by_cases c : i < a.id
      · rw [if_pos c, if_pos (decide_eq_true c)]; rfl
      · rw [if_neg c, decide_eq_false c]; rfl
    refine ⟨rfl, _, rfl, m.p, _, m.dx, _, _, rfl, r3, T.Member.cl, T.Member_no_number, mF_num _ _, _, rfl, _, _, rfl, rfl, _, rfl, ?_⟩
    by_cases c : i < a.id
    · rw [decide_eq_true (show (i : Int) < (a.id : Int) by omega)]
      refine iteT ⟨_, rfl, m.p, _, m.dx, _, _, rfl, r3, T.Member.cl, T.Member_no_number, mF_num _ _, _, _, rfl, rfl, kY _ _ (.refl _) fun G' _ _ _ => ?_⟩
      rw [ef, if_pos c]
      unfold plus1
      rw [List.map_append, List.map_append]
      rfl
    · rw [decide_eq_false (show ¬ (i : Int) < (a.id : Int) by omega)]
      refine iteF (kN _ (.refl _) fun G' _ _ _ => ?_)
      rw [ef, if_neg c, List.append_nil]
  rintro acc G2 eG2 gD2 rfl
  rw [List.length_map, lm, List.take_length]
  have e3 := eG2.trans (Ex.new (Tb := T.Tb) (o := .lst ((plus1 (aboveN S.members i)).map V.int)) gD2)
  have hD2' : upd G2 D2 (.lst ((plus1 (aboveN S.members i)).map V.int)) D2 = some (.lst ((plus1 (aboveN S.members i)).map V.int)) := upd_same
  have hD1'' := e3.lst hD1'
  generalize upd G2 D2 (.lst ((plus1 (aboveN S.members i)).map V.int)) = H3 at e3 hD2' hD1'' ⊢
  have iB : Inc (belowN S.members i) := W.inc.filter _
  have iA : Inc (aboveN S.members i) := W.inc.filter _
  -- the end, at any two answers
  have fin : ∀ o, H3 o = none → ∀ x y : Int, x = ((optionNumber (Kp433.neighbours S i).1 : Nat) : Int) → y = ((optionNumber (Kp433.neighbours S i).2 : Nat) : Int) → Q (.ref o) (upd H3 o (.lst [.int 0, .int x, .int y])) := fun o ho x y hx hy => by
    refine q.same hF (st.trans (by rw [if_neg hs])) (e1.trans (e2.trans (e3.trans (.new ho)))) (nl_ans ⟨o, rfl, ?_⟩)
    rw [upd_same, hx, hy]
    rfl
  have bx : ∀ x : Int, (plus1 (belowN S.members i) = [] → x = 0) → (plus1 (belowN S.members i) ≠ [] → x ∈ plus1 (belowN S.members i) ∧ ∀ y ∈ plus1 (belowN S.members i), y ≤ x) → x = ((optionNumber (Kp433.neighbours S i).1 : Nat) : Int) := fun x h0 h1 => by
    have en : (Kp433.neighbours S i).1 = ((belowN S.members i).getLast?).map Kp433.Member.id := rfl
    rw [en]
    cases hl : (belowN S.members i).getLast? with
    | none =>
      rw [List.getLast?_eq_none_iff] at hl
      rw [h0 (by rw [hl]; rfl)]
      rfl
    | some m =>
      have hne : plus1 (belowN S.members i) ≠ [] := fun z => by
        have : belowN S.members i = [] := List.map_eq_nil_iff.mp z
        rw [this] at hl; cases hl
      obtain ⟨q1, q2⟩ := h1 hne
      have mm : m ∈ belowN S.members i := List.mem_of_getLast? hl
      have ml := q2 _ (List.mem_map.mpr ⟨m, mm, rfl⟩)
      obtain ⟨z, hz, ez⟩ := List.mem_map.mp q1
      have := inc_last iB hl z hz
      show x = ((m.id + 1 : Nat) : Int)
      omega
  have by_ : ∀ x : Int, (plus1 (aboveN S.members i) = [] → x = 0) → (plus1 (aboveN S.members i) ≠ [] → x ∈ plus1 (aboveN S.members i) ∧ ∀ y ∈ plus1 (aboveN S.members i), x ≤ y) → x = ((optionNumber (Kp433.neighbours S i).2 : Nat) : Int) := fun x h0 h1 => by
    have en : (Kp433.neighbours S i).2 = ((aboveN S.members i).head?).map Kp433.Member.id := by rw [above_head]; rfl
    rw [en]
    cases hl : (aboveN S.members i).head? with
    | none =>
      rw [List.head?_eq_none_iff] at hl
      rw [h0 (by rw [hl]; rfl)]
      rfl
    | some m =>
      have hne : plus1 (aboveN S.members i) ≠ [] := fun z => by
        have : aboveN S.members i = [] := List.map_eq_nil_iff.mp z
        rw [this] at hl; cases hl
      obtain ⟨q1, q2⟩ := h1 hne
      have mm : m ∈ aboveN S.members i := List.mem_of_head? hl
      have ml := q2 _ (List.mem_map.mpr ⟨m, mm, rfl⟩)
      obtain ⟨z, hz, ez⟩ := List.mem_map.mp q1
      have := inc_head iA hl z hz
      show x = ((m.id + 1 : Nat) : Int)
      omega
  have second : ∀ x : Int, x = ((optionNumber (Kp433.neighbours S i).1 : Nat) : Int) → ∃ v, ([some (V.ref A.p), some (V.ref na), some r, some (nV i), some (V.ref D1), some (V.ref D2), none] : L2.St)[5]? = some (some v) ∧ ∃ (a : Addr) (ns : List Int) (d : Int), [v] = [.ref a] ∧ [V.int 0] = [.int d] ∧ SqL K H3 a (ns.map V.int) ∧ (ns = [] → 3 ≤ sizeLine ∧ ∀ o, H3 o = none → Q (.ref o) (upd H3 o (.lst [.int 0, .int x, .int d]))) ∧ ∀ m, m ∈ ns → (∀ y, y ∈ ns → m ≤ y) → 3 ≤ sizeLine ∧ ∀ o, H3 o = none → Q (.ref o) (upd H3 o (.lst [.int 0, .int x, .int m])) := fun x hx => by
    refine ⟨_, rfl, D2, _, 0, rfl, rfl, SqL.of hD2', fun h0 => ⟨by decide, fun o ho => fin o ho _ _ hx (by_ 0 (fun _ => rfl) fun z => absurd h0 z)⟩, fun m hm hmin => ⟨by decide, fun o ho => fin o ho _ _ hx (by_ m (fun z => ?_) fun _ => ⟨hm, hmin⟩)⟩⟩
    rw [z] at hm; cases hm
  refine ⟨_, rfl, D1, _, 0, rfl, rfl, SqL.of hD1'', fun h0 => ?_, fun m hm hmax => ?_⟩
  · exact second _ (bx 0 (fun _ => rfl) fun z => absurd h0 z)
  · exact second _ (bx m (fun z => by rw [z] at hm; cases hm) fun _ => ⟨hm, hmax⟩)
abbrev R_status : List Nat → List Nat → Call → Prop := fun _ _ c => c = .status
theorem ok_status (T : Txt K mg) : FnOk P w K mg base (L2.CX P w) 4 T.status.f T.status.fd ["store", "numbers", "row"] (DSp T R_status) := by
  refine T.status.F.okX sc_status (fun vs H Q E h => ?_) (fun cdv A outer s H vs Q E hr h => ⟨_, (pss_one (ps_ret (pe_lst (pa_cons (pe_fld (pv 0) rfl) (pa_cons (pe_callB call_len_seq (by rfl) T.len_ PySem.boot_len (pa_cons (pe_fld (pv 0) rfl) pa_nil)) (pa_cons (pe_callB (cr_sum rfl) (by rfl) T.sum_ (by decide +kernel) (pa_cons (by exact (pe_lc (own := [("member", 3)]) (by rfl) sc_status.nd (pi_list (pe_fld (pv 0) rfl)) (blkOk_by (own := [("member", 3)]) (N := N_status) (sc := defScope s_status) (by decide +kernel)) (fun _ _ _ _ _ => (pg_name (i := 3) sc_status.nd rfl (Or.inl rfl))) (fun _ _ _ _ _ => pts_nil) (fun _ _ _ _ _ => (pe_callB (call_lenK K rfl) (by rfl) T.len_ PySem.boot_len (pa_cons (pe_fldK K rfl (pv 3) rfl) pa_nil))))) pa_nil)) pa_nil)))))), ?_⟩)
  · obtain ⟨_, _, _, _, _, _, _, rfl, _⟩ := h
    rfl
  obtain ⟨A, S, n, r, ns, rs, cl, rfl, D, rfl, q, qE⟩ := h
  have hF := D.sf
  have W := D.wf
  have st : Kp433.step (some S) .status = (some S, natResult S.items [S.members.length, (S.members.map fun m => m.events.length).sum]) := rfl
  have lm := hF.ms.length
  have h6 : A.mems.length ≤ 6 := by rw [lm]; exact W.ms
  refine ⟨_, rfl, A.p, _, A.dx, _, _, rfl, hF.obj, T.Store.cl, T.Store_no_items_many, sF_items _ _ _, _, rfl, A.p, _, A.dx, _, _, rfl, hF.obj, T.Store.cl, T.Store_no_members, sF_mem _ _ _, A.ma, _, rfl, .inl (SqL.of hF.mem), _, rfl, A.p, _, A.dx, _, _, rfl, hF.obj, T.Store.cl, T.Store_no_members, sF_mem _ _ _, A.ma, rfl, ⟨_, SqL.of hF.mem⟩, fun D1 hD1 => lc_ex (walk_list (K := K) (a := A.ma) (xs := A.mems.map fun m => V.ref m.p)) (Tb := T.Tb) (fun j acc G => acc = ((S.members.take j).map fun m => m.events.length).map nV) (by rw [List.length_map]; exact Nat.lt_of_le_of_lt h6 (by decide)) hD1 (fun H' e => SqL.of (e.lst hF.mem)) rfl ?_ ?_⟩
  · rintro j x acc G H' Nx hj eG gD rfl ⟨rfl, hx⟩ kY kN
    obtain ⟨m, a, hm, ha, rfl, r2⟩ := ms_get hF hx
    have eH := eG.trans (Ex.new (Tb := T.Tb) (o := .lst (((S.members.take j).map fun m => m.events.length).map nV)) gD)
    obtain ⟨r3, ea', xs, e0, hea, hxs⟩ := eH.mema r2
    cases e0
    have lx : xs.length = a.events.length := by rw [hxs.length, List.length_map]
    refine ⟨rfl, _, rfl, m.p, _, m.dx, _, _, rfl, r3, T.Member.cl, T.Member_no_events, mF_ev _ _, m.ea, xs, rfl, .inl (SqL.of hea), kY _ _ (.refl _) fun G' _ _ _ => ?_⟩
    rw [tk ha, List.map_append, List.map_append, lx]
    rfl
  · rintro acc G eG gD rfl
    rw [List.length_map, lm, List.take_length]
    have e2 := eG.trans (Ex.new (Tb := T.Tb) (o := .lst ((S.members.map fun m => m.events.length).map nV)) gD)
    refine ⟨D1, (S.members.map fun m => m.events.length).map (fun n : Nat => (n : Int)), rfl, SqL.of (by rw [upd_same, ← map_nV]), (by show 3 ≤ sizeLine; decide), fun o ho => ?_⟩
    have es : ((S.members.map fun m => m.events.length).map (fun n : Nat => (n : Int))).sum = (((S.members.map fun m => m.events.length).sum : Nat) : Int) := by
      generalize S.members.map (fun m => m.events.length) = ns
      induction ns with
      | nil => rfl
      | cons n ns ih => rw [List.map_cons, List.sum_cons, List.sum_cons, ih, Int.natCast_add]
    rw [es]
    exact q.same hF st (e2.trans (.new ho)) (nl_ans ⟨o, rfl, upd_same⟩)
end
end FpS
/-! # Plain: what a deed leaves is well formed -/
namespace FpS
open Kp433 (Store Call Ans setCell setEvents similarity memberWith insertMember withMember)
theorem wf_new {n : Nat} (h : ¬ (n < 1 ∨ Kp433.maxItems < n)) : Wf ⟨n, (List.range n).map fun i => (List.range n).map fun j => if i = j then 100 else 0, []⟩ := by
  have h6 : n ≤ 6 := by unfold Kp433.maxItems at h; omega
  have hs : ∀ i j, similarity ⟨n, (List.range n).map fun i => (List.range n).map fun j => if i = j then 100 else 0, []⟩ i j = if i < n ∧ j < n ∧ i = j then 100 else 0 := by
    intro i j
    unfold similarity
    rw [List.getD_eq_getElem?_getD, List.getD_eq_getElem?_getD]
    show (((List.range n).map fun i => (List.range n).map fun j => if i = j then 100 else 0)[i]?.getD [])[j]?.getD 0 = _
    rw [List.getElem?_map]
    by_cases hi : i < n
    · rw [List.getElem?_range hi]
      show ((List.range n).map fun j => if i = j then 100 else 0)[j]?.getD 0 = _
      rw [List.getElem?_map]
      by_cases hj : j < n
      · rw [List.getElem?_range hj]
        show (if i = j then 100 else 0) = _
        by_cases e : i = j
        · rw [if_pos e, if_pos ⟨hi, hj, e⟩]
        · rw [if_neg e, if_neg (fun z => e z.2.2)]
      · rw [List.getElem?_eq_none (by rw [List.length_range]; omega), if_neg (fun z => hj z.2.1)]; rfl
    · have e0 : (List.range n)[i]? = none := List.getElem?_eq_none (by rw [List.length_range]; omega)
      rw [e0, if_neg (fun z => hi z.1)]; rfl
  refine ⟨by show 1 ≤ n; omega, h6, ?_, ?_, ?_, ?_, Nat.zero_le _, by simp, .nil⟩
  · show ((List.range n).map _).length = n
    rw [List.length_map, List.length_range]
  · intro r hr
    obtain ⟨i, _, rfl⟩ := List.mem_map.mp hr
    rw [List.length_map, List.length_range]
  · intro i j
    rw [hs, hs]
    by_cases e : i < n ∧ j < n ∧ i = j
    · rw [if_pos e, if_pos ⟨e.2.1, e.1, e.2.2.symm⟩]
    · rw [if_neg e, if_neg (fun z => e ⟨z.2.1, z.1, z.2.2.symm⟩)]
  · intro i j
    rw [hs]
    split <;> omega
theorem sim_set {S : Store} {i j v a b : Nat} {row : List Nat} (hi : S.similarities[i]? = some row) (hj : j < row.length) : similarity (setCell S i j v) a b = if a = i ∧ b = j then v else similarity S a b := by
  have eg : S.similarities.getD i [] = row := by rw [List.getD_eq_getElem?_getD, hi]; rfl
  unfold similarity setCell
  rw [eg]
  show (((S.similarities.set i (row.set j v)).getD a []).getD b 0) = _
  rw [List.getD_eq_getElem?_getD, List.getD_eq_getElem?_getD, List.getD_eq_getElem?_getD, List.getD_eq_getElem?_getD]
  by_cases ea : a = i
  · subst ea
    rw [List.getElem?_set_self (List.getElem?_eq_some_iff.mp hi).1, hi]
    show (row.set j v)[b]?.getD 0 = if a = a ∧ b = j then v else row[b]?.getD 0
    by_cases eb : b = j
    · subst eb
      rw [List.getElem?_set_self hj, if_pos ⟨rfl, rfl⟩]; rfl
    · rw [List.getElem?_set_ne (Ne.symm eb), if_neg (fun z => eb z.2)]
  · rw [List.getElem?_set_ne (Ne.symm ea), if_neg (fun z => ea z.1)]
theorem setCell_rows {S : Store} {n i j v : Nat} (hi : i < S.similarities.length) (hr : ∀ r ∈ S.similarities, r.length = n) : (setCell S i j v).similarities.length = S.similarities.length ∧ ∀ r ∈ (setCell S i j v).similarities, r.length = n := by
  unfold setCell
  refine ⟨List.length_set .., fun r hr2 => ?_⟩
  have hr2 : r ∈ S.similarities.set i ((S.similarities.getD i []).set j v) := hr2
  rcases List.mem_or_eq_of_mem_set hr2 with h | h
  · exact hr r h
  · rw [h, List.length_set, List.getD_eq_getElem?_getD, List.getElem?_eq_getElem hi]
    exact hr _ (List.getElem_mem hi)
theorem wf_sim {S : Store} (W : Wf S) {i j v : Nat} (hi : i < S.items) (hj : j < S.items) (hij : i ≠ j) (hv : v ≤ 100) : Wf (setCell (setCell S i j v) j i v) := by
  have li : i < S.similarities.length := by rw [W.rows]; exact hi
  have lj : j < S.similarities.length := by rw [W.rows]; exact hj
  obtain ⟨r1, r2⟩ := setCell_rows (S := S) (j := j) (v := v) li W.row
  obtain ⟨r3, r4⟩ := setCell_rows (S := setCell S i j v) (i := j) (j := i) (v := v) (by rw [r1]; exact lj) r2
  have g1 : S.similarities[i]? = some S.similarities[i] := List.getElem?_eq_getElem li
  have lj' : j < (setCell S i j v).similarities.length := by rw [r1]; exact lj
  have g2 : (setCell S i j v).similarities[j]? = some (setCell S i j v).similarities[j] := List.getElem?_eq_getElem lj'
  have s1 := fun a b => sim_set (v := v) (a := a) (b := b) g1 (show j < _ by rw [W.row _ (List.getElem_mem li)]; exact hj)
  have s2 := fun a b => sim_set (v := v) (a := a) (b := b) g2 (show i < _ by rw [r2 _ (List.getElem_mem lj')]; exact hi)
  refine ⟨W.lo, W.hi, ?_, r4, ?_, ?_, W.ms, W.mem, W.inc⟩
  · show (setCell (setCell S i j v) j i v).similarities.length = S.items
    rw [r3, r1]; exact W.rows
  · intro a b
    rw [s2, s2, s1, s1, W.sym a b]
    by_cases e1 : a = j ∧ b = i
    · rw [if_pos e1]
      by_cases e2 : b = j ∧ a = i
      · rw [if_pos e2]
      · rw [if_neg e2, if_pos ⟨e1.2, e1.1⟩]
    · rw [if_neg e1]
      by_cases e2 : b = j ∧ a = i
      · rw [if_pos e2, if_pos ⟨e2.2, e2.1⟩]
      · rw [if_neg e2, if_neg (fun z => e2 ⟨z.2, z.1⟩), if_neg (fun z => e1 ⟨z.2, z.1⟩)]
  · intro a b
    rw [s2, s1]
    split
    · exact hv
    · split
      · exact hv
      · exact W.sim a b
theorem wf_mems {S : Store} (W : Wf S) {l : List Kp433.Member} (h1 : l.length ≤ 6) (h2 : ∀ m ∈ l, WfM S.items m) (h3 : Inc l) : Wf { S with members := l } :=
  ⟨W.lo, W.hi, W.rows, W.row, W.sym, W.sim, h1, h2, h3⟩
theorem wf_events {S : Store} (W : Wf S) {id : Nat} {l : List Kp433.Event} (h1 : l.length ≤ 7) (h2 : ∀ e ∈ l, e.item < S.items ∧ 1 ≤ e.weight ∧ e.weight ≤ 10) : Wf (setEvents S id l) := by
  unfold setEvents
  refine wf_mems W (by rw [List.length_map]; exact W.ms) (fun m hm => ?_) ?_
  · obtain ⟨x, hx, rfl⟩ := List.mem_map.mp hm
    by_cases c : x.id = id
    · rw [if_pos c]; exact ⟨(W.mem x hx).id, h1, h2⟩
    · rw [if_neg c]; exact W.mem x hx
  · unfold Inc
    rw [List.pairwise_map]
    refine W.inc.imp fun {a b} h => ?_
    by_cases c1 : a.id = id <;> by_cases c2 : b.id = id <;> simp only [c1, c2, if_true, if_false] <;> omega
theorem find_mem {S : Store} {id : Nat} {m : Kp433.Member} (h : memberWith S id = some m) : m ∈ S.members := List.mem_of_find?_eq_some h
theorem wf_step {S S' : Store} (W : Wf S) : ∀ (c : Call), (Kp433.step (some S) c).1 = some S' → Wf S'
  | .create n, h => by
    have e : Kp433.step (some S) (.create n) = if n < 1 ∨ Kp433.maxItems < n then (some S, Kp433.single (-22)) else (some ⟨n, (List.range n).map fun i => (List.range n).map fun j => if i = j then 100 else 0, []⟩, Kp433.single 0) := rfl
    rw [e] at h
    by_cases c : n < 1 ∨ Kp433.maxItems < n
    · rw [if_pos c] at h; cases Option.some.inj h; exact W
    · rw [if_neg c] at h; cases Option.some.inj h; exact wf_new c
  | .setSimilarity i j v, h => by
    have e : Kp433.step (some S) (.setSimilarity i j v) = if S.items ≤ i ∨ S.items ≤ j then (some S, Kp433.single (-2)) else if i = j ∨ 100 < v then (some S, Kp433.single (-22)) else (some (setCell (setCell S i j v) j i v), Kp433.single (similarity S i j : Nat)) := rfl
    rw [e] at h
    by_cases c : S.items ≤ i ∨ S.items ≤ j
    · rw [if_pos c] at h; cases Option.some.inj h; exact W
    · rw [if_neg c] at h
      by_cases c2 : i = j ∨ 100 < v
      · rw [if_pos c2] at h; cases Option.some.inj h; exact W
      · rw [if_neg c2] at h; cases Option.some.inj h; exact wf_sim W (by omega) (by omega) (fun z => c2 (.inl z)) (by omega)
  | .addMember id, h => by
    have e : Kp433.step (some S) (.addMember id) = if 1000000 < id then (some S, Kp433.single (-22)) else if (memberWith S id).isSome then (some S, Kp433.single (-17)) else if Kp433.maxMembers ≤ S.members.length then (some S, Kp433.single (-28)) else (some { S with members := insertMember ⟨id, []⟩ S.members }, Kp433.single (S.members.length + 1 : Nat)) := rfl
    rw [e] at h
    by_cases c : 1000000 < id
    · rw [if_pos c] at h; cases Option.some.inj h; exact W
    · rw [if_neg c] at h
      by_cases c2 : (memberWith S id).isSome = true
      · rw [if_pos c2] at h; cases Option.some.inj h; exact W
      · rw [if_neg c2] at h
        by_cases c3 : Kp433.maxMembers ≤ S.members.length
        · rw [if_pos c3] at h; cases Option.some.inj h; exact W
        · rw [if_neg c3] at h
          cases Option.some.inj h
          unfold Kp433.maxMembers at c3
          have hne : ∀ x ∈ S.members, x.id ≠ id := fun x hx z => by
            have : memberWith S id = none := by
              cases h : memberWith S id with
              | none => rfl
              | some _ => rw [h] at c2; exact absurd rfl c2
            exact List.find?_eq_none.mp this x hx (by rw [z]; exact beq_self_eq_true id)
          refine wf_mems W (by rw [insert_len]; omega) (fun m hm => ?_) (insert_inc W.inc hne)
          rcases insert_mem hm with e | e
          · rw [e]; exact ⟨by show id ≤ 1000000; omega, Nat.zero_le _, by simp⟩
          · exact W.mem m e
  | .deleteMember id, h => by
    have e : ∀ o, memberWith S id = o → (Kp433.step (some S) (.deleteMember id)).1 = match o with
      | none => some S
      | some _ => some { S with members := S.members.filter fun x => x.id != id } := fun o ho => by
        subst ho
        show (match memberWith S id with
          | none => (some S, Kp433.single (-2))
          | some m => (some { S with members := S.members.filter fun x => x.id != id }, _)).1 = _
        cases memberWith S id <;> rfl
    rw [e _ rfl] at h
    cases hm : memberWith S id with
    | none => rw [hm] at h; cases Option.some.inj h; exact W
    | some m =>
      rw [hm] at h
      cases Option.some.inj h
      exact wf_mems W (Nat.le_trans (List.length_filter_le _ _) W.ms) (fun m hm => W.mem m (List.mem_filter.mp hm).1) (W.inc.filter _)
  | .addEvent id i w, h => by
    have e : ∀ o, memberWith S id = o → Kp433.step (some S) (.addEvent id i w) = (match o with
      | none => (some S, Kp433.single (-2))
      | some m => if S.items ≤ i then (some S, Kp433.single (-2)) else if w < 1 ∨ 10 < w then (some S, Kp433.single (-22)) else if Kp433.maxEvents ≤ m.events.length then (some S, Kp433.single (-28)) else (some (setEvents S id (m.events ++ [⟨i, w⟩])), Kp433.single (m.events.length : Nat))) := fun o h => by rw [← h]; rfl
    rw [e _ rfl] at h
    cases hm : memberWith S id with
    | none => rw [hm] at h; cases Option.some.inj h; exact W
    | some m =>
      rw [hm] at h
      have h : (if S.items ≤ i then (some S, Kp433.single (-2)) else if w < 1 ∨ 10 < w then (some S, Kp433.single (-22)) else if Kp433.maxEvents ≤ m.events.length then (some S, Kp433.single (-28)) else (some (setEvents S id (m.events ++ [⟨i, w⟩])), Kp433.single (m.events.length : Nat))).1 = some S' := h
      have wm := W.mem m (find_mem hm)
      by_cases c : S.items ≤ i
      · rw [if_pos c] at h; cases Option.some.inj h; exact W
      · rw [if_neg c] at h
        by_cases c2 : w < 1 ∨ 10 < w
        · rw [if_pos c2] at h; cases Option.some.inj h; exact W
        · rw [if_neg c2] at h
          by_cases c3 : Kp433.maxEvents ≤ m.events.length
          · rw [if_pos c3] at h; cases Option.some.inj h; exact W
          · rw [if_neg c3] at h
            cases Option.some.inj h
            unfold Kp433.maxEvents at c3
            refine wf_events W (by rw [List.length_append, List.length_singleton]; omega) fun e he => ?_
            rcases List.mem_append.mp he with q | q
            · exact wm.ev e q
            · rw [List.mem_singleton.mp q]; exact ⟨by show i < _; omega, by show 1 ≤ w; omega, by show w ≤ 10; omega⟩
  | .removeEvent id k, h => by
    have e : ∀ o, memberWith S id = o → Kp433.step (some S) (.removeEvent id k) = (match o with
      | none => (some S, Kp433.single (-2))
      | some m => if m.events.length ≤ k then (some S, Kp433.single (-2)) else (some (setEvents S id (m.events.eraseIdx k)), Kp433.single (m.events.length - 1 : Nat))) := fun o h => by rw [← h]; rfl
    rw [e _ rfl] at h
    cases hm : memberWith S id with
    | none => rw [hm] at h; cases Option.some.inj h; exact W
    | some m =>
      rw [hm] at h
      have h : (if m.events.length ≤ k then (some S, Kp433.single (-2)) else (some (setEvents S id (m.events.eraseIdx k)), Kp433.single (m.events.length - 1 : Nat))).1 = some S' := h
      have wm := W.mem m (find_mem hm)
      by_cases c : m.events.length ≤ k
      · rw [if_pos c] at h; cases Option.some.inj h; exact W
      · rw [if_neg c] at h
        cases Option.some.inj h
        refine wf_events W ?_ fun e he => wm.ev e (List.mem_of_mem_eraseIdx he)
        exact Nat.le_trans (List.length_eraseIdx_le _ _) wm.len
  | .events _, h => by cases Option.some.inj h; exact W
  | .scores _, h => by cases Option.some.inj h; exact W
  | .recommend _ _, h => by cases Option.some.inj h; exact W
  | .contributions _ _, h => by cases Option.some.inj h; exact W
  | .margin _, h => by cases Option.some.inj h; exact W
  | .removalSet _, h => by cases Option.some.inj h; exact W
  | .sufficientSet _, h => by cases Option.some.inj h; exact W
  | .robust _ _, h => by cases Option.some.inj h; exact W
  | .shapley _ _, h => by cases Option.some.inj h; exact W
  | .influence _ _, h => by cases Option.some.inj h; exact W
  | .neededWeight _ _ _, h => by cases Option.some.inj h; exact W
  | .whatIf _ _, h => by cases Option.some.inj h; exact W
  | .root, h => by cases Option.some.inj h; exact W
  | .leaf _, h => by cases Option.some.inj h; exact W
  | .proof _, h => by cases Option.some.inj h; exact W
  | .checkProof _ _ _ _ _, h => by cases Option.some.inj h; exact W
  | .absence _, h => by cases Option.some.inj h; exact W
  | .rootWithout _, h => by cases Option.some.inj h; exact W
  | .status, h => by cases Option.some.inj h; exact W
end FpS
/-! # the desk: a call is done -/
namespace FpS
open PySem PySem.Spec PyProof.Rows L2
open Kp433 (Store Call Ans single)
/-- what a call's numbers mean -/
def mkCall (op : Nat) (ns rs : List Nat) : Option Call := match op, ns with
  | 0, [a] => some (.create a)
  | 1, [a, b, c] => some (.setSimilarity a b c)
  | 2, [a] => some (.addMember a)
  | 3, [a] => some (.deleteMember a)
  | 4, [a, b, c] => some (.addEvent a b c)
  | 5, [a, b] => some (.removeEvent a b)
  | 6, [a] => some (.events a)
  | 7, [a] => some (.scores a)
  | 8, [a, b] => some (.recommend a b)
  | 9, [a, b] => some (.contributions a b)
  | 10, [a] => some (.margin a)
  | 11, [a] => some (.removalSet a)
  | 12, [a] => some (.sufficientSet a)
  | 13, [a, b] => some (.robust a b)
  | 14, [a, b] => some (.shapley a b)
  | 15, [a, b] => some (.influence a b)
  | 16, [a, b, c] => some (.neededWeight a b c)
  | 17, [a] => some (.whatIf a rs)
  | 18, [] => some (.root)
  | 19, [a] => some (.leaf a)
  | 20, [a] => some (.proof a)
  | 21, [a, b, c, d] => some (.checkProof a b c d rs)
  | 22, [a] => some (.absence a)
  | 23, [a] => some (.rootWithout a)
  | 24, [] => some (.status)
  | _, _ => none
inductive DeedIs {K : PySem.W.Frag} {mg : Str → Option Value} (T : Txt K mg) : Addr → Sp → Prop
  | d0 : DeedIs T T.set_similarity.f (DSp T R_set_similarity)
  | d1 : DeedIs T T.add_member.f (DSp T R_add_member)
  | d2 : DeedIs T T.delete_member.f (DSp T R_delete_member)
  | d3 : DeedIs T T.add_event.f (DSp T R_add_event)
  | d4 : DeedIs T T.remove_event.f (DSp T R_remove_event)
  | d5 : DeedIs T T.tell_events.f (DSp T R_tell_events)
  | d6 : DeedIs T T.tell_scores.f (DSp T R_tell_scores)
  | d7 : DeedIs T T.recommend.f (DSp T R_recommend)
  | d8 : DeedIs T T.tell_contributions.f (DSp T R_tell_contributions)
  | d9 : DeedIs T T.margin.f (DSp T R_margin)
  | d10 : DeedIs T T.tell_removal_set.f (DSp T R_tell_removal_set)
  | d11 : DeedIs T T.tell_sufficient_set.f (DSp T R_tell_sufficient_set)
  | d12 : DeedIs T T.robust.f (DSp T R_robust)
  | d13 : DeedIs T T.shapley.f (DSp T R_shapley)
  | d14 : DeedIs T T.influence.f (DSp T R_influence)
  | d15 : DeedIs T T.needed_weight.f (DSp T R_needed_weight)
  | d16 : DeedIs T T.what_if.f (DSp T R_what_if)
  | d17 : DeedIs T T.tell_root.f (DSp T R_tell_root)
  | d18 : DeedIs T T.tell_leaf.f (DSp T R_tell_leaf)
  | d19 : DeedIs T T.tell_proof.f (DSp T R_tell_proof)
  | d20 : DeedIs T T.check_proof.f (DSp T R_check_proof)
  | d21 : DeedIs T T.absence.f (DSp T R_absence)
  | d22 : DeedIs T T.root_without.f (DSp T R_root_without)
  | d23 : DeedIs T T.status.f (DSp T R_status)
theorem deed_at {K : PySem.W.Frag} {mg : Str → Option Value} (T : Txt K mg) {op : Nat} {ns rs : List Nat} {cl : Call} (h : mkCall op ns rs = some cl) :
    (op = 0 ∧ ∃ a, ns = [a] ∧ cl = .create a) ∨ (1 ≤ op ∧ ∃ R f, DeedIs T f (DSp T R) ∧ (deedsOf T.set_similarity.f T.add_member.f T.delete_member.f T.add_event.f T.remove_event.f T.tell_events.f T.tell_scores.f T.recommend.f T.tell_contributions.f T.margin.f T.tell_removal_set.f T.tell_sufficient_set.f T.robust.f T.shapley.f T.influence.f T.needed_weight.f T.what_if.f T.tell_root.f T.tell_leaf.f T.tell_proof.f T.check_proof.f T.absence.f T.root_without.f T.status.f)[op - 1]? = some (.ref f) ∧ R ns rs cl ∧ Kp433.step none cl = (none, single (-11))) := by
  unfold mkCall at h
  split at h
  all_goals first | (cases h; done) | (cases Option.some.inj h)
  · exact .inl ⟨rfl, _, rfl, rfl⟩
  · exact .inr ⟨by decide, R_set_similarity, _, .d0, rfl, ⟨_, _, _, rfl, rfl⟩, rfl⟩
  · exact .inr ⟨by decide, R_add_member, _, .d1, rfl, ⟨_, rfl, rfl⟩, rfl⟩
  · exact .inr ⟨by decide, R_delete_member, _, .d2, rfl, ⟨_, rfl, rfl⟩, rfl⟩
  · exact .inr ⟨by decide, R_add_event, _, .d3, rfl, ⟨_, _, _, rfl, rfl⟩, rfl⟩
  · exact .inr ⟨by decide, R_remove_event, _, .d4, rfl, ⟨_, _, rfl, rfl⟩, rfl⟩
  · exact .inr ⟨by decide, R_tell_events, _, .d5, rfl, ⟨_, rfl, rfl⟩, rfl⟩
  · exact .inr ⟨by decide, R_tell_scores, _, .d6, rfl, ⟨_, rfl, rfl⟩, rfl⟩
  · exact .inr ⟨by decide, R_recommend, _, .d7, rfl, ⟨_, _, rfl, rfl⟩, rfl⟩
  · exact .inr ⟨by decide, R_tell_contributions, _, .d8, rfl, ⟨_, _, rfl, rfl⟩, rfl⟩
  · exact .inr ⟨by decide, R_margin, _, .d9, rfl, ⟨_, rfl, rfl⟩, rfl⟩
  · exact .inr ⟨by decide, R_tell_removal_set, _, .d10, rfl, ⟨_, rfl, rfl⟩, rfl⟩
  · exact .inr ⟨by decide, R_tell_sufficient_set, _, .d11, rfl, ⟨_, rfl, rfl⟩, rfl⟩
  · exact .inr ⟨by decide, R_robust, _, .d12, rfl, ⟨_, _, rfl, rfl⟩, rfl⟩
  · exact .inr ⟨by decide, R_shapley, _, .d13, rfl, ⟨_, _, rfl, rfl⟩, rfl⟩
  · exact .inr ⟨by decide, R_influence, _, .d14, rfl, ⟨_, _, rfl, rfl⟩, rfl⟩
  · exact .inr ⟨by decide, R_needed_weight, _, .d15, rfl, ⟨_, _, _, rfl, rfl⟩, rfl⟩
  · exact .inr ⟨by decide, R_what_if, _, .d16, rfl, ⟨_, rfl, rfl⟩, rfl⟩
  · exact .inr ⟨by decide, R_tell_root, _, .d17, rfl, rfl, rfl⟩
  · exact .inr ⟨by decide, R_tell_leaf, _, .d18, rfl, ⟨_, rfl, rfl⟩, rfl⟩
  · exact .inr ⟨by decide, R_tell_proof, _, .d19, rfl, ⟨_, rfl, rfl⟩, rfl⟩
  · exact .inr ⟨by decide, R_check_proof, _, .d20, rfl, ⟨_, _, _, _, rfl, rfl⟩, rfl⟩
  · exact .inr ⟨by decide, R_absence, _, .d21, rfl, ⟨_, rfl, rfl⟩, rfl⟩
  · exact .inr ⟨by decide, R_root_without, _, .d22, rfl, ⟨_, rfl, rfl⟩, rfl⟩
  · exact .inr ⟨by decide, R_status, _, .d23, rfl, rfl, rfl⟩
section
variable {P : Program} {w : World} {K : PySem.W.Frag} {mg : Str → Option Value} {base : Heap}
theorem held (T : Txt K mg) (B : Bs T base) : ∀ f sp, DeedIs T f sp → HeldX P w K mg base 13 f sp := fun f sp h => by
  cases h with
  | d0 => exact ⟨⟨_, _, (ok_set_similarity T).mono (by decide), T.set_similarity.F.kp, T.set_similarity.b⟩⟩
  | d1 => exact ⟨⟨_, _, (ok_add_member T).mono (by decide), T.add_member.F.kp, T.add_member.b⟩⟩
  | d2 => exact ⟨⟨_, _, (ok_delete_member T).mono (by decide), T.delete_member.F.kp, T.delete_member.b⟩⟩
  | d3 => exact ⟨⟨_, _, (ok_add_event T).mono (by decide), T.add_event.F.kp, T.add_event.b⟩⟩
  | d4 => exact ⟨⟨_, _, (ok_remove_event T).mono (by decide), T.remove_event.F.kp, T.remove_event.b⟩⟩
  | d5 => exact ⟨⟨_, _, (ok_tell_events T).mono (by decide), T.tell_events.F.kp, T.tell_events.b⟩⟩
  | d6 => exact ⟨⟨_, _, (ok_tell_scores T).mono (by decide), T.tell_scores.F.kp, T.tell_scores.b⟩⟩
  | d7 => exact ⟨⟨_, _, (ok_recommend T B).mono (by decide), T.recommend.F.kp, T.recommend.b⟩⟩
  | d8 => exact ⟨⟨_, _, (ok_tell_contributions T).mono (by decide), T.tell_contributions.F.kp, T.tell_contributions.b⟩⟩
  | d9 => exact ⟨⟨_, _, (ok_margin T B).mono (by decide), T.margin.F.kp, T.margin.b⟩⟩
  | d10 => exact ⟨⟨_, _, (ok_tell_removal_set T B).mono (by decide), T.tell_removal_set.F.kp, T.tell_removal_set.b⟩⟩
  | d11 => exact ⟨⟨_, _, (ok_tell_sufficient_set T B).mono (by decide), T.tell_sufficient_set.F.kp, T.tell_sufficient_set.b⟩⟩
  | d12 => exact ⟨⟨_, _, (ok_robust T B).mono (by decide), T.robust.F.kp, T.robust.b⟩⟩
  | d13 => exact ⟨⟨_, _, (ok_shapley T B).mono (by decide), T.shapley.F.kp, T.shapley.b⟩⟩
  | d14 => exact ⟨⟨_, _, (ok_influence T B).mono (by decide), T.influence.F.kp, T.influence.b⟩⟩
  | d15 => exact ⟨⟨_, _, (ok_needed_weight T B).mono (by decide), T.needed_weight.F.kp, T.needed_weight.b⟩⟩
  | d16 => exact ⟨⟨_, _, (ok_what_if T B).mono (by decide), T.what_if.F.kp, T.what_if.b⟩⟩
  | d17 => exact ⟨⟨_, _, (ok_tell_root T).mono (by decide), T.tell_root.F.kp, T.tell_root.b⟩⟩
  | d18 => exact ⟨⟨_, _, (ok_tell_leaf T).mono (by decide), T.tell_leaf.F.kp, T.tell_leaf.b⟩⟩
  | d19 => exact ⟨⟨_, _, (ok_tell_proof T).mono (by decide), T.tell_proof.F.kp, T.tell_proof.b⟩⟩
  | d20 => exact ⟨⟨_, _, (ok_check_proof T).mono (by decide), T.check_proof.F.kp, T.check_proof.b⟩⟩
  | d21 => exact ⟨⟨_, _, (ok_absence T).mono (by decide), T.absence.F.kp, T.absence.b⟩⟩
  | d22 => exact ⟨⟨_, _, (ok_root_without T).mono (by decide), T.root_without.F.kp, T.root_without.b⟩⟩
  | d23 => exact ⟨⟨_, _, (ok_status T).mono (by decide), T.status.F.kp, T.status.b⟩⟩
theorem SF.updO {T : Txt K mg} {H : Hp} {A : SA} {S : Store} {b : Addr} {o o' : HO} (h : SF T H A S) (nb : b ∉ A.foot) (hb : H b = some o) (no : ∀ xs, o ≠ .tup xs) : SF T (upd H b o') A S := by
  unfold SA.foot at nb
  simp only [List.mem_cons, List.mem_append, not_or] at nb
  obtain ⟨n1, n2, n3, n4, n5⟩ := nb
  refine ⟨by rw [upd_ne (Ne.symm n1)]; exact h.obj, by rw [upd_ne (Ne.symm n2)]; exact h.sim, h.row.imp fun r l hr _ q => by rw [upd_ne (fun z => n4 (by rw [← z]; exact hr))]; exact q, by rw [upd_ne (Ne.symm n3)]; exact h.mem, h.ms.imp fun m x hm _ q => ?_, h.nd⟩
  exact mema_upd q hb no (fun z => n5 (by rw [← z]; exact mfoot_p hm)) (fun z => n5 (by rw [← z]; exact mfoot_e hm))
/-! ### the desk, a call -/
def footO (st : Option Store) (A : SA) : List Addr := match st with
  | none => []
  | some _ => A.foot
structure DkAt (T : Txt K mg) (H : Hp) (d dx : Addr) (st : Option Store) (A : SA) : Prop where
  obj : H d = some (.ins T.Desk.C dx [("store", match st with | none => .non | some _ => .ref A.p)])
  sto : ∀ S, st = some S → SF T H A S ∧ Wf S
  nd : d ∉ footO st A
structure ClAt (T : Txt K mg) (H : Hp) (c : Addr) (op : Nat) (ns rs : List Nat) : Prop where
  ex : ∃ dx na ra, H c = some (.ins T.Call.C dx [("operation", nV op), ("numbers", .ref na), ("row", .ref ra)]) ∧ H na = some (.lst (ns.map nV)) ∧ H ra = some (.lst (rs.map nV))
theorem lk_store (v : V) : List.lookup ("store" : Str) ([("store", v)] : List (Str × V)) = some v := by rfl
theorem lk_op (a b c : V) : List.lookup ("operation" : Str) ([("operation", a), ("numbers", b), ("row", c)] : List (Str × V)) = some a := by rfl
theorem lk_nums (a b c : V) : List.lookup ("numbers" : Str) ([("operation", a), ("numbers", b), ("row", c)] : List (Str × V)) = some b := by rfl
theorem lk_row (a b c : V) : List.lookup ("row" : Str) ([("operation", a), ("numbers", b), ("row", c)] : List (Str × V)) = some c := by rfl
theorem putF_st (u v : V) : putF "store" v ([("store", u)] : List (Str × V)) = ([("store", v)] : List (Str × V)) := by rfl
theorem putF_st0 (v : V) : putF "store" v [] = ([("store", v)] : List (Str × V)) := by rfl
theorem putF_op (a : V) : putF "operation" a [] = ([("operation", a)] : List (Str × V)) := by rfl
theorem putF_nums (a b : V) : putF "numbers" b ([("operation", a)] : List (Str × V)) = ([("operation", a), ("numbers", b)] : List (Str × V)) := by rfl
theorem putF_row (a b c : V) : putF "row" c ([("operation", a), ("numbers", b)] : List (Str × V)) = ([("operation", a), ("numbers", b), ("row", c)] : List (Str × V)) := by rfl
def sp_Call_init (T : Txt K mg) : Sp := fun vs H Q _ => ∃ (G : Hp) (p dx : Addr) (v1 v2 v3 : V), vs = [.ref p, v1, v2, v3] ∧ H = upd G p (.ins T.Call.C dx []) ∧ Q .non (upd G p (.ins T.Call.C dx [("operation", v1), ("numbers", v2), ("row", v3)]))
theorem ok_Call_init (T : Txt K mg) : FnOk P w K mg base CX0 4 T.Call.f T.Call_init.fd ["self", "operation", "numbers", "row"] (sp_Call_init T) := by
  refine T.Call_init.F.ok sc_Call_init (fun vs H Q E h => ?_) (fun cdv A outer s H vs Q E hr h => ⟨_, (pss_cons (ps_fld (pv 0) (pv 1) rfl)
    (pss_cons (ps_fld (pv 0) (pv 2) rfl)
    (pss_one (ps_fld (pv 0) (pv 3) rfl)))), ?_⟩)
  · obtain ⟨_, _, _, _, _, _, rfl, _⟩ := h
    rfl
  obtain ⟨G, p, dx, v1, v2, v3, rfl, rfl, q⟩ := h
  refine ⟨_, rfl, _, rfl, p, _, dx, _, rfl, upd_same, T.Call.cl, T.Call_no_operation, (by show 0 < 1000; decide), ?_⟩
  rw [putF_op, upd_upd]
  refine ⟨_, rfl, _, rfl, p, _, dx, _, rfl, upd_same, T.Call.cl, T.Call_no_numbers, (by show 1 < 1000; decide), ?_⟩
  rw [putF_nums, upd_upd]
  refine ⟨_, rfl, _, rfl, p, _, dx, _, rfl, upd_same, T.Call.cl, T.Call_no_row, (by show 2 < 1000; decide), ?_⟩
  rw [putF_row, upd_upd]
  exact q
def sp_Desk_init (T : Txt K mg) : Sp := fun vs H Q _ => ∃ (G : Hp) (p dx : Addr), vs = [.ref p] ∧ H = upd G p (.ins T.Desk.C dx []) ∧ Q .non (upd G p (.ins T.Desk.C dx [("store", .non)]))
theorem ok_Desk_init (T : Txt K mg) : FnOk P w K mg base CX0 4 T.Desk.f T.Desk_init.fd ["self"] (sp_Desk_init T) := by
  refine T.Desk_init.F.ok sc_Desk_init (fun vs H Q E h => ?_) (fun cdv A outer s H vs Q E hr h => ⟨_, (pss_one (ps_fld (pv 0) pe_non rfl)), ?_⟩)
  · obtain ⟨_, _, _, rfl, _⟩ := h
    rfl
  obtain ⟨G, p, dx, rfl, rfl, q⟩ := h
  refine ⟨_, rfl, p, _, dx, _, rfl, upd_same, T.Desk.cl, T.Desk_no_store, (by show 0 < 1000; decide), ?_⟩
  rw [putF_st0, upd_upd]
  exact q
/-- the ways out of a call -/
def KQ (T : Txt K mg) (H : Hp) (d dx : Addr) (A : SA) (st : Option Store) (cl : Call) (Q : VK) : Prop := ∀ v H' A', DkAt T H' d dx (Kp433.step st cl).1 A' → Fr T.Tb (d :: footO st A) H H' → (∀ b ∈ footO (Kp433.step st cl).1 A', b ∈ footO st A ∨ H b = none) → IL H' v (ansL (Kp433.step st cl).2) → Q v H'
def KE (T : Txt K mg) (H : Hp) (st : Option Store) (cl : Call) (E : XK) : Prop := ∀ k : Int, Kp433.step st cl = (st, single k) → Rz T H k E
theorem step_create (st : Option Store) (n : Nat) : Kp433.step st (.create n) = if n < 1 ∨ Kp433.maxItems < n then (st, single (-22)) else (some ⟨n, (List.range n).map (idRow n), []⟩, single 0) := by
  cases st <;> rfl
def sp_Desk_create (T : Txt K mg) : Sp := fun vs H Q E => ∃ (d dx c : Addr) (st : Option Store) (A : SA) (op n : Nat) (rs : List Nat), vs = [.ref d, .ref c] ∧ DkAt T H d dx st A ∧ ClAt T H c op [n] rs ∧ KQ T H d dx A st (.create n) Q ∧ KE T H st (.create n) E
theorem ok_Desk_create (T : Txt K mg) : FnOk P w K mg base (L2.CX P w) 6 T.Desk_create.f T.Desk_create.fd ["self", "call"] (sp_Desk_create T) := by
  refine T.Desk_create.F.okX sc_Desk_create (fun vs H Q E h => ?_) (fun cdv A outer s H vs Q E hr h => ⟨_, (pss_cons (ps_set (i := 2) sc_Desk_create.nd rfl (Or.inl rfl) (pe_ix ix_list (pe_fld (pv 1) rfl) pe_int (fun _ _ => rfl)))
    (pss_cons (ps_expr (pe_call (ok_ask T) (hr.mono (by decide)) rfl T.ask.g T.ask.F.kp T.ask.b .nil passE (pa_cons (pe_chain op_le op_le pe_int (pv 2) (pe_glob (v := .int (6)) rfl T.MOST_ITEMS.g ⟨_, rfl⟩)) (pa_cons (pe_glob (v := .int (-22)) rfl T.BAD_ARGUMENT.g ⟨_, rfl⟩) pa_nil))))
    (pss_cons (ps_fld (pv 0) (pe_make T.Store.mkO (ok_Store_init T) (hr.mono (by decide)) rfl T.Store.g T.Store_init.b .nil pass0 (pa_cons (pv 2) pa_nil)) rfl)
    (pss_one (ps_ret (pe_lst (pa_cons pe_int pa_nil))))))), ?_⟩)
  · obtain ⟨_, _, _, _, _, _, _, _, rfl, _⟩ := h
    rfl
  obtain ⟨d, dx, c, st, A, op, n, rs, rfl, hD, ⟨cdx, na, ra, hc, hn, hrr⟩, q, qE⟩ := h
  have hs := step_create st n
  refine ⟨_, rfl, c, _, cdx, _, _, rfl, hc, T.Call.cl, T.Call_no_numbers, lk_nums _ _ _, na, _, _, _, rfl, rfl, SqL.of hn, atI_nat (j := 0) rfl, _, rfl, _, _, rfl, rfl, _, rfl, ?_⟩
  rcases Nat.lt_or_ge n 1 with c1 | c1
  · rw [decide_eq_false (show ¬ (1 : Int) ≤ (n : Int) by omega)]
    exact iteF ⟨_, _, rfl, fun z => Bool.noConfusion z, fun _ => qE (-22) (hs.trans (if_pos (.inl c1)))⟩
  rw [decide_eq_true (show (1 : Int) ≤ (n : Int) by omega)]
  refine iteT ⟨_, _, rfl, rfl, _, _, rfl, fun hv => ?_, fun hv => qE (-22) (hs.trans (if_pos (.inr (by have := of_decide_eq_false hv; show 6 < n; omega))))⟩
  have c2 : n ≤ 6 := by have := of_decide_eq_true hv; omega
  have hs2 := hs.trans (if_neg (by unfold Kp433.maxItems; omega))
  refine ⟨_, rfl, fun x xd hx hxd nxd => ?_⟩
  have e1 := Ex.new (Tb := T.Tb) (o := .own x) hxd
  refine ⟨upd H xd (.own x), x, xd, n, rfl, by rw [upd_ne nxd.symm]; exact hx, rfl, c2, fun G sa ma rows e2 gx hsa hrows hma hnew hnd => ⟨rfl, ?_⟩⟩
  have e3 := Ex.new (Tb := T.Tb) (o := .ins T.Store.C xd (sF n sa ma)) gx
  have eA := e1.trans (e2.trans e3)
  have hd0 : d ≠ x := ne_of_none hD.obj hx
  have hdn : ∀ b, H b = none → d ≠ b := fun b hb => ne_of_none hD.obj hb
  have nw : ∀ b ∈ sa :: ma :: rows, H b = none := fun b hb => e1.thr _ (hnew b hb)
  have hF : SF T (upd G x (.ins T.Store.C xd (sF n sa ma))) ⟨x, xd, sa, ma, rows, []⟩ ⟨n, (List.range n).map (idRow n), []⟩ := by
    refine ⟨upd_same, e3.lst hsa, hrows.imp fun _ _ _ _ q => e3.lst q, e3.lst hma, .nil, ?_⟩
    show (x :: sa :: ma :: (rows ++ [])).Nodup
    rw [List.append_nil, List.nodup_cons]
    refine ⟨fun z => ?_, hnd⟩
    have hG : ∀ b ∈ sa :: ma :: rows, ∃ o, G b = some o := fun b hb => by
      rcases List.mem_cons.mp hb with e | hb
      · rw [e]; exact ⟨_, hsa⟩
      rcases List.mem_cons.mp hb with e | hb
      · rw [e]; exact ⟨_, hma⟩
      · obtain ⟨l, _, q⟩ := hrows.mem hb
        exact ⟨_, q⟩
    obtain ⟨o, ho⟩ := hG x z
    rw [gx] at ho; cases ho
  have hfoot : ∀ b ∈ (⟨x, xd, sa, ma, rows, []⟩ : SA).foot, H b = none := fun b hb => by
    have hb' : b ∈ x :: sa :: ma :: (rows ++ []) := hb
    rw [List.append_nil] at hb'
    rcases List.mem_cons.mp hb' with e | e
    · rw [e]; exact hx
    · exact nw b e
  have hdf : d ∉ (⟨x, xd, sa, ma, rows, []⟩ : SA).foot := fun z => by
    have := hD.obj
    rw [hfoot d z] at this; cases this
  generalize upd G x (.ins T.Store.C xd (sF n sa ma)) = H3 at eA hF ⊢
  have hd3 := eA.ins hD.obj
  refine ⟨_, rfl, d, _, dx, _, rfl, hd3, T.Desk.cl, T.Desk_no_store, (by show 1 < 1000; decide), ?_⟩
  rw [putF_st]
  have hF4 : SF T (upd H3 d (.ins T.Desk.C dx [("store", .ref x)])) ⟨x, xd, sa, ma, rows, []⟩ ⟨n, (List.range n).map (idRow n), []⟩ := hF.updO hdf hd3 (fun xs z => by cases z)
  have f4 : Fr T.Tb (d :: footO st A) H (upd H3 d (.ins T.Desk.C dx [("store", .ref x)])) := (eA.fr _).upd List.mem_cons_self hd3 True.intro
  have hd4 : upd H3 d (.ins T.Desk.C dx [("store", .ref x)]) d = some (.ins T.Desk.C dx [("store", .ref x)]) := upd_same
  generalize upd H3 d (.ins T.Desk.C dx [("store", .ref x)]) = H4 at hF4 f4 hd4 ⊢
  refine ⟨(by show 1 ≤ sizeLine; decide), fun o ho => ?_⟩
  have e5 := Ex.new (Tb := T.Tb) (o := .lst [.int 0]) ho
  refine q _ _ ⟨x, xd, sa, ma, rows, []⟩ ?_ (f4.ex e5) ?_ ⟨o, rfl, ?_⟩
  · rw [hs2]
    exact ⟨e5.ins hd4, fun S hS => by cases Option.some.inj hS; exact ⟨e5.sf hF4, wf_new (by unfold Kp433.maxItems; omega)⟩, hdf⟩
  · rw [hs2]
    exact fun b hb => .inr (hfoot b hb)
  · rw [upd_same, hs2]
    rfl
/-! ### done -/
def sp_done (T : Txt K mg) : Sp := fun vs H Q E => ∃ (d dx c : Addr) (st : Option Store) (A : SA) (op : Nat) (ns rs : List Nat) (cl : Call), vs = [.ref d, .ref c] ∧ DkAt T H d dx st A ∧ ClAt T H c op ns rs ∧ mkCall op ns rs = some cl ∧ rs.length ≤ 24 ∧ LamX.Tabs T.Tb H ∧ KQ T H d dx A st cl Q ∧ KE T H st cl E
theorem ok_done (T : Txt K mg) (B : Bs T base) : FnOk P w K mg base (L2.CX P w) 14 T.done.f T.done.fd ["desk", "call"] (sp_done T) := by
  refine T.done.F.okX sc_done (fun vs H Q E h => ?_) (fun cdv A outer s H vs Q E hr h => ⟨_, (pss_cons (ps_if (pt_cmpR op_eq (pe_fld (pv 1) rfl) (pe_glob (v := .int (0)) rfl T.CREATE.g ⟨_, rfl⟩) (nomark _)) (pss_one (ps_ret (pe_meth (pv 0) T.Desk.cl T.Desk_create.m (ok_Desk_create T) (hr.mono (by decide)) T.Desk_create.b .nil passE (pa_cons (pv 1) pa_nil)))) pss_nil)
    (pss_cons (ps_expr (pe_call (ok_ask T) (hr.mono (by decide)) rfl T.ask.g T.ask.F.kp T.ask.b .nil passE (pa_cons (pe_cmpR op_notN (pe_fld (pv 0) rfl) pe_non (nomark _)) (pa_cons (pe_glob (v := .int (-11)) rfl T.NO_STORE.g ⟨_, rfl⟩) pa_nil))))
    (pss_cons (ps_set (i := 2) sc_done.nd rfl (Or.inl rfl) (pe_ix ix_tup (pe_glob (v := .ref T.aDEEDS) rfl T.gDEEDS rfl) (pe_op op_sub (pe_fld (pv 1) rfl) pe_int) (fun _ _ => rfl)))
    (pss_one (ps_ret (pe_callX (i := 2) (S := DeedIs T) (held T B) (hr.mono (by decide)) rfl (Or.inl rfl) passE (pa_cons (pe_fld (pv 0) rfl) (pa_cons (pe_fld (pv 1) rfl) (pa_cons (pe_fld (pv 1) rfl) pa_nil))))))))), ?_⟩)
  · obtain ⟨_, _, _, _, _, _, _, _, _, rfl, _⟩ := h
    rfl
  obtain ⟨d, dx, c, st, A, op, ns, rs, cl, rfl, hD, hC, hmk, hrl, hT, q, qE⟩ := h
  obtain ⟨cdx, na, ra, hc, hn, hrr⟩ := hC.ex
  refine ⟨_, rfl, c, _, cdx, _, _, rfl, hc, T.Call.cl, T.Call_no_operation, lk_op _ _ _, rfl, _, rfl, ?_⟩
  rcases deed_at T hmk with ⟨h0, a, rfl, rfl⟩ | ⟨h1, R, f, hf, hat, hR, hno⟩
  · rw [decide_eq_true (show nV op = V.int 0 by rw [h0]; rfl)]
    exact iteT ⟨_, rfl, d, dx, _, rfl, hD.obj, by rfl, _, rfl, d, dx, c, st, A, op, a, rs, rfl, hD, hC, q, qE⟩
  rw [decide_eq_false (show ¬ nV op = V.int 0 from fun z => by have := V.int.inj z; omega)]
  refine iteF ⟨_, rfl, d, _, dx, _, _, rfl, hD.obj, T.Desk.cl, T.Desk_no_store, lk_store _, rfl, _, _, rfl, fun hb => ?_, fun hb => ?_⟩
  · cases hst : st with
    | none => rw [hst] at hb; cases hb
    | some S =>
      obtain ⟨hF, W⟩ := hD.sto S hst
      have hdo := hD.obj
      rw [hst] at hdo
      refine ⟨_, rfl, c, _, cdx, _, _, rfl, hc, T.Call.cl, T.Call_no_operation, lk_op _ _ _, _, _, rfl, rfl, T.aDEEDS, _, _, .ref f, rfl, rfl, T.tDEEDS H, ?_, f, DSp T R, rfl, hf, _, rfl, d, _, dx, _, _, rfl, hdo, T.Desk.cl, T.Desk_no_store, lk_store _, _, rfl, c, _, cdx, _, _, rfl, hc, T.Call.cl, T.Call_no_numbers, lk_nums _ _ _, _, rfl, c, _, cdx, _, _, rfl, hc, T.Call.cl, T.Call_no_row, lk_row _ _ _, ?_⟩
      · rw [show (op : Int) - 1 = ((op - 1 : Nat) : Int) by omega]
        exact atI_nat hat
      have hst' : st = some S := hst
      refine ⟨A, S, .ref na, .ref ra, ns, rs, cl, rfl, ⟨hF, W, ⟨na, rfl, hn⟩, ⟨ra, rfl, hrr⟩, hrl, hT⟩, hR, fun v H' A' S' h1 hF' hA' hfr hft hv => ?_, fun k hk => ?_⟩
      · have q' := q v H' A'
        rw [hst'] at q'
        have hnd : d ∉ A.foot := by
          have := hD.nd
          rw [hst'] at this
          exact this
        refine q' ?_ ?_ ?_ hv
        · rw [h1]
          refine ⟨?_, fun S2 hS2 => by cases Option.some.inj hS2; exact ⟨hF', wf_step W cl h1⟩, fun z => ?_⟩
          · have := hfr.old _ _ hdo hnd (fun _ z => by cases z)
            rw [this, ← hA']
          · rcases hft d z with z | z
            · exact hnd z
            · rw [hdo] at z; cases z
        · exact ⟨fun b u hb nb kk => hfr.old b u hb (fun z => nb (List.mem_cons_of_mem _ z)) kk, hfr.tab, hfr.thr⟩
        · rw [h1]
          exact hft
      · have := qE k
        rw [hst'] at this
        exact this hk
  · cases hst : st with
    | some S => rw [hst] at hb; cases hb
    | none =>
      have := qE (-11)
      rw [hst] at this
      exact this hno
/-! ### answer_of -/
def sp_answer_of (T : Txt K mg) : Sp := fun vs H Q E => ∃ (d dx c : Addr) (st : Option Store) (A : SA) (op : Nat) (ns rs : List Nat) (cl : Call), vs = [.ref d, .ref c] ∧ DkAt T H d dx st A ∧ ClAt T H c op ns rs ∧ mkCall op ns rs = some cl ∧ rs.length ≤ 24 ∧ LamX.Tabs T.Tb H ∧ KQ T H d dx A st cl Q
theorem DkAt.ex {T : Txt K mg} {H H' : Hp} {d dx : Addr} {st : Option Store} {A : SA} (e : Ex T.Tb H H') (h : DkAt T H d dx st A) : DkAt T H' d dx st A := ⟨e.ins h.obj, fun S hS => ⟨e.sf (h.sto S hS).1, (h.sto S hS).2⟩, h.nd⟩
theorem ok_answer_of (T : Txt K mg) (B : Bs T base) : FnOk P w K mg base CX0 15 T.answer_of.f T.answer_of.fd ["desk", "call"] (sp_answer_of T) := by
  refine T.answer_of.F.ok sc_answer_of (fun vs H Q E h => ?_) (fun cdv A outer s H vs Q E hr h => ⟨_, (pss_one (ps_try_as (i := 2) (tb := fun W => tRet (tCallS (sp_done T) (WE W) (tCons (tVar 0) (tCons (tVar 1) tNil)))) (ts := fun a cls d => tRet (tLst (tCons (tCodeRef T.RC a cls d (tVar 2)) tNil))) (Wout := fun _ _ _ _ => False) rfl rfl sc_answer_of.nd rfl rfl ⟨rfl, by decide, Or.inl T.ref.gC⟩ takes0
      (fun W pn xe tk _ => pss_one (ps_ret (by exact (pe_callS (ok_done T B) (hr.mono (by decide)) rfl T.done.g T.done.F.kp T.done.b (fun σ => passAt tk σ) (by exact (pa_cons (pv 0) (pa_cons (pv 1) pa_nil)))))))
      (fun a oe cls d pn hz hf => pss_one (ps_ret (by exact (pe_lst (pa_cons (pe_codeRef T.ref hz hf (pv 2)) pa_nil))))))), ?_⟩)
  · obtain ⟨_, _, _, _, _, _, _, _, _, rfl, _⟩ := h
    rfl
  obtain ⟨d, dx, c, st, A, op, ns, rs, cl, rfl, hD, hC, hmk, hrl, hT, q⟩ := h
  refine ⟨_, rfl, _, rfl, d, dx, c, st, A, op, ns, rs, cl, rfl, hD, hC, hmk, hrl, hT, q, fun k hk d1 H1 e1 h1 => ?_⟩
  refine ⟨true, T.ref.te, fun _ a _ => ?_, fun z => Bool.noConfusion z⟩
  refine ⟨_, rfl, rfl, rfl, d1, _, rfl, h1, (by show 1 ≤ sizeLine; decide), fun o ho => ?_⟩
  have eA := e1.trans (Ex.new (Tb := T.Tb) (o := .lst [.int k]) ho)
  refine q _ _ A ?_ (eA.fr _) ?_ ⟨o, rfl, ?_⟩
  · rw [hk]; exact hD.ex eA
  · rw [hk]; exact fun b hb => .inl hb
  · rw [upd_same, hk]; rfl

end
end FpS
/-! # the calls are read, answered -/
namespace FpS
open PySem PySem.Spec PyProof.Rows L2
open Kp433 (Store Call Ans single)
/-- a call: its operation, its numbers, its row -/
abbrev CR := Nat × List Nat × List Nat
def isL (op : Nat) : Bool := [17, 21].contains op
def putC (c : CR) : List Nat := c.1 :: (c.2.1 ++ if isL c.1 then c.2.2.length :: c.2.2 else [])
def putAll (cs : List CR) : List Nat := cs.flatMap putC
structure OkC (c : CR) : Prop where
  num : NUMB[c.1]? = some (c.2.1.length : Int)
  row : isL c.1 = false → c.2.2 = []
  len : c.2.2.length ≤ 24
  mkc : ∃ cl, mkCall c.1 c.2.1 c.2.2 = some cl
theorem putAll_at {cs : List CR} {j : Nat} {c : CR} (h : cs[j]? = some c) : (putAll cs).drop (putAll (cs.take j)).length = putC c ++ putAll (cs.drop (j + 1)) ∧ putAll (cs.take (j + 1)) = putAll (cs.take j) ++ putC c := by
  have e : cs = cs.take j ++ c :: cs.drop (j + 1) := by
    have h2 := List.take_append_drop j cs
    have l := lt_of_get h
    rw [List.drop_eq_getElem_cons l] at h2
    obtain ⟨_, e⟩ := List.getElem?_eq_some_iff.mp h
    rw [e] at h2
    exact h2.symm
  constructor
  · have e2 : putAll cs = putAll (cs.take j) ++ (putC c ++ putAll (cs.drop (j + 1))) := by
      conv => lhs; rw [e]
      unfold putAll
      rw [List.flatMap_append, List.flatMap_cons]
    rw [e2, List.drop_left]
  · rw [tk h]
    unfold putAll
    rw [List.flatMap_append, List.flatMap_cons, List.flatMap_nil, List.append_nil]
theorem putAll_len : ∀ cs : List CR, cs.length ≤ (putAll cs).length
  | [] => Nat.le_refl _
  | c :: cs => by
    unfold putAll
    rw [List.flatMap_cons, List.length_append, List.length_cons]
    have := putAll_len cs
    unfold putAll at this
    have h2 : 1 ≤ (putC c).length := by unfold putC; rw [List.length_cons]; omega
    omega
section
variable {P : Program} {w : World} {K : PySem.W.Frag} {mg : Str → Option Value} {base : Heap}
/-- an object that is a call; its lists are not D -/
def ClV (T : Txt K mg) (H0 : Hp) (D : Addr) (H : Hp) (v : V) (c : CR) : Prop := ∃ a dx na ra, v = .ref a ∧ H a = some (.ins T.Call.C dx [("operation", nV c.1), ("numbers", .ref na), ("row", .ref ra)]) ∧ (na ≠ D ∧ ra ≠ D ∧ H0 na = none ∧ H0 ra = none) ∧ H na = some (.lst (c.2.1.map nV)) ∧ H ra = some (.lst (c.2.2.map nV))
theorem ClV.ex {T : Txt K mg} {H0 : Hp} {D : Addr} {H H' : Hp} {v : V} {c : CR} (e : Ex T.Tb H H') (h : ClV T H0 D H v c) : ClV T H0 D H' v c := by
  obtain ⟨a, dx, na, ra, h1, h2, h3, h5, h6⟩ := h
  exact ⟨a, dx, na, ra, h1, e.ins h2, h3, e.lst h5, e.lst h6⟩
theorem ClV.upd {T : Txt K mg} {H0 : Hp} {D : Addr} {H : Hp} {v : V} {c : CR} {xs : List V} {o : HO} (h : ClV T H0 D H v c) (hD : H D = some (.lst xs)) : ClV T H0 D (upd H D o) v c := by
  obtain ⟨a, dx, na, ra, h1, h2, h3, h5, h6⟩ := h
  have na' : a ≠ D := fun z => by rw [z, hD] at h2; cases h2
  exact ⟨a, dx, na, ra, h1, by rw [upd_ne na']; exact h2, h3, by rw [upd_ne h3.1]; exact h5, by rw [upd_ne h3.2.1]; exact h6⟩
def sp_read_calls (T : Txt K mg) : Sp := fun vs H Q _ => ∃ (a : Addr) (cs : List CR), vs = [.ref a] ∧ SqL K H a ((putAll cs).map nV) ∧ (∀ c ∈ cs, OkC c) ∧ (putAll cs).length ≤ 2000 ∧
  ∀ p xs H', Ex T.Tb H H' → H' p = some (.lst xs) → F2 (ClV T H p H') xs cs → Q (.ref p) H'
theorem numb_get {op : Nat} {k : Int} (h : NUMB[op]? = some k) : atI (NUMB.map V.int) (op : Int) = some (.int k) := atI_nat (by rw [List.getElem?_map, h]; rfl)
theorem ok_read_calls (T : Txt K mg) : FnOk P w K mg base CX0 6 T.read_calls.f T.read_calls.fd ["numbers"] (sp_read_calls T) := by
  refine T.read_calls.F.ok sc_read_calls (fun vs H Q E h => ?_) (fun cdv A outer s H vs Q E hr h => ⟨_, (pss_cons (ps_set (i := 1) sc_read_calls.nd rfl (Or.inl rfl) (pe_lst pa_nil))
    (pss_cons (ps_set (i := 2) sc_read_calls.nd rfl (Or.inl rfl) pe_int)
    (pss_cons (ps_while PassesOwn.never (pt_cmpR op_lt (pv 2) (pe_callB call_len_seq (by rfl) T.len_ PySem.boot_len (pa_cons (pv 0) pa_nil)) (nomark _))
    (pss_cons (ps_set (i := 3) sc_read_calls.nd rfl (Or.inl rfl) (pe_ix ix_list (pv 0) (pv 2) (fun _ _ => rfl)))
    (pss_cons (ps_set (i := 4) sc_read_calls.nd rfl (Or.inl rfl) (pe_op op_add (pv 2) pe_int))
    (pss_cons (ps_set (i := 2) sc_read_calls.nd rfl (Or.inl rfl) (pe_op op_add (pv 4) (pe_ix ix_tup (pe_glob (v := .ref T.aNUMBERS) rfl T.gNUMBERS rfl) (pv 3) (fun _ _ => rfl))))
    (pss_cons (ps_set (i := 5) sc_read_calls.nd rfl (Or.inl rfl) (pe_slice sl_list (pv 0) (po_some (pv 4)) (po_some (pv 2))))
    (pss_cons (ps_set (i := 6) sc_read_calls.nd rfl (Or.inl rfl) (pe_lst pa_nil))
    (pss_cons (ps_if (pt_cmpR op_in_seq (pv 3) (pe_glob (v := .ref T.aLISTED) rfl T.gLISTED rfl) (by rfl)) (pss_cons (ps_set (i := 6) sc_read_calls.nd rfl (Or.inl rfl) (pe_slice sl_list (pv 0) (po_some (pe_op op_add (pv 2) pe_int)) (po_some (pe_op op_add (pe_op op_add (pv 2) pe_int) (pe_ix ix_list (pv 0) (pv 2) (fun _ _ => rfl))))))
    (pss_one (ps_aug (i := 2) sc_read_calls.nd rfl (Or.inl rfl) (pe_op op_add pe_int (pe_callB call_len_seq (by rfl) T.len_ PySem.boot_len (pa_cons (pv 6) pa_nil))) ip_add))) pss_nil)
    (pss_one (ps_expr (pe_bm PySem.F.plainAttrs_list PySem.F.slot_list_append PySem.F.type_list_append mt_append (pv 1) (pa_cons (pe_make T.Call.mkO (ok_Call_init T) (hr.mono (by decide)) rfl T.Call.g T.Call_init.b .nil pass0 (pa_cons (pv 3) (pa_cons (pv 5) (pa_cons (pv 6) pa_nil)))) pa_nil)))))))))))
    (pss_one (ps_ret (pv 1)))))), ?_⟩)
  · obtain ⟨_, _, rfl, _⟩ := h
    rfl
  obtain ⟨a, cs, rfl, ha, hok, hlen, q⟩ := h
  generalize hl : putAll cs = l at *
  refine ⟨Nat.zero_le _, fun D hD => while_by (fun σ H' => ∃ j xs y3 y4 y5 y6, σ = [some (.ref a), some (.ref D), some (nV (putAll (cs.take j)).length), y3, y4, y5, y6] ∧ j ≤ cs.length ∧ Ex T.Tb H H' ∧ H' D = some (.lst xs) ∧ F2 (ClV T H D H') xs (cs.take j))
    (fun σ _ => match σ with | _ :: _ :: some (.int z) :: _ => l.length - z.toNat | _ => 0) ⟨0, [], _, _, _, _, rfl, Nat.zero_le _, .new hD, upd_same, .nil⟩ ?_ ?_⟩
  · rintro σ H1 ⟨j, xs, y3, y4, y5, y6, rfl, hj, e1, hD1, hxs⟩
    have ha1 := e1.sql ha
    refine ⟨_, rfl, _, rfl, a, _, rfl, .inl ha1, _, _, rfl, rfl, _, rfl, ?_⟩
    rw [List.length_map]
    rcases Nat.lt_or_eq_of_le hj with hjl | hjl
    case inr =>
      rw [hjl, List.take_length, hl]
      rw [hjl, List.take_length] at hxs
      rw [decide_eq_false (show ¬ (l.length : Int) < (l.length : Int) by omega)]
      exact iteF ⟨_, rfl, q D xs H1 e1 hD1 hxs⟩
    have hc : cs[j]? = some cs[j] := List.getElem?_eq_getElem hjl
    generalize cs[j] = c at hc
    obtain ⟨op, ns, rs⟩ := c
    have ok := hok _ (List.mem_of_getElem? hc)
    obtain ⟨hdr, hnx⟩ := putAll_at hc
    rw [hl] at hdr
    have hxl : xs.length < sizeLine := by
      rw [hxs.length, List.length_take]
      have : cs.length ≤ (putAll cs).length := putAll_len cs
      rw [hl] at this
      exact Nat.lt_of_le_of_lt (show min j cs.length ≤ 2000 by omega) (by decide)
    generalize hat : (putAll (cs.take j)).length = at_ at *
    have hnl : (putAll (cs.take (j + 1))).length = at_ + (putC (op, ns, rs)).length := by rw [hnx, List.length_append, hat]
    -- what stands from at_ on
    have hp0 : putC (op, ns, rs) = op :: (ns ++ if isL op then rs.length :: rs else []) := rfl
    rw [hp0, List.cons_append, List.append_assoc] at hdr
    have atlt : at_ < l.length := by
      have := congrArg List.length hdr
      rw [List.length_drop, List.length_cons] at this
      omega
    have g0 : l[at_]? = some op := by
      have := congrArg (fun z => z[0]?) hdr
      simpa using this
    have d1 : l.drop (at_ + 1) = ns ++ ((if isL op then rs.length :: rs else []) ++ putAll (cs.drop (j + 1))) := by
      have := congrArg (List.drop 1) hdr
      rw [List.drop_drop] at this
      exact this
    have d2 : l.drop (at_ + 1 + ns.length) = (if isL op then rs.length :: rs else []) ++ putAll (cs.drop (j + 1)) := by
      have := congrArg (List.drop ns.length) d1
      rw [List.drop_drop, List.drop_left] at this
      exact this
    have t1 : ((l.map nV).drop (at_ + 1)).take (at_ + 1 + ns.length - (at_ + 1)) = ns.map nV := by
      rw [← List.map_drop, d1, List.map_append, show at_ + 1 + ns.length - (at_ + 1) = (ns.map nV).length by rw [List.length_map]; omega, List.take_left]
    rw [decide_eq_true (show (at_ : Int) < (l.length : Int) by omega)]
    refine iteT ⟨_, rfl, _, rfl, a, _, _, nV op, rfl, rfl, ha1, atI_nat (by rw [List.getElem?_map, g0]; rfl), _, rfl, _, _, rfl, rfl, _, rfl, _, rfl, T.aNUMBERS, _, _, .int (ns.length : Nat), rfl, rfl, T.tNUMBERS H1, numb_get ok.num, _, _, rfl, rfl, ?_⟩
    refine ⟨_, rfl, _, rfl, _, rfl, _, rfl, _, rfl, a, _, rfl, ha1, fun b hb => ?_⟩
    rw [show ((at_ : Int) + 1) = ((at_ + 1 : Nat) : Int) from rfl, show (((at_ + 1 : Nat) : Int) + ((ns.length : Nat) : Int)) = ((at_ + 1 + ns.length : Nat) : Int) from rfl, cut_mid, t1]
    have e2 := Ex.new (Tb := T.Tb) (o := .lst (ns.map nV)) hb
    refine ⟨Nat.zero_le _, fun r hr0 => ?_⟩
    have e3 := Ex.new (Tb := T.Tb) (o := .lst []) hr0
    have e23 := e2.trans e3
    have hb3 : upd (upd H1 b (.lst (ns.map nV))) r (.lst []) b = some (.lst (ns.map nV)) := e3.lst upd_same
    have hD3 := e23.lst hD1
    have ha3 := e23.sql ha1
    have bD : b ≠ D := fun z => by rw [z, hD1] at hb; cases hb
    have rD : r ≠ D := fun z => by rw [z, e2.lst hD1] at hr0; cases hr0
    have hr3 : upd (upd H1 b (.lst (ns.map nV))) r (.lst []) r = some (.lst []) := upd_same
    generalize upd (upd H1 b (.lst (ns.map nV))) r (.lst []) = H3 at e3 e23 hb3 hD3 ha3 hr3 ⊢
    -- the row's list is at ra from H4 on; then the new call is appended
    have fin : ∀ (H4 : Hp) (ra : Addr), Ex T.Tb H3 H4 → ra ≠ D → H ra = none → H4 ra = some (.lst (rs.map nV)) → ∀ x dx, H4 x = none → H4 dx = none → dx ≠ x →
        upd (upd H4 dx (.own x)) x (.ins T.Call.C dx [("operation", nV op), ("numbers", .ref b), ("row", .ref ra)]) D = some (.lst xs) ∧
        Ex T.Tb H (upd (upd (upd H4 dx (.own x)) x (.ins T.Call.C dx [("operation", nV op), ("numbers", .ref b), ("row", .ref ra)])) D (.lst (xs ++ [.ref x]))) ∧
        F2 (ClV T H D (upd (upd (upd H4 dx (.own x)) x (.ins T.Call.C dx [("operation", nV op), ("numbers", .ref b), ("row", .ref ra)])) D (.lst (xs ++ [.ref x])))) (xs ++ [.ref x]) (cs.take (j + 1)) := fun H4 ra e4 nra nra0 hra x dx hx hdx ndx => by
      have e5 := Ex.new (Tb := T.Tb) (o := .own x) hdx
      have gx : upd H4 dx (.own x) x = none := by rw [upd_ne ndx.symm]; exact hx
      have e6 := Ex.new (Tb := T.Tb) (o := .ins T.Call.C dx [("operation", nV op), ("numbers", .ref b), ("row", .ref ra)]) gx
      have e46 := e4.trans (e5.trans e6)
      have hD6 := e46.lst hD3
      refine ⟨hD6, (e1.trans (e23.trans e46)).mut hD hD6 True.intro, ?_⟩
      rw [tk hc]
      refine (hxs.imp fun v z _ _ h => (h.ex (e23.trans e46)).upd hD6).append (.one (ClV.upd ?_ hD6))
      exact ⟨x, dx, b, ra, rfl, upd_same, ⟨bD, nra, e1.thr _ hb, nra0⟩, e46.lst hb3, (e5.trans e6).lst hra⟩
    have hin : inV (nV op) ([17, 21].map V.int) = isL op := inV_nV op [17, 21]
    refine ⟨_, rfl, T.aLISTED, _, rfl, .inr (T.tLISTED H3), rfl, rfl, _, rfl, ?_⟩
    rw [hin]
    cases hL : isL op with
    | false =>
      rw [hL, if_neg Bool.false_ne_true, List.append_nil] at hp0
      have hrs := ok.row hL
      have hpl : (putC (op, ns, rs)).length = ns.length + 1 := by rw [hp0, List.length_cons]
      have eat : at_ + 1 + ns.length = (putAll (cs.take (j + 1))).length := by rw [hnl, hpl]; omega
      refine iteF ⟨_, rfl, .inl ⟨rfl, _, SqL.of hD3⟩, _, rfl, _, rfl, _, rfl, fun x dx hx hdx ndx => ?_⟩
      obtain ⟨f1, f2, f3⟩ := fin H3 r (.refl _) rD (e1.thr _ (e2.thr _ hr0)) (by have hrs' : rs = [] := hrs; rw [hrs']; exact hr3) x dx hx hdx ndx
      refine ⟨_, x, dx, _, _, _, rfl, rfl, rfl, D, xs, _, rfl, rfl, f1, hxl, ⟨j + 1, xs ++ [.ref x], some (nV op), some (nV (at_ + 1)), some (.ref b), some (.ref r), ?_, hjl, f2, upd_same, f3⟩, ?_⟩
      · rw [← eat]; rfl
      · show l.length - (((at_ + 1 + ns.length : Nat) : Int)).toNat < l.length - ((at_ : Nat) : Int).toNat
        omega
    | true =>
      rw [hL, if_pos rfl] at hp0 d2
      have hpl : (putC (op, ns, rs)).length = ns.length + 1 + 1 + rs.length := by rw [hp0]; simp only [List.length_cons, List.length_append]; omega
      have g2 : l[at_ + 1 + ns.length]? = some rs.length := by
        have := congrArg (fun z => z[0]?) d2
        simpa using this
      have d3 : l.drop (at_ + 1 + ns.length + 1) = rs ++ putAll (cs.drop (j + 1)) := by
        have := congrArg (List.drop 1) d2
        rw [List.drop_drop] at this
        exact this
      have t2 : ((l.map nV).drop (at_ + 1 + ns.length + 1)).take (at_ + 1 + ns.length + 1 + rs.length - (at_ + 1 + ns.length + 1)) = rs.map nV := by
        rw [← List.map_drop, d3, List.map_append, show at_ + 1 + ns.length + 1 + rs.length - (at_ + 1 + ns.length + 1) = (rs.map nV).length by rw [List.length_map]; omega, List.take_left]
      have eat : at_ + 1 + ns.length + (1 + rs.length) = (putAll (cs.take (j + 1))).length := by rw [hnl, hpl]; omega
      refine iteT ⟨_, rfl, _, rfl, _, _, rfl, rfl, _, rfl, _, rfl, _, _, rfl, rfl, _, rfl, _, rfl, a, _, _, nV rs.length, rfl, rfl, ha3, atI_nat (by rw [List.getElem?_map, g2]; rfl), _, _, rfl, rfl, _, rfl, a, _, rfl, ha3, fun ra hra => ?_⟩
      have ecut : cutV (l.map nV) (some (((at_ + 1 : Nat) : Int) + ((ns.length : Nat) : Int) + 1)) (some (((at_ + 1 : Nat) : Int) + ((ns.length : Nat) : Int) + 1 + ((rs.length : Nat) : Int))) = rs.map nV := by
        rw [← t2, ← cut_mid]
        rfl
      rw [ecut]
      have e4 := Ex.new (Tb := T.Tb) (o := .lst (rs.map nV)) hra
      have raD : ra ≠ D := fun z => by rw [z, hD3] at hra; cases hra
      refine ⟨_, rfl, _, rfl, ra, _, rfl, .inl (SqL.of upd_same), _, _, rfl, rfl, _, _, rfl, rfl, ?_⟩
      rw [List.length_map]
      refine ⟨_, rfl, .inl ⟨rfl, _, SqL.of (e4.lst hD3)⟩, _, rfl, _, rfl, _, rfl, fun x dx hx hdx ndx => ?_⟩
      obtain ⟨f1, f2, f3⟩ := fin _ ra e4 raD (e1.thr _ (e23.thr _ hra)) upd_same x dx hx hdx ndx
      refine ⟨_, x, dx, _, _, _, rfl, rfl, rfl, D, xs, _, rfl, rfl, f1, hxl, ⟨j + 1, xs ++ [.ref x], some (nV op), some (nV (at_ + 1)), some (.ref b), some (.ref ra), ?_, hjl, f2, upd_same, f3⟩, ?_⟩
      · rw [← eat]; rfl
      · show l.length - (((at_ + 1 + ns.length : Nat) : Int) + (1 + ((rs.length : Nat) : Int))).toNat < l.length - ((at_ : Nat) : Int).toNat
        omega
  · rintro σ H1 Q1 Q2 hq ⟨v1, h1, v2, h2, p, ys, h3, h4, x1, x2, h5, h6, k, h7, h8⟩
    exact ⟨v1, h1, v2, h2, p, ys, h3, h4, x1, x2, h5, h6, k, h7, hq _ _ h8⟩
end
end FpS
/-! # answers -/
namespace FpS
open PySem PySem.Spec PyProof.Rows L2
open Kp433 (Store Call Ans single)
def clOf (c : CR) : Call := (mkCall c.1 c.2.1 c.2.2).getD .root
/-- what the calls give, one after another -/
def run : Option Store → List CR → List Int
  | _, [] => []
  | st, c :: cs => ((ansL (Kp433.step st (clOf c)).2).length : Int) :: (ansL (Kp433.step st (clOf c)).2 ++ run (Kp433.step st (clOf c)).1 cs)
theorem run_at {st : Option Store} {cs : List CR} {j : Nat} {c : CR} (h : cs[j]? = some c) : run st (cs.drop j) = ((ansL (Kp433.step st (clOf c)).2).length : Int) :: (ansL (Kp433.step st (clOf c)).2 ++ run (Kp433.step st (clOf c)).1 (cs.drop (j + 1))) := by
  have l := lt_of_get h
  obtain ⟨_, e⟩ := List.getElem?_eq_some_iff.mp h
  rw [List.drop_eq_getElem_cons l, e]
  rfl
section
variable {P : Program} {w : World} {K : PySem.W.Frag} {mg : Str → Option Value} {base : Heap}
def sp_answers (T : Txt K mg) : Sp := fun vs H Q _ => ∃ (a : Addr) (cs : List CR), vs = [.ref a] ∧ SqL K H a ((putAll cs).map nV) ∧ (∀ c ∈ cs, OkC c) ∧ (putAll cs).length ≤ 2000 ∧ (run none cs).length ≤ 10000000 ∧ LamX.Tabs T.Tb H ∧
  ∀ H' p, H' p = some (.lst ((run none cs).map V.int)) → Q (.ref p) H'
theorem ok_answers (T : Txt K mg) (B : Bs T base) : FnOk P w K mg base CX0 16 T.answers.f T.answers.fd ["calls"] (sp_answers T) := by
  refine T.answers.F.ok sc_answers (fun vs H Q E h => ?_) (fun cdv A outer s H vs Q E hr h => ⟨_, (pss_cons (ps_set (i := 1) sc_answers.nd rfl (Or.inl rfl) (pe_make0 T.Desk.mkO (ok_Desk_init T) (hr.mono (by decide)) rfl T.Desk.g T.Desk_init.b .nil pass0))
    (pss_cons (ps_set (i := 2) sc_answers.nd rfl (Or.inl rfl) (pe_lst pa_nil))
    (pss_cons (ps_for PassesOwn.never rfl (pi_list (pe_call (ok_read_calls T) (hr.mono (by decide)) rfl T.read_calls.g T.read_calls.F.kp T.read_calls.b .nil pass0 (pa_cons (pv 0) pa_nil))) (pg_name (i := 3) sc_answers.nd rfl (Or.inl rfl))
    (pss_cons (ps_set (i := 4) sc_answers.nd rfl (Or.inl rfl) (pe_call (ok_answer_of T B) (hr.mono (by decide)) rfl T.answer_of.g T.answer_of.F.kp T.answer_of.b .nil pass0 (pa_cons (pv 1) (pa_cons (pv 3) pa_nil))))
    (pss_one (ps_expr (pe_bm PySem.F.plainAttrs_list PySem.F.slot_list_extend PySem.F.type_list_extend mt_extend (pv 2) (pa_cons (pe_op op_cat (pe_lst (pa_cons (pe_callB call_len_seq (by rfl) T.len_ PySem.boot_len (pa_cons (pv 4) pa_nil)) pa_nil)) (pv 4)) pa_nil))))))
    (pss_one (ps_ret (pv 2)))))), ?_⟩)
  · obtain ⟨_, _, rfl, _⟩ := h
    rfl
  obtain ⟨a, cs, rfl, ha, hok, hlen, hrun, hT, q⟩ := h
  refine fun d dx hd hdx ndx => ?_
  have e1 := Ex.new (Tb := T.Tb) (o := .own d) hdx
  have gd : upd H dx (.own d) d = none := by rw [upd_ne ndx.symm]; exact hd
  refine ⟨upd H dx (.own d), d, dx, rfl, rfl, rfl, ?_⟩
  have e2 := Ex.new (Tb := T.Tb) (o := .ins T.Desk.C dx [("store", .non)]) gd
  have e12 := e1.trans e2
  have hd2 : upd (upd H dx (.own d)) d (.ins T.Desk.C dx [("store", .non)]) d = some (.ins T.Desk.C dx [("store", .non)]) := upd_same
  generalize upd (upd H dx (.own d)) d (.ins T.Desk.C dx [("store", .non)]) = H2 at e12 hd2 ⊢
  refine ⟨Nat.zero_le _, fun F hF => ?_⟩
  have e3 := Ex.new (Tb := T.Tb) (o := .lst []) hF
  have hF3 : upd H2 F (.lst []) F = some (.lst []) := upd_same
  have hd3 := e3.ins hd2
  have nFd : F ≠ d := fun z => by rw [z, hd2] at hF; cases hF
  generalize upd H2 F (.lst []) = H3 at e3 hF3 hd3 ⊢
  have e13 := e12.trans e3
  refine ⟨_, rfl, a, cs, rfl, e13.sql ha, hok, hlen, fun p xs Hc e4 hp hxs => ?_⟩
  have hdc := e4.ins hd3
  have hFc := e4.lst hF3
  have hTc := (e13.trans e4).tab hT
  refine ⟨p, rfl, ⟨_, SqL.of hp⟩, ?_⟩
  -- the list of calls is not the list of answers: it was made later, or the calls are none
  have hpF : p = F → cs = [] := fun z => by
    rw [z, hFc] at hp
    have := HO.lst.inj (Option.some.inj hp)
    rw [← this] at hxs
    cases hxs
    rfl
  have lx := hxs.length
  by_cases hcs : cs = []
  · subst hcs
    cases hxs
    refine for_list (xs := []) (fun j σ H' => σ = [some (.ref a), some (.ref d), some (.ref F), none, none] ∧ H' = Hc) ⟨rfl, rfl⟩ (fun j σ H' _ ⟨_, e⟩ => by rw [e]; exact SqL.of hp) (fun j x σ H' h _ => by cases h) ?_
    rintro σ H' ⟨rfl, rfl⟩
    exact ⟨_, rfl, q _ _ hFc⟩
  have npF : p ≠ F := fun z => hcs (hpF z)
  have npd : p ≠ d := fun z => by rw [z, hdc] at hp; cases hp
  refine for_list (xs := xs) (fun j σ H' => ∃ y3 y4 st A ys, σ = [some (.ref a), some (.ref d), some (.ref F), y3, y4] ∧ H' F = some (.lst (List.map V.int ys)) ∧ ys ++ run st (cs.drop j) = run none cs ∧ DkAt T H' d dx st A ∧ Fr T.Tb [d, F] Hc H' ∧ (∀ b ∈ footO st A, Hc b = none)) ?_ (fun j σ H' _ ⟨_, _, _, _, _, _, _, _, _, f, _⟩ => SqL.of (f.old _ _ hp (by simp [npd, npF]) (fun _ z => by cases z))) ?_ ?_
  · exact ⟨_, _, none, ⟨0, 0, 0, 0, [], []⟩, [], rfl, hFc, rfl, ⟨hdc, fun S hS => (by cases hS), (by simp [footO])⟩, (Ex.refl Hc).fr _, by simp [footO]⟩
  · rintro j x σ H' hx ⟨y3, y4, st, A, ys, rfl, hFh, hys, hD, hfr, hft⟩
    obtain ⟨⟨op, ns, rs⟩, hc, ca, cdx, na, ra, rfl, hca, ⟨_, _, hna0, hra0⟩, hna, hra⟩ := hxs.get hx
    have ok := hok _ (List.mem_of_getElem? hc)
    obtain ⟨cl, hcl⟩ := ok.mkc
    have ecl : clOf (op, ns, rs) = cl := by unfold clOf; rw [hcl]; rfl
    have hra' := run_at (st := st) hc
    rw [ecl] at hra'
    have nF : ∀ b, H3 b = none → b ≠ F := fun b hb z => by rw [z, hF3] at hb; cases hb
    have nd' : ∀ b, H3 b = none → b ≠ d := fun b hb z => by rw [z, hd3] at hb; cases hb
    have kc := hfr.old _ _ hca (by
      simp only [List.mem_cons, List.not_mem_nil, or_false, not_or]
      refine ⟨fun z => ?_, fun z => ?_⟩
      · rw [z, hdc] at hca
        have := congrArg (fun o : Option HO => match o with | some (.ins _ _ fs) => fs.length | _ => 0) hca
        cases this
      · rw [z, hFc] at hca; cases hca) (fun _ z => by cases z)
    have kn := hfr.old _ _ hna (by simp [nF _ hna0, nd' _ hna0]) (fun _ z => by cases z)
    have kr := hfr.old _ _ hra (by simp [nF _ hra0, nd' _ hra0]) (fun _ z => by cases z)
    refine ⟨_, rfl, _, rfl, d, dx, ca, st, A, op, ns, rs, cl, rfl, hD, ⟨cdx, na, ra, kc, kn, kr⟩, hcl, ok.len, hfr.tab hTc, fun v H4 A' hD4 f4 hft4 hv => ?_⟩
    obtain ⟨pa, rfl, hpa⟩ := hv
    have hFn : F ∉ d :: footO st A := fun z => by
      rcases List.mem_cons.mp z with z | z
      · exact nFd z
      · rw [hft F z] at hFc; cases hFc
    have hF4 := f4.old _ _ hFh hFn (fun _ z => by cases z)
    refine ⟨_, rfl, .inl ⟨rfl, _, SqL.of hF4⟩, _, rfl, pa, _, rfl, .inl (SqL.of hpa), (by show 1 ≤ sizeLine; decide), fun o ho => ?_⟩
    rw [List.length_map]
    generalize hans : ansL (Kp433.step st cl).2 = ans at *
    have e5 := Ex.new (Tb := T.Tb) (o := .lst [.int (ans.length : Nat)]) ho
    have lall : ys.length + (1 + ans.length) ≤ 10000000 := by
      have := congrArg List.length hys
      rw [List.length_append, hra', List.length_cons, List.length_append] at this
      omega
    refine ⟨_, rfl, o, pa, _, _, rfl, rfl, upd_same, e5.lst hpa, ?_, fun c hc2 => ?_⟩
    · rw [List.length_map]
      exact Nat.le_trans (show 1 + ans.length ≤ 10000000 by omega) (by decide)
    have e6 := Ex.new (Tb := T.Tb) (o := .lst ([.int (ans.length : Nat)] ++ List.map V.int ans)) hc2
    have e56 := e5.trans e6
    have hF6 := e56.lst hF4
    refine ⟨F, c, _, _, rfl, rfl, hF6, upd_same, ?_, ?_⟩
    · simp only [List.length_map, List.length_append, List.length_singleton]
      exact Nat.le_trans lall (by decide)
    have hD6 := hD4.ex e56
    have hFn4 : F ∉ footO (Kp433.step st cl).1 A' := fun z => by
      rcases hft4 F z with z | z
      · exact hFn (List.mem_cons_of_mem _ z)
      · rw [hFh] at z; cases z
    refine ⟨_, _, (Kp433.step st cl).1, A', ys ++ (((ans.length : Nat) : Int) :: ans), rfl, ?_, ?_, ⟨?_, fun S hS => ?_, hD6.nd⟩, ?_, fun b hb => ?_⟩
    · rw [upd_same, List.map_append]
      rfl
    · rw [← hys, hra', List.append_assoc]
      rfl
    · rw [upd_ne nFd.symm]
      exact hD6.obj
    · obtain ⟨s1, s2⟩ := hD6.sto S hS
      refine ⟨s1.updO ?_ hF6 (fun _ z => by cases z), s2⟩
      rw [hS] at hFn4
      exact hFn4
    · refine Fr.upd (Fr.ex ⟨fun b u hb nb kk => ?_, fun t => f4.tab (hfr.tab t), fun b h => hfr.thr b (f4.thr b h)⟩ e56) (by simp) hF6 True.intro
      have hb' := hfr.old b u hb nb kk
      refine f4.old b u hb' (fun z => ?_) kk
      rcases List.mem_cons.mp z with z | z
      · exact nb (by rw [z]; exact List.mem_cons_self)
      · rw [hft b z] at hb; cases hb
    · rcases hft4 b hb with z | z
      · exact hft b z
      · exact hfr.thr b z
  · rintro σ H' ⟨y3, y4, st, A, ys, rfl, hFh, hys, hD, hfr, hft⟩
    rw [lx, List.drop_length] at hys
    have : ys = run none cs := by rw [← hys]; exact (List.append_nil _).symm
    rw [this] at hFh
    exact ⟨_, rfl, q _ _ hFh⟩
end
end FpS
/-! # Plain: the flat list of calls -/
namespace FpS
open Kp433 (Store)
theorem nat_list {l : List Int} (h : ∀ z ∈ l, 0 ≤ z) : ∃ m : List Nat, l = m.map fun n : Nat => (n : Int) := by
  refine ⟨l.map Int.toNat, ?_⟩
  rw [List.map_map]
  conv => lhs; rw [← List.map_id l]
  refine List.map_congr_left fun z hz => ?_
  have := h z hz
  show z = ((z.toNat : Nat) : Int)
  omega
theorem toNat_list (m : List Nat) : (m.map fun n : Nat => (n : Int)).map Int.toNat = m := by
  rw [List.map_map]
  conv => rhs; rw [← List.map_id m]
  rfl
theorem row_len {lo hi : Int} {b : List (Int × Int × Nat × Nat)} {r : List Int} {rs : List (List Int)} (h : PyInside.lists ((lo, hi, 0, 24) :: b) (r :: rs) = true) : r.length ≤ 24 := by
  unfold PyInside.lists at h
  simp only [Bool.and_eq_true, decide_eq_true_eq] at h
  exact h.1.1.2
theorem call_facts {c : List (List Int)} (h : PyFlat.okCall PyKp433.shape c) (h0 : ∀ z ∈ PyFlat.put1 c, 0 ≤ z) (hb : PyInside.call PyKp433.bound c = true) :
    ∃ cr : CR, PyFlat.put1 c = (putC cr).map (fun n : Nat => (n : Int)) ∧ OkC cr ∧ Kp433Neutral.callOf (PyKp433.whole c) = some (clOf cr) := by
  obtain ⟨p, a, xs, rfl, hs⟩ := h
  have ha : ∀ z ∈ a, 0 ≤ z := fun z hz => h0 z (by
    show z ∈ (p :: a) ++ PyFlat.putRows xs
    exact List.mem_append_left _ (List.mem_cons_of_mem _ hz))
  obtain ⟨m, rfl⟩ := nat_list ha
  rw [List.length_map] at hs
  -- a call without rows
  have plain : ∀ (op : Nat) (ns : List Nat), p = (op : Int) → m = ns → xs = [] → NUMB[op]? = some (ns.length : Int) → isL op = false → (∃ cl, mkCall op ns [] = some cl ∧ Kp433Neutral.callOf (PyKp433.whole [(op : Int) :: ns.map fun n : Nat => (n : Int)]) = some cl) →
      ∃ cr : CR, PyFlat.put1 ((p :: m.map fun n : Nat => (n : Int)) :: xs) = (putC cr).map (fun n : Nat => (n : Int)) ∧ OkC cr ∧ Kp433Neutral.callOf (PyKp433.whole ((p :: m.map fun n : Nat => (n : Int)) :: xs)) = some (clOf cr) := by
    rintro op ns rfl rfl rfl hn hL ⟨cl, h1, h2⟩
    refine ⟨(op, m, []), ?_, ⟨hn, fun _ => rfl, Nat.zero_le _, cl, h1⟩, ?_⟩
    · unfold putC
      rw [hL, if_neg Bool.false_ne_true, List.append_nil]
      show ((op : Int) :: m.map _) ++ [] = _
      rw [List.append_nil]
      rfl
    · unfold clOf
      rw [h1]
      exact h2
  have rowed : ∀ (op : Nat) (ns : List Nat) (r : List Int), p = (op : Int) → m = ns → xs = [r] → NUMB[op]? = some (ns.length : Int) → isL op = true → r.length ≤ 24 → (∀ rs : List Nat, ∃ cl, mkCall op ns rs = some cl ∧ Kp433Neutral.callOf (PyKp433.whole [(op : Int) :: ns.map (fun n : Nat => (n : Int)), rs.map fun n : Nat => (n : Int)]) = some cl) →
      ∃ cr : CR, PyFlat.put1 ((p :: m.map fun n : Nat => (n : Int)) :: xs) = (putC cr).map (fun n : Nat => (n : Int)) ∧ OkC cr ∧ Kp433Neutral.callOf (PyKp433.whole ((p :: m.map fun n : Nat => (n : Int)) :: xs)) = some (clOf cr) := by
    rintro op ns r rfl rfl rfl hn hL hr hk
    have hr0 : ∀ z ∈ r, 0 ≤ z := fun z hz => h0 z (by
      show z ∈ ((op : Int) :: m.map fun n : Nat => (n : Int)) ++ (((r.length : Int) :: r) ++ [])
      rw [List.append_nil]
      exact List.mem_append_right _ (List.mem_cons_of_mem _ hz))
    obtain ⟨rs, rfl⟩ := nat_list hr0
    obtain ⟨cl, h1, h2⟩ := hk rs
    rw [List.length_map] at hr
    refine ⟨(op, m, rs), ?_, ⟨hn, fun z => ?_, hr, cl, h1⟩, ?_⟩
    · unfold putC
      rw [hL, if_pos rfl]
      show ((op : Int) :: m.map fun n : Nat => (n : Int)) ++ ((((rs.map fun n : Nat => (n : Int)).length : Int) :: rs.map fun n : Nat => (n : Int)) ++ []) = _
      rw [List.append_nil, List.length_map, List.map_cons, List.map_append, List.map_cons]
      rfl
    · rw [hL] at z; cases z
    · unfold clOf
      rw [h1]
      exact h2
  have l0 : ∀ {l : List (List Int)}, l.length = 0 → l = [] := fun h => List.length_eq_zero_iff.mp h
  have m0 : ∀ {l : List Nat}, l.length = 0 → l = [] := fun h => List.length_eq_zero_iff.mp h
  have m1 : ∀ {l : List Nat}, l.length = 1 → ∃ x, l = [x] := fun h => List.length_eq_one_iff.mp h
  have m2 : ∀ {l : List Nat}, l.length = 2 → ∃ x y, l = [x, y] := fun {l} h => by
    match l, h with
    | [x, y], _ => exact ⟨x, y, rfl⟩
  have m3 : ∀ {l : List Nat}, l.length = 3 → ∃ x y z, l = [x, y, z] := fun {l} h => by
    match l, h with
    | [x, y, z], _ => exact ⟨x, y, z, rfl⟩
  have m4 : ∀ {l : List Nat}, l.length = 4 → ∃ x y z u, l = [x, y, z, u] := fun {l} h => by
    match l, h with
    | [x, y, z, u], _ => exact ⟨x, y, z, u, rfl⟩
  have x1 : ∀ {l : List (List Int)}, l.length = 1 → ∃ x, l = [x] := fun h => List.length_eq_one_iff.mp h
  unfold PyKp433.shape at hs
  by_cases e0 : p = 0
  · rw [if_pos e0] at hs
    obtain ⟨h1, h2⟩ := Prod.mk.inj (Option.some.inj hs)
    obtain ⟨x, hm⟩ := m1 h1.symm
    exact plain 0 [x] e0 hm (l0 h2.symm) rfl rfl ⟨_, rfl, rfl⟩
  rw [if_neg e0] at hs
  by_cases e1 : p = 1
  · rw [if_pos e1] at hs
    obtain ⟨h1, h2⟩ := Prod.mk.inj (Option.some.inj hs)
    obtain ⟨x, y, z, hm⟩ := m3 h1.symm
    exact plain 1 [x, y, z] e1 hm (l0 h2.symm) rfl rfl ⟨_, rfl, rfl⟩
  rw [if_neg e1] at hs
  by_cases e2 : p = 2
  · rw [if_pos e2] at hs
    obtain ⟨h1, h2⟩ := Prod.mk.inj (Option.some.inj hs)
    obtain ⟨x, hm⟩ := m1 h1.symm
    exact plain 2 [x] e2 hm (l0 h2.symm) rfl rfl ⟨_, rfl, rfl⟩
  rw [if_neg e2] at hs
  by_cases e3 : p = 3
  · rw [if_pos e3] at hs
    obtain ⟨h1, h2⟩ := Prod.mk.inj (Option.some.inj hs)
    obtain ⟨x, hm⟩ := m1 h1.symm
    exact plain 3 [x] e3 hm (l0 h2.symm) rfl rfl ⟨_, rfl, rfl⟩
  rw [if_neg e3] at hs
  by_cases e4 : p = 4
  · rw [if_pos e4] at hs
    obtain ⟨h1, h2⟩ := Prod.mk.inj (Option.some.inj hs)
    obtain ⟨x, y, z, hm⟩ := m3 h1.symm
    exact plain 4 [x, y, z] e4 hm (l0 h2.symm) rfl rfl ⟨_, rfl, rfl⟩
  rw [if_neg e4] at hs
  by_cases e5 : p = 5
  · rw [if_pos e5] at hs
    obtain ⟨h1, h2⟩ := Prod.mk.inj (Option.some.inj hs)
    obtain ⟨x, y, hm⟩ := m2 h1.symm
    exact plain 5 [x, y] e5 hm (l0 h2.symm) rfl rfl ⟨_, rfl, rfl⟩
  rw [if_neg e5] at hs
  by_cases e6 : p = 6
  · rw [if_pos e6] at hs
    obtain ⟨h1, h2⟩ := Prod.mk.inj (Option.some.inj hs)
    obtain ⟨x, hm⟩ := m1 h1.symm
    exact plain 6 [x] e6 hm (l0 h2.symm) rfl rfl ⟨_, rfl, rfl⟩
  rw [if_neg e6] at hs
  by_cases e7 : p = 7
  · rw [if_pos e7] at hs
    obtain ⟨h1, h2⟩ := Prod.mk.inj (Option.some.inj hs)
    obtain ⟨x, hm⟩ := m1 h1.symm
    exact plain 7 [x] e7 hm (l0 h2.symm) rfl rfl ⟨_, rfl, rfl⟩
  rw [if_neg e7] at hs
  by_cases e8 : p = 8
  · rw [if_pos e8] at hs
    obtain ⟨h1, h2⟩ := Prod.mk.inj (Option.some.inj hs)
    obtain ⟨x, y, hm⟩ := m2 h1.symm
    exact plain 8 [x, y] e8 hm (l0 h2.symm) rfl rfl ⟨_, rfl, rfl⟩
  rw [if_neg e8] at hs
  by_cases e9 : p = 9
  · rw [if_pos e9] at hs
    obtain ⟨h1, h2⟩ := Prod.mk.inj (Option.some.inj hs)
    obtain ⟨x, y, hm⟩ := m2 h1.symm
    exact plain 9 [x, y] e9 hm (l0 h2.symm) rfl rfl ⟨_, rfl, rfl⟩
  rw [if_neg e9] at hs
  by_cases e10 : p = 10
  · rw [if_pos e10] at hs
    obtain ⟨h1, h2⟩ := Prod.mk.inj (Option.some.inj hs)
    obtain ⟨x, hm⟩ := m1 h1.symm
    exact plain 10 [x] e10 hm (l0 h2.symm) rfl rfl ⟨_, rfl, rfl⟩
  rw [if_neg e10] at hs
  by_cases e11 : p = 11
  · rw [if_pos e11] at hs
    obtain ⟨h1, h2⟩ := Prod.mk.inj (Option.some.inj hs)
    obtain ⟨x, hm⟩ := m1 h1.symm
    exact plain 11 [x] e11 hm (l0 h2.symm) rfl rfl ⟨_, rfl, rfl⟩
  rw [if_neg e11] at hs
  by_cases e12 : p = 12
  · rw [if_pos e12] at hs
    obtain ⟨h1, h2⟩ := Prod.mk.inj (Option.some.inj hs)
    obtain ⟨x, hm⟩ := m1 h1.symm
    exact plain 12 [x] e12 hm (l0 h2.symm) rfl rfl ⟨_, rfl, rfl⟩
  rw [if_neg e12] at hs
  by_cases e13 : p = 13
  · rw [if_pos e13] at hs
    obtain ⟨h1, h2⟩ := Prod.mk.inj (Option.some.inj hs)
    obtain ⟨x, y, hm⟩ := m2 h1.symm
    exact plain 13 [x, y] e13 hm (l0 h2.symm) rfl rfl ⟨_, rfl, rfl⟩
  rw [if_neg e13] at hs
  by_cases e14 : p = 14
  · rw [if_pos e14] at hs
    obtain ⟨h1, h2⟩ := Prod.mk.inj (Option.some.inj hs)
    obtain ⟨x, y, hm⟩ := m2 h1.symm
    exact plain 14 [x, y] e14 hm (l0 h2.symm) rfl rfl ⟨_, rfl, rfl⟩
  rw [if_neg e14] at hs
  by_cases e15 : p = 15
  · rw [if_pos e15] at hs
    obtain ⟨h1, h2⟩ := Prod.mk.inj (Option.some.inj hs)
    obtain ⟨x, y, hm⟩ := m2 h1.symm
    exact plain 15 [x, y] e15 hm (l0 h2.symm) rfl rfl ⟨_, rfl, rfl⟩
  rw [if_neg e15] at hs
  by_cases e16 : p = 16
  · rw [if_pos e16] at hs
    obtain ⟨h1, h2⟩ := Prod.mk.inj (Option.some.inj hs)
    obtain ⟨x, y, z, hm⟩ := m3 h1.symm
    exact plain 16 [x, y, z] e16 hm (l0 h2.symm) rfl rfl ⟨_, rfl, rfl⟩
  rw [if_neg e16] at hs
  by_cases e17 : p = 17
  · rw [if_pos e17] at hs
    obtain ⟨h1, h2⟩ := Prod.mk.inj (Option.some.inj hs)
    obtain ⟨x, hm⟩ := m1 h1.symm
    obtain ⟨r, hr⟩ := x1 h2.symm
    have hbb : PyInside.call PyKp433.bound ((p :: m.map fun n : Nat => (n : Int)) :: xs) = true := hb
    rw [e17, hr] at hbb
    unfold PyInside.call at hbb
    have hb2 := (Bool.and_eq_true _ _ ▸ hbb).2
    refine rowed 17 [x] r e17 hm hr rfl rfl (row_len (b := []) hb2) fun rs => ⟨_, rfl, ?_⟩
    exact congrArg (fun l => some (Kp433.Call.whatIf x l)) (toNat_list rs)
  rw [if_neg e17] at hs
  by_cases e18 : p = 18
  · rw [if_pos e18] at hs
    obtain ⟨h1, h2⟩ := Prod.mk.inj (Option.some.inj hs)
    have hm := m0 h1.symm
    exact plain 18 [] e18 hm (l0 h2.symm) rfl rfl ⟨_, rfl, rfl⟩
  rw [if_neg e18] at hs
  by_cases e19 : p = 19
  · rw [if_pos e19] at hs
    obtain ⟨h1, h2⟩ := Prod.mk.inj (Option.some.inj hs)
    obtain ⟨x, hm⟩ := m1 h1.symm
    exact plain 19 [x] e19 hm (l0 h2.symm) rfl rfl ⟨_, rfl, rfl⟩
  rw [if_neg e19] at hs
  by_cases e20 : p = 20
  · rw [if_pos e20] at hs
    obtain ⟨h1, h2⟩ := Prod.mk.inj (Option.some.inj hs)
    obtain ⟨x, hm⟩ := m1 h1.symm
    exact plain 20 [x] e20 hm (l0 h2.symm) rfl rfl ⟨_, rfl, rfl⟩
  rw [if_neg e20] at hs
  by_cases e21 : p = 21
  · rw [if_pos e21] at hs
    obtain ⟨h1, h2⟩ := Prod.mk.inj (Option.some.inj hs)
    obtain ⟨x, y, z, u, hm⟩ := m4 h1.symm
    obtain ⟨r, hr⟩ := x1 h2.symm
    have hbb : PyInside.call PyKp433.bound ((p :: m.map fun n : Nat => (n : Int)) :: xs) = true := hb
    rw [e21, hr] at hbb
    unfold PyInside.call at hbb
    have hb2 := (Bool.and_eq_true _ _ ▸ hbb).2
    refine rowed 21 [x, y, z, u] r e21 hm hr rfl rfl (row_len (b := []) hb2) fun rs => ⟨_, rfl, ?_⟩
    exact congrArg (fun l => some (Kp433.Call.checkProof x y z u l)) (toNat_list rs)
  rw [if_neg e21] at hs
  by_cases e22 : p = 22
  · rw [if_pos e22] at hs
    obtain ⟨h1, h2⟩ := Prod.mk.inj (Option.some.inj hs)
    obtain ⟨x, hm⟩ := m1 h1.symm
    exact plain 22 [x] e22 hm (l0 h2.symm) rfl rfl ⟨_, rfl, rfl⟩
  rw [if_neg e22] at hs
  by_cases e23 : p = 23
  · rw [if_pos e23] at hs
    obtain ⟨h1, h2⟩ := Prod.mk.inj (Option.some.inj hs)
    obtain ⟨x, hm⟩ := m1 h1.symm
    exact plain 23 [x] e23 hm (l0 h2.symm) rfl rfl ⟨_, rfl, rfl⟩
  rw [if_neg e23] at hs
  by_cases e24 : p = 24
  · rw [if_pos e24] at hs
    obtain ⟨h1, h2⟩ := Prod.mk.inj (Option.some.inj hs)
    have hm := m0 h1.symm
    exact plain 24 [] e24 hm (l0 h2.symm) rfl rfl ⟨_, rfl, rfl⟩
  rw [if_neg e24] at hs
  cases hs
theorem put_facts : ∀ (raw : List (List (List Int))), (∀ c ∈ raw, PyFlat.okCall PyKp433.shape c) → (∀ z ∈ PyFlat.put raw, 0 ≤ z) → (∀ c ∈ raw, PyInside.call PyKp433.bound c = true) →
    ∃ cs : List CR, PyFlat.put raw = (putAll cs).map (fun n : Nat => (n : Int)) ∧ (∀ c ∈ cs, OkC c) ∧ ∀ st, PyFlat.told (PyFlat.played Kp433Neutral.step st (raw.map PyKp433.whole)) = run st cs
  | [], _, _, _ => ⟨[], rfl, by simp, fun _ => rfl⟩
  | c :: raw, h1, h2, h3 => by
    have e : PyFlat.put (c :: raw) = PyFlat.put1 c ++ PyFlat.put raw := rfl
    rw [e] at h2
    obtain ⟨cr, a1, a2, a3⟩ := call_facts (h1 c List.mem_cons_self) (fun z hz => h2 z (List.mem_append_left _ hz)) (h3 c List.mem_cons_self)
    obtain ⟨cs, b1, b2, b3⟩ := put_facts raw (fun d hd => h1 d (List.mem_cons_of_mem _ hd)) (fun z hz => h2 z (List.mem_append_right _ hz)) (fun d hd => h3 d (List.mem_cons_of_mem _ hd))
    refine ⟨cr :: cs, ?_, fun d hd => ?_, fun st => ?_⟩
    · rw [e, a1, b1, ← List.map_append]
      rfl
    · rcases List.mem_cons.mp hd with q | q
      · rw [q]; exact a2
      · exact b2 d q
    · have es : Kp433Neutral.step st (PyKp433.whole c) = ((Kp433.step st (clOf cr)).1, ansL (Kp433.step st (clOf cr)).2) := by
        unfold Kp433Neutral.step
        rw [a3]
      show PyFlat.told ((Kp433Neutral.step st (PyKp433.whole c)).2 :: PyFlat.played Kp433Neutral.step (Kp433Neutral.step st (PyKp433.whole c)).1 (raw.map PyKp433.whole)) = _
      rw [es]
      have b := b3 (Kp433.step st (clOf cr)).1
      unfold PyFlat.told at b ⊢
      rw [List.flatMap_cons]
      show (((ansL (Kp433.step st (clOf cr)).2).length : Int) :: ansL (Kp433.step st (clOf cr)).2) ++ _ = run st (cr :: cs)
      rw [b]
      rfl
theorem law {zs : List Int} (h0 : ∀ z ∈ zs, 0 ≤ z) (ha : PyKp433.answers_asked zs = true) : ∃ cs : List CR, zs = (putAll cs).map (fun n : Nat => (n : Int)) ∧ (∀ c ∈ cs, OkC c) ∧ PyKp433.answers zs = run none cs ∧ (run none cs).length ≤ 10000000 := by
  unfold PyKp433.answers_asked at ha
  cases e : PyFlat.calls PyKp433.shape zs.length zs with
  | none => rw [e] at ha; cases ha
  | some raw =>
    rw [e] at ha
    have ha : (!raw.isEmpty && PyFlat.atMost 60 raw && PyInside.calls PyKp433.bound raw && Kp433Neutral.asked (raw.map PyKp433.whole) && PyFlat.short 10000000 (PyKp433.answers zs)) = true := ha
    simp only [Bool.and_eq_true] at ha
    obtain ⟨⟨⟨⟨_, _⟩, hb⟩, _⟩, hs⟩ := ha
    obtain ⟨e1, e2⟩ := PyFlat.put_calls _ _ _ e
    obtain ⟨cs, c1, c2, c3⟩ := put_facts raw e2 (by rw [← e1]; exact h0) fun c hc => List.all_eq_true.mp hb c hc
    have ea : PyKp433.answers zs = run none cs := by
      unfold PyKp433.answers PyKp433.calls
      rw [e]
      exact c3 none
    refine ⟨cs, e1.trans c1, c2, ea, ?_⟩
    unfold PyFlat.short at hs
    rw [ea] at hs
    exact of_decide_eq_true hs
end FpS
/-! # The end: the facts of the head (printed by gen_last.py) -/
namespace FpS
open PySem PySem.Spec PyProof.Rows L2
open PySem.W (nsIn findIn codeIn keepIn isFn plainGet hasDictIn plainOver makesIn typeIn subIn isClsIn exmOne tabIn Codec)
section
variable {K : PySem.W.Frag} {h : Heap} {mg : Str → Option Value}
def defAt_mk (X : K.In h) (G : h.Ns mainGlobals mg) (x : Str) (st : Stmt) (ps : List Str) {f : Addr} {oc kV dc pm cd ct : Value} {od an : Option Addr} {sl : Array (Option Value)}
    (a : nsIn K mainGlobals x = some (some (.ref f))) (l : K.lookup f = some ⟨oc, od, .func (PySem.W.fnOf x x (defArgs st) (defBody st) (defScope st) .none kV dc pm an cd ct), sl⟩) (c : codeIn K cd x = true) (k : keepIn K (.ref f) = true)
    (hb : ∀ (kV doc pm : Value) (an : Option Addr) (cdv ct : Value) (us : List Value), us.length = ps.length → bindArgs (PySem.W.fnOf x x (defArgs st) (defBody st) (defScope st) .none kV doc pm an cdv ct) ⟨us, []⟩ = pure (ps.zip us)) : DefAt K mg x st ps :=
  ⟨f, PySem.W.fnOf x x (defArgs st) (defBody st) (defScope st) .none kV dc pm an cd ct, fun_mk l c k, PySem.W.mg_of X G a, (fun_mk (st := st) l c k).binds hb⟩
def metAt_mk (X : K.In h) (cn : Str) (x qual : Str) (st : Stmt) (ps : List Str) {C f : Addr} {oc kV dc pm cd ct : Value} {od an : Option Addr} {sl : Array (Option Value)}
    (aC : nsIn K mainGlobals cn = some (some (.ref C))) (a : findIn K (.ref C) x = some (some (.ref f))) (i : isFn K (.ref f) = true) (l : K.lookup f = some ⟨oc, od, .func (PySem.W.fnOf x qual (defArgs st) (defBody st) (defScope st) .none kV dc pm an cd ct), sl⟩) (c : codeIn K cd qual = true) (k : keepIn K (.ref f) = true)
    (hb : ∀ (kV doc pm : Value) (an : Option Addr) (cdv ct : Value) (us : List Value), us.length = ps.length → bindArgs (PySem.W.fnOf x qual (defArgs st) (defBody st) (defScope st) .none kV doc pm an cdv ct) ⟨us, []⟩ = pure (ps.zip us)) : MetAt K C x qual st ps :=
  ⟨f, PySem.W.fnOf x qual (defArgs st) (defBody st) (defScope st) .none kV dc pm an cd ct, fun_mk l c k, ⟨a, i, k⟩, (fun_mk (st := st) l c k).binds hb⟩
def initAt_mk (X : K.In h) (cn : Str) (qual : Str) (st : Stmt) (ps : List Str) {C f : Addr} {oc kV dc pm cd ct : Value} {od an : Option Addr} {sl : Array (Option Value)}
    (aC : nsIn K mainGlobals cn = some (some (.ref C))) (i : findIn K (.ref C) "__init__" = some (some (.ref f))) (l : K.lookup f = some ⟨oc, od, .func (PySem.W.fnOf "__init__" qual (defArgs st) (defBody st) (defScope st) .none kV dc pm an cd ct), sl⟩) (c : codeIn K cd qual = true) (k : keepIn K (.ref f) = true)
    (hb : ∀ (kV doc pm : Value) (an : Option Addr) (cdv ct : Value) (us : List Value), us.length = ps.length → bindArgs (PySem.W.fnOf "__init__" qual (defArgs st) (defBody st) (defScope st) .none kV doc pm an cdv ct) ⟨us, []⟩ = pure (ps.zip us)) : InitAt K f qual st ps :=
  ⟨PySem.W.fnOf "__init__" qual (defArgs st) (defBody st) (defScope st) .none kV dc pm an cd ct, fun_mk l c k, (fun_mk (st := st) l c k).binds hb⟩
def clsAt_mk (X : K.In h) (G : h.Ns mainGlobals mg) (x : Str) {C f : Addr} (a : nsIn K mainGlobals x = some (some (.ref C))) (pg : plainGet K C Str.empty = true) (hd : hasDictIn K C = true) (po : plainOver K C = true) (sa : findIn K (.ref C) "__setattr__" = some (some (.builtin "object.__setattr__")))
    (mk : makesIn K C = true) (i : findIn K (.ref C) "__init__" = some (some (.ref f))) (fn : isFn K (.ref f) = true) (kp : keepIn K (.ref C) = true) : ClsAt K mg x :=
  ⟨C, f, PySem.W.mg_of X G a, ⟨pg, hd, po, sa⟩, ⟨mk, i, fn, kp⟩⟩
def intAt_mk (X : K.In h) (G : h.Ns mainGlobals mg) (x : Str) (z : Int) {u : Nat} (a : nsIn K mainGlobals x = some (some (.int z u))) : IntAt mg x z := ⟨u, PySem.W.mg_of X G a⟩
theorem tup_mk {a : Addr} {od : Option Addr} {its : Array Value} {n : Nat} {sl : Array (Option Value)} {xs : List V} (l : K.lookup a = some ⟨.type "tuple", od, .seq its n, sl⟩) (hs : its.size ≤ sizeLine) (hv : Vals xs its.toList) : ∀ H, SqT K H a xs :=
  fun H => .inr ⟨_, its, n, l, rfl, rfl, hs, hv⟩
theorem tup_mk2 (X : K.In h) (G : h.Ns mainGlobals mg) (x : Str) {a : Addr} {od : Option Addr} {its : Array Value} {n : Nat} {sl : Array (Option Value)} {xs : List V} (g : nsIn K mainGlobals x = some (some (.ref a))) (l : K.lookup a = some ⟨.type "tuple", od, .seq its n, sl⟩) (hs : its.size ≤ sizeLine) (hv : Vals xs its.toList) : mg x = some (.ref a) ∧ ∀ H, SqT K H a xs :=
  ⟨PySem.W.mg_of X G g, tup_mk l hs hv⟩
theorem exm_self {S : Addr} (h1 : subIn K (.ref S) (.type "BaseException") = some true) (h2 : isClsIn K S = true) (h3 : typeIn K (.ref S) = some (.type "type")) (h4 : subIn K (.ref S) (.ref S) = some true) : exmOne K (.ref S) (.ref S) = some true := by
  have e1 : (subIn K (.ref S) (.type "BaseException") == some true) = true := by rw [h1] <;> rfl
  have e2 : ((PySem.W.clsIn K S).isSome && typeIn K (.ref S) == some (.type "type")) = true := by
    have h2' : (PySem.W.clsIn K S).isSome = true := h2
    rw [h2', h3] <;> rfl
  show (if (subIn K (.ref S) (.type "BaseException") == some true) = true then (if ((PySem.W.clsIn K S).isSome && typeIn K (.ref S) == some (.type "type")) = true then subIn K (.ref S) (.ref S) else none) else none) = some true
  rw [if_pos e1, if_pos e2]
  exact h4
theorem ref_mk (X : K.In h) (G : h.Ns mainGlobals mg) {C f1 : Addr} {nm q : Str} {N : Addr} {bs : List Value} {sn : List Str} {sub : List Value} {ab : Bool} {col : Option Bool} {dd : Option Addr} {m0 m1 m2 m3 m5 : Option Value}
    {od1 an1 : Option Addr} {sl1 : Array (Option Value)} {oc1 dc1 pm1 cd1 ct1 : Value} {p1 p2 q1 q2 q3 q4 : Pos}
    (aC : nsIn K mainGlobals "Refused" = some (some (.ref C)))
    (xL : K.lookup C = some (excClassObj nm q C N bs [.type "ValueError", .type "Exception", .type "BaseException", .type "object"] true sn sub ab col dd m0 m1 m2 m3 m5 "ValueError.__new__"))
    (sa : findIn K (.ref C) "__setattr__" = some (some (.builtin "object.__setattr__"))) (ga : findIn K (.ref C) "__getattribute__" = some (some (.builtin "BaseException.__getattribute__"))) (gg : findIn K (.ref C) "__getattr__" = some none) (nb : findIn K (.ref C) "code" = some none)
    (a1 : findIn K (.ref C) "__init__" = some (some (.ref f1))) (t1 : typeIn K (.ref f1) = some (.type "function"))
    (l1 : K.lookup f1 = some ⟨oc1, od1, .func (PySem.W.fnOf "__init__" "Refused.__init__" (PySem.RefX.iA p1 p2) (PySem.RefX.iB q1 q2 q3 q4) PySem.RefX.iS .none .none dc1 pm1 an1 cd1 ct1), sl1⟩) (c1 : codeIn K cd1 "Refused.__init__" = true)
    (kC : keepIn K (.ref C) = true) (eC : subIn K (.ref C) (.type "BaseException") = some true) (tC : typeIn K (.ref C) = some (.type "type")) (hC : hasDictIn K C = true) (iC : isClsIn K C = true) (sC : subIn K (.ref C) (.ref C) = some true) : PySem.RefX.RefTxt K mg C f1 :=
  { gC := PySem.W.mg_of X G aC, cls := ⟨nm, q, N, bs, _, sn, sub, ab, col, dd, m0, m1, m2, m3, m5, xL, by decide +kernel⟩, sa := sa, ga := ga, gg := gg, noN := nb, iC := a1, tC := t1, kC := kC, exC := eC, tyC := tC, hdC := hC, te := exm_self eC iC tC sC,
    fn := ⟨_, _, _, _, _, _, _, _, _, _, _, _, _, _, l1, c1⟩ }
theorem noAttr_mk (X : K.In h) (cn f : Str) {C : Addr} (aC : nsIn K mainGlobals cn = some (some (.ref C))) (n : findIn K (.ref C) f = some none) : NoAttr K C f := n
theorem tab_mk (X : K.In h) {x : Str} {f c P : Addr} {oc oc2 : Value} {od od2 : Option Addr} {sl sl2 : Array (Option Value)} {fd : FuncData} {vs : Array Value} (a : nsIn K mainGlobals x = some (some (.ref f))) (l : K.lookup f = some ⟨oc, od, .func fd, sl⟩) (hc : fd.code = .ref c)
    (l2 : K.lookup c = some ⟨oc2, od2, .fields vs, sl2⟩) (hv : vs[11]? = some (.ref P)) : tabIn K x = some (c, P) := by
  unfold tabIn
  simp only [a, l, hc, l2, hv]
end
/-- what is handed in, what is given back -/
def spA (K : PySem.W.Frag) (cs : List (Addr × Addr)) : Sp := fun vs H Q _ => ∃ (a : Addr) (zs : List Int), vs = [.ref a] ∧ SqL K H a (zs.map V.int) ∧ (∀ z ∈ zs, 0 ≤ z) ∧ zs.length ≤ 1800 ∧ PyKp433.answers_asked zs = true ∧ (∀ p ∈ cs, H p.2 = some (.tbl #[])) ∧
  ∀ H' p, H' p = some (.lst ((PyKp433.answers zs).map V.int)) → Q (.ref p) H'
theorem okA {P : Program} {w : World} {K : PySem.W.Frag} {mg : Str → Option Value} {base : Heap} (T : Txt K mg) (B : Bs T base) : FnOk P w K mg base CX0 30 T.answers.f T.answers.fd ["calls"] (spA K [(T.cR, T.pR), (T.cP, T.pP)]) := by
  refine ((ok_answers (P := P) (w := w) T B).mono (by decide)).imp fun vs H Q E h => ?_
  obtain ⟨a, zs, rfl, hs, h0, hl, hask, ht, q⟩ := h
  obtain ⟨cs, e1, e2, e3, e4⟩ := law h0 hask
  refine ⟨a, cs, rfl, ?_, e2, ?_, e4, fun p hp => ?_, fun H' p hp => q H' p ?_⟩
  · rw [map_nV, ← e1]; exact hs
  · have := congrArg List.length e1
    rw [List.length_map] at this
    omega
  · rcases List.mem_cons.mp hp with z | z
    · rw [z]; exact LamX.TabS.nil (ht (T.cR, T.pR) List.mem_cons_self)
    · rw [List.mem_singleton.mp z]; exact LamX.TabS.nil (ht (T.cP, T.pP) (List.mem_cons_of_mem _ List.mem_cons_self))
  · rw [e3]; exact hp
theorem fin_mk {q : Program} {w : World} {K : PySem.W.Frag} {h : Heap} {mg : Str → Option Value} {fa : Addr} (T : Txt K mg) (hfa : mg "answers" = some (.ref fa)) (tR : PySem.W.CodeHd h T.cR T.pR ∧ h.get? T.pR = some (PySem.W.tabObj #[])) (tP : PySem.W.CodeHd h T.cP T.pP ∧ h.get? T.pP = some (PySem.W.tabObj #[]))
    (nR : K.lookup T.pR = none) (nP : K.lookup T.pP = none) :
    ∃ (fd : FuncData) (cs : List (Addr × Addr)), (∀ p ∈ cs, h.get? p.2 = some (PySem.W.tabObj #[])) ∧ (∀ p ∈ cs, K.lookup p.2 = none) ∧ (∀ p ∈ cs, PySem.W.CodeHd h p.1 p.2) ∧
      (∀ (s : Shared) (us : List Value), us.length = (["calls"] : List Str).length → BindsTo s fd ⟨us, []⟩ ((["calls"] : List Str).zip us)) ∧
      ∀ base : Heap, K.In base → base.Ns mainGlobals mg → (∀ p ∈ cs, LamX.TabB base mg p.1 p.2) → FnOk q w K mg base CX0 30 fa fd ["calls"] (spA K cs) := by
  have e := hfa.symm.trans T.answers.g
  cases e
  refine ⟨T.answers.fd, [(T.cR, T.pR), (T.cP, T.pP)], fun p hp => ?_, fun p hp => ?_, fun p hp => ?_, fun s us hu => ?_, fun base _ _ B => okA T ⟨B _ List.mem_cons_self, B _ (List.mem_cons_of_mem _ List.mem_cons_self)⟩⟩
  · rcases List.mem_cons.mp hp with z | z
    · rw [z]; exact tR.2
    · rw [List.mem_singleton.mp z]; exact tP.2
  · rcases List.mem_cons.mp hp with z | z
    · rw [z]; exact nR
    · rw [List.mem_singleton.mp z]; exact nP
  · rcases List.mem_cons.mp hp with z | z
    · rw [z]; exact tR.1
    · rw [List.mem_singleton.mp z]; exact tP.1
  · obtain ⟨oc, od, kV, doc, pm, an, cdv, ct, osl, hfd, lk, hcd⟩ := T.answers.F.ex
    rw [hfd]
    match us, hu with
    | [_], _ => exact .of_eq rfl
theorem inArg {a : Codec.denoteAll PySem.Challenge.rw_forgetproof_s01_answers.args} (h : Codec.withinAll PySem.Challenge.rw_forgetproof_s01_answers.args a = true) : Codec.inList 0 1800 (Codec.inInt (_root_.Int.ofNat 0) (_root_.Int.ofNat 4294967295)) a.1 = true := by
  have h' : Codec.inPair (Codec.within (.list 0 1800 (.int (_root_.Int.ofNat 0) (_root_.Int.ofNat 4294967295)))) (Codec.withinAll []) a = true := h
  unfold Codec.inPair at h'
  rw [Bool.and_eq_true] at h'
  exact h'.1
theorem nonneg_of {a : Codec.denoteAll PySem.Challenge.rw_forgetproof_s01_answers.args} (h : Codec.withinAll PySem.Challenge.rw_forgetproof_s01_answers.args a = true) : ∀ z ∈ (a.1 : List Int), 0 ≤ z := by
  have q := inArg h
  unfold Codec.inList Codec.inInt at q
  simp only [Bool.and_eq_true, List.all_eq_true, decide_eq_true_eq] at q
  exact fun z hz => (q.2 z hz).1
theorem short_of {a : Codec.denoteAll PySem.Challenge.rw_forgetproof_s01_answers.args} (h : Codec.withinAll PySem.Challenge.rw_forgetproof_s01_answers.args a = true) : (a.1 : List Int).length ≤ 1800 := by
  have q := inArg h
  unfold Codec.inList Codec.inLen Codec.inNat at q
  simp only [Bool.and_eq_true, decide_eq_true_eq] at q
  omega
theorem hb_bytes_of : ∀ (kV doc pm : Value) (an : Option Addr) (cdv ct : Value) (us : List Value), us.length = (["number"] : List Str).length → bindArgs (PySem.W.fnOf "bytes_of" "bytes_of" (defArgs s_bytes_of) (defBody s_bytes_of) (defScope s_bytes_of) .none kV doc pm an cdv ct) ⟨us, []⟩ = pure ((["number"] : List Str).zip us) := fun _ _ _ _ _ _ us hl => match us, hl with | [_], _ => rfl
theorem hb_hash_of : ∀ (kV doc pm : Value) (an : Option Addr) (cdv ct : Value) (us : List Value), us.length = (["numbers"] : List Str).length → bindArgs (PySem.W.fnOf "hash_of" "hash_of" (defArgs s_hash_of) (defBody s_hash_of) (defScope s_hash_of) .none kV doc pm an cdv ct) ⟨us, []⟩ = pure ((["numbers"] : List Str).zip us) := fun _ _ _ _ _ _ us hl => match us, hl with | [_], _ => rfl
theorem hb_halves_of : ∀ (kV doc pm : Value) (an : Option Addr) (cdv ct : Value) (us : List Value), us.length = (["value"] : List Str).length → bindArgs (PySem.W.fnOf "halves_of" "halves_of" (defArgs s_halves_of) (defBody s_halves_of) (defScope s_halves_of) .none kV doc pm an cdv ct) ⟨us, []⟩ = pure ((["value"] : List Str).zip us) := fun _ _ _ _ _ _ us hl => match us, hl with | [_], _ => rfl
theorem hb_value_of : ∀ (kV doc pm : Value) (an : Option Addr) (cdv ct : Value) (us : List Value), us.length = (["high", "low"] : List Str).length → bindArgs (PySem.W.fnOf "value_of" "value_of" (defArgs s_value_of) (defBody s_value_of) (defScope s_value_of) .none kV doc pm an cdv ct) ⟨us, []⟩ = pure ((["high", "low"] : List Str).zip us) := fun _ _ _ _ _ _ us hl => match us, hl with | [_, _], _ => rfl
theorem hb_ask : ∀ (kV doc pm : Value) (an : Option Addr) (cdv ct : Value) (us : List Value), us.length = (["good", "code"] : List Str).length → bindArgs (PySem.W.fnOf "ask" "ask" (defArgs s_ask) (defBody s_ask) (defScope s_ask) .none kV doc pm an cdv ct) ⟨us, []⟩ = pure ((["good", "code"] : List Str).zip us) := fun _ _ _ _ _ _ us hl => match us, hl with | [_, _], _ => rfl
theorem hb_contribution_of : ∀ (kV doc pm : Value) (an : Option Addr) (cdv ct : Value) (us : List Value), us.length = (["store", "event", "item"] : List Str).length → bindArgs (PySem.W.fnOf "contribution_of" "contribution_of" (defArgs s_contribution_of) (defBody s_contribution_of) (defScope s_contribution_of) .none kV doc pm an cdv ct) ⟨us, []⟩ = pure ((["store", "event", "item"] : List Str).zip us) := fun _ _ _ _ _ _ us hl => match us, hl with | [_, _, _], _ => rfl
theorem hb_score_of : ∀ (kV doc pm : Value) (an : Option Addr) (cdv ct : Value) (us : List Value), us.length = (["store", "events", "item"] : List Str).length → bindArgs (PySem.W.fnOf "score_of" "score_of" (defArgs s_score_of) (defBody s_score_of) (defScope s_score_of) .none kV doc pm an cdv ct) ⟨us, []⟩ = pure ((["store", "events", "item"] : List Str).zip us) := fun _ _ _ _ _ _ us hl => match us, hl with | [_, _, _], _ => rfl
theorem hb_ranking_by : ∀ (kV doc pm : Value) (an : Option Addr) (cdv ct : Value) (us : List Value), us.length = (["store", "everything", "chosen"] : List Str).length → bindArgs (PySem.W.fnOf "ranking_by" "ranking_by" (defArgs s_ranking_by) (defBody s_ranking_by) (defScope s_ranking_by) .none kV doc pm an cdv ct) ⟨us, []⟩ = pure ((["store", "everything", "chosen"] : List Str).zip us) := fun _ _ _ _ _ _ us hl => match us, hl with | [_, _, _], _ => rfl
theorem hb_first_by : ∀ (kV doc pm : Value) (an : Option Addr) (cdv ct : Value) (us : List Value), us.length = (["store", "everything", "chosen"] : List Str).length → bindArgs (PySem.W.fnOf "first_by" "first_by" (defArgs s_first_by) (defBody s_first_by) (defScope s_first_by) .none kV doc pm an cdv ct) ⟨us, []⟩ = pure ((["store", "everything", "chosen"] : List Str).zip us) := fun _ _ _ _ _ _ us hl => match us, hl with | [_, _, _], _ => rfl
theorem hb_first_of : ∀ (kV doc pm : Value) (an : Option Addr) (cdv ct : Value) (us : List Value), us.length = (["store", "member"] : List Str).length → bindArgs (PySem.W.fnOf "first_of" "first_of" (defArgs s_first_of) (defBody s_first_of) (defScope s_first_of) .none kV doc pm an cdv ct) ⟨us, []⟩ = pure ((["store", "member"] : List Str).zip us) := fun _ _ _ _ _ _ us hl => match us, hl with | [_, _], _ => rfl
theorem hb_events_at : ∀ (kV doc pm : Value) (an : Option Addr) (cdv ct : Value) (us : List Value), us.length = (["events", "positions"] : List Str).length → bindArgs (PySem.W.fnOf "events_at" "events_at" (defArgs s_events_at) (defBody s_events_at) (defScope s_events_at) .none kV doc pm an cdv ct) ⟨us, []⟩ = pure ((["events", "positions"] : List Str).zip us) := fun _ _ _ _ _ _ us hl => match us, hl with | [_, _], _ => rfl
theorem hb_events_without : ∀ (kV doc pm : Value) (an : Option Addr) (cdv ct : Value) (us : List Value), us.length = (["events", "positions"] : List Str).length → bindArgs (PySem.W.fnOf "events_without" "events_without" (defArgs s_events_without) (defBody s_events_without) (defScope s_events_without) .none kV doc pm an cdv ct) ⟨us, []⟩ = pure ((["events", "positions"] : List Str).zip us) := fun _ _ _ _ _ _ us hl => match us, hl with | [_, _], _ => rfl
theorem hb_position_sets : ∀ (kV doc pm : Value) (an : Option Addr) (cdv ct : Value) (us : List Value), us.length = (["many"] : List Str).length → bindArgs (PySem.W.fnOf "position_sets" "position_sets" (defArgs s_position_sets) (defBody s_position_sets) (defScope s_position_sets) .none kV doc pm an cdv ct) ⟨us, []⟩ = pure ((["many"] : List Str).zip us) := fun _ _ _ _ _ _ us hl => match us, hl with | [_], _ => rfl
theorem hb_removal_set_of : ∀ (kV doc pm : Value) (an : Option Addr) (cdv ct : Value) (us : List Value), us.length = (["store", "member"] : List Str).length → bindArgs (PySem.W.fnOf "removal_set_of" "removal_set_of" (defArgs s_removal_set_of) (defBody s_removal_set_of) (defScope s_removal_set_of) .none kV doc pm an cdv ct) ⟨us, []⟩ = pure ((["store", "member"] : List Str).zip us) := fun _ _ _ _ _ _ us hl => match us, hl with | [_, _], _ => rfl
theorem hb_sufficient_set_of : ∀ (kV doc pm : Value) (an : Option Addr) (cdv ct : Value) (us : List Value), us.length = (["store", "member"] : List Str).length → bindArgs (PySem.W.fnOf "sufficient_set_of" "sufficient_set_of" (defArgs s_sufficient_set_of) (defBody s_sufficient_set_of) (defScope s_sufficient_set_of) .none kV doc pm an cdv ct) ⟨us, []⟩ = pure ((["store", "member"] : List Str).zip us) := fun _ _ _ _ _ _ us hl => match us, hl with | [_, _], _ => rfl
theorem hb_least_weight : ∀ (kV doc pm : Value) (an : Option Addr) (cdv ct : Value) (us : List Value), us.length = (["store", "member", "on", "goal", "most"] : List Str).length → bindArgs (PySem.W.fnOf "least_weight" "least_weight" (defArgs s_least_weight) (defBody s_least_weight) (defScope s_least_weight) .none kV doc pm an cdv ct) ⟨us, []⟩ = pure ((["store", "member", "on", "goal", "most"] : List Str).zip us) := fun _ _ _ _ _ _ us hl => match us, hl with | [_, _, _, _, _], _ => rfl
theorem hb_moved_many : ∀ (kV doc pm : Value) (an : Option Addr) (cdv ct : Value) (us : List Value), us.length = (["old", "fresh"] : List Str).length → bindArgs (PySem.W.fnOf "moved_many" "moved_many" (defArgs s_moved_many) (defBody s_moved_many) (defScope s_moved_many) .none kV doc pm an cdv ct) ⟨us, []⟩ = pure ((["old", "fresh"] : List Str).zip us) := fun _ _ _ _ _ _ us hl => match us, hl with | [_, _], _ => rfl
theorem hb_factorial_of : ∀ (kV doc pm : Value) (an : Option Addr) (cdv ct : Value) (us : List Value), us.length = (["number"] : List Str).length → bindArgs (PySem.W.fnOf "factorial_of" "factorial_of" (defArgs s_factorial_of) (defBody s_factorial_of) (defScope s_factorial_of) .none kV doc pm an cdv ct) ⟨us, []⟩ = pure ((["number"] : List Str).zip us) := fun _ _ _ _ _ _ us hl => match us, hl with | [_], _ => rfl
theorem hb_common_divisor : ∀ (kV doc pm : Value) (an : Option Addr) (cdv ct : Value) (us : List Value), us.length = (["one", "other"] : List Str).length → bindArgs (PySem.W.fnOf "common_divisor" "common_divisor" (defArgs s_common_divisor) (defBody s_common_divisor) (defScope s_common_divisor) .none kV doc pm an cdv ct) ⟨us, []⟩ = pure ((["one", "other"] : List Str).zip us) := fun _ _ _ _ _ _ us hl => match us, hl with | [_, _], _ => rfl
theorem hb_lowest_terms : ∀ (kV doc pm : Value) (an : Option Addr) (cdv ct : Value) (us : List Value), us.length = (["above", "below"] : List Str).length → bindArgs (PySem.W.fnOf "lowest_terms" "lowest_terms" (defArgs s_lowest_terms) (defBody s_lowest_terms) (defScope s_lowest_terms) .none kV doc pm an cdv ct) ⟨us, []⟩ = pure ((["above", "below"] : List Str).zip us) := fun _ _ _ _ _ _ us hl => match us, hl with | [_, _], _ => rfl
theorem hb_worth_of : ∀ (kV doc pm : Value) (an : Option Addr) (cdv ct : Value) (us : List Value), us.length = (["store", "member", "item", "positions"] : List Str).length → bindArgs (PySem.W.fnOf "worth_of" "worth_of" (defArgs s_worth_of) (defBody s_worth_of) (defScope s_worth_of) .none kV doc pm an cdv ct) ⟨us, []⟩ = pure ((["store", "member", "item", "positions"] : List Str).zip us) := fun _ _ _ _ _ _ us hl => match us, hl with | [_, _, _, _], _ => rfl
theorem hb_share_of : ∀ (kV doc pm : Value) (an : Option Addr) (cdv ct : Value) (us : List Value), us.length = (["store", "member", "item", "position"] : List Str).length → bindArgs (PySem.W.fnOf "share_of" "share_of" (defArgs s_share_of) (defBody s_share_of) (defScope s_share_of) .none kV doc pm an cdv ct) ⟨us, []⟩ = pure ((["store", "member", "item", "position"] : List Str).zip us) := fun _ _ _ _ _ _ us hl => match us, hl with | [_, _, _, _], _ => rfl
theorem hb_Member_init : ∀ (kV doc pm : Value) (an : Option Addr) (cdv ct : Value) (us : List Value), us.length = (["self", "number"] : List Str).length → bindArgs (PySem.W.fnOf "__init__" "Member.__init__" (defArgs s_Member_init) (defBody s_Member_init) (defScope s_Member_init) .none kV doc pm an cdv ct) ⟨us, []⟩ = pure ((["self", "number"] : List Str).zip us) := fun _ _ _ _ _ _ us hl => match us, hl with | [_, _], _ => rfl
theorem hb_Member_add_event : ∀ (kV doc pm : Value) (an : Option Addr) (cdv ct : Value) (us : List Value), us.length = (["self", "item", "weight"] : List Str).length → bindArgs (PySem.W.fnOf "add_event" "Member.add_event" (defArgs s_Member_add_event) (defBody s_Member_add_event) (defScope s_Member_add_event) .none kV doc pm an cdv ct) ⟨us, []⟩ = pure ((["self", "item", "weight"] : List Str).zip us) := fun _ _ _ _ _ _ us hl => match us, hl with | [_, _, _], _ => rfl
theorem hb_Member_remove_event : ∀ (kV doc pm : Value) (an : Option Addr) (cdv ct : Value) (us : List Value), us.length = (["self", "position"] : List Str).length → bindArgs (PySem.W.fnOf "remove_event" "Member.remove_event" (defArgs s_Member_remove_event) (defBody s_Member_remove_event) (defScope s_Member_remove_event) .none kV doc pm an cdv ct) ⟨us, []⟩ = pure ((["self", "position"] : List Str).zip us) := fun _ _ _ _ _ _ us hl => match us, hl with | [_, _], _ => rfl
theorem hb_Store_init : ∀ (kV doc pm : Value) (an : Option Addr) (cdv ct : Value) (us : List Value), us.length = (["self", "items_many"] : List Str).length → bindArgs (PySem.W.fnOf "__init__" "Store.__init__" (defArgs s_Store_init) (defBody s_Store_init) (defScope s_Store_init) .none kV doc pm an cdv ct) ⟨us, []⟩ = pure ((["self", "items_many"] : List Str).zip us) := fun _ _ _ _ _ _ us hl => match us, hl with | [_, _], _ => rfl
theorem hb_Store_set_similarity : ∀ (kV doc pm : Value) (an : Option Addr) (cdv ct : Value) (us : List Value), us.length = (["self", "first", "second", "value"] : List Str).length → bindArgs (PySem.W.fnOf "set_similarity" "Store.set_similarity" (defArgs s_Store_set_similarity) (defBody s_Store_set_similarity) (defScope s_Store_set_similarity) .none kV doc pm an cdv ct) ⟨us, []⟩ = pure ((["self", "first", "second", "value"] : List Str).zip us) := fun _ _ _ _ _ _ us hl => match us, hl with | [_, _, _, _], _ => rfl
theorem hb_Store_add_member : ∀ (kV doc pm : Value) (an : Option Addr) (cdv ct : Value) (us : List Value), us.length = (["self", "number"] : List Str).length → bindArgs (PySem.W.fnOf "add_member" "Store.add_member" (defArgs s_Store_add_member) (defBody s_Store_add_member) (defScope s_Store_add_member) .none kV doc pm an cdv ct) ⟨us, []⟩ = pure ((["self", "number"] : List Str).zip us) := fun _ _ _ _ _ _ us hl => match us, hl with | [_, _], _ => rfl
theorem hb_Store_delete_member : ∀ (kV doc pm : Value) (an : Option Addr) (cdv ct : Value) (us : List Value), us.length = (["self", "number"] : List Str).length → bindArgs (PySem.W.fnOf "delete_member" "Store.delete_member" (defArgs s_Store_delete_member) (defBody s_Store_delete_member) (defScope s_Store_delete_member) .none kV doc pm an cdv ct) ⟨us, []⟩ = pure ((["self", "number"] : List Str).zip us) := fun _ _ _ _ _ _ us hl => match us, hl with | [_, _], _ => rfl
theorem hb_others_than : ∀ (kV doc pm : Value) (an : Option Addr) (cdv ct : Value) (us : List Value), us.length = (["store", "number"] : List Str).length → bindArgs (PySem.W.fnOf "others_than" "others_than" (defArgs s_others_than) (defBody s_others_than) (defScope s_others_than) .none kV doc pm an cdv ct) ⟨us, []⟩ = pure ((["store", "number"] : List Str).zip us) := fun _ _ _ _ _ _ us hl => match us, hl with | [_, _], _ => rfl
theorem hb_has_member : ∀ (kV doc pm : Value) (an : Option Addr) (cdv ct : Value) (us : List Value), us.length = (["store", "number"] : List Str).length → bindArgs (PySem.W.fnOf "has_member" "has_member" (defArgs s_has_member) (defBody s_has_member) (defScope s_has_member) .none kV doc pm an cdv ct) ⟨us, []⟩ = pure ((["store", "number"] : List Str).zip us) := fun _ _ _ _ _ _ us hl => match us, hl with | [_, _], _ => rfl
theorem hb_index_of : ∀ (kV doc pm : Value) (an : Option Addr) (cdv ct : Value) (us : List Value), us.length = (["store", "number"] : List Str).length → bindArgs (PySem.W.fnOf "index_of" "index_of" (defArgs s_index_of) (defBody s_index_of) (defScope s_index_of) .none kV doc pm an cdv ct) ⟨us, []⟩ = pure ((["store", "number"] : List Str).zip us) := fun _ _ _ _ _ _ us hl => match us, hl with | [_, _], _ => rfl
theorem hb_member_of : ∀ (kV doc pm : Value) (an : Option Addr) (cdv ct : Value) (us : List Value), us.length = (["store", "number"] : List Str).length → bindArgs (PySem.W.fnOf "member_of" "member_of" (defArgs s_member_of) (defBody s_member_of) (defScope s_member_of) .none kV doc pm an cdv ct) ⟨us, []⟩ = pure ((["store", "number"] : List Str).zip us) := fun _ _ _ _ _ _ us hl => match us, hl with | [_, _], _ => rfl
theorem hb_need_item : ∀ (kV doc pm : Value) (an : Option Addr) (cdv ct : Value) (us : List Value), us.length = (["store", "item"] : List Str).length → bindArgs (PySem.W.fnOf "need_item" "need_item" (defArgs s_need_item) (defBody s_need_item) (defScope s_need_item) .none kV doc pm an cdv ct) ⟨us, []⟩ = pure ((["store", "item"] : List Str).zip us) := fun _ _ _ _ _ _ us hl => match us, hl with | [_, _], _ => rfl
theorem hb_need_event : ∀ (kV doc pm : Value) (an : Option Addr) (cdv ct : Value) (us : List Value), us.length = (["member", "position"] : List Str).length → bindArgs (PySem.W.fnOf "need_event" "need_event" (defArgs s_need_event) (defBody s_need_event) (defScope s_need_event) .none kV doc pm an cdv ct) ⟨us, []⟩ = pure ((["member", "position"] : List Str).zip us) := fun _ _ _ _ _ _ us hl => match us, hl with | [_, _], _ => rfl
theorem hb_leaf_of : ∀ (kV doc pm : Value) (an : Option Addr) (cdv ct : Value) (us : List Value), us.length = (["member"] : List Str).length → bindArgs (PySem.W.fnOf "leaf_of" "leaf_of" (defArgs s_leaf_of) (defBody s_leaf_of) (defScope s_leaf_of) .none kV doc pm an cdv ct) ⟨us, []⟩ = pure ((["member"] : List Str).zip us) := fun _ _ _ _ _ _ us hl => match us, hl with | [_], _ => rfl
theorem hb_leaves_of : ∀ (kV doc pm : Value) (an : Option Addr) (cdv ct : Value) (us : List Value), us.length = (["members"] : List Str).length → bindArgs (PySem.W.fnOf "leaves_of" "leaves_of" (defArgs s_leaves_of) (defBody s_leaves_of) (defScope s_leaves_of) .none kV doc pm an cdv ct) ⟨us, []⟩ = pure ((["members"] : List Str).zip us) := fun _ _ _ _ _ _ us hl => match us, hl with | [_], _ => rfl
theorem hb_level_above : ∀ (kV doc pm : Value) (an : Option Addr) (cdv ct : Value) (us : List Value), us.length = (["level"] : List Str).length → bindArgs (PySem.W.fnOf "level_above" "level_above" (defArgs s_level_above) (defBody s_level_above) (defScope s_level_above) .none kV doc pm an cdv ct) ⟨us, []⟩ = pure ((["level"] : List Str).zip us) := fun _ _ _ _ _ _ us hl => match us, hl with | [_], _ => rfl
theorem hb_levels_of : ∀ (kV doc pm : Value) (an : Option Addr) (cdv ct : Value) (us : List Value), us.length = (["leaves"] : List Str).length → bindArgs (PySem.W.fnOf "levels_of" "levels_of" (defArgs s_levels_of) (defBody s_levels_of) (defScope s_levels_of) .none kV doc pm an cdv ct) ⟨us, []⟩ = pure ((["leaves"] : List Str).zip us) := fun _ _ _ _ _ _ us hl => match us, hl with | [_], _ => rfl
theorem hb_root_of : ∀ (kV doc pm : Value) (an : Option Addr) (cdv ct : Value) (us : List Value), us.length = (["members"] : List Str).length → bindArgs (PySem.W.fnOf "root_of" "root_of" (defArgs s_root_of) (defBody s_root_of) (defScope s_root_of) .none kV doc pm an cdv ct) ⟨us, []⟩ = pure ((["members"] : List Str).zip us) := fun _ _ _ _ _ _ us hl => match us, hl with | [_], _ => rfl
theorem hb_proof_of : ∀ (kV doc pm : Value) (an : Option Addr) (cdv ct : Value) (us : List Value), us.length = (["members", "index"] : List Str).length → bindArgs (PySem.W.fnOf "proof_of" "proof_of" (defArgs s_proof_of) (defBody s_proof_of) (defScope s_proof_of) .none kV doc pm an cdv ct) ⟨us, []⟩ = pure ((["members", "index"] : List Str).zip us) := fun _ _ _ _ _ _ us hl => match us, hl with | [_, _], _ => rfl
theorem hb_are_steps : ∀ (kV doc pm : Value) (an : Option Addr) (cdv ct : Value) (us : List Value), us.length = (["numbers"] : List Str).length → bindArgs (PySem.W.fnOf "are_steps" "are_steps" (defArgs s_are_steps) (defBody s_are_steps) (defScope s_are_steps) .none kV doc pm an cdv ct) ⟨us, []⟩ = pure ((["numbers"] : List Str).zip us) := fun _ _ _ _ _ _ us hl => match us, hl with | [_], _ => rfl
theorem hb_end_of : ∀ (kV doc pm : Value) (an : Option Addr) (cdv ct : Value) (us : List Value), us.length = (["leaf", "numbers"] : List Str).length → bindArgs (PySem.W.fnOf "end_of" "end_of" (defArgs s_end_of) (defBody s_end_of) (defScope s_end_of) .none kV doc pm an cdv ct) ⟨us, []⟩ = pure ((["leaf", "numbers"] : List Str).zip us) := fun _ _ _ _ _ _ us hl => match us, hl with | [_, _], _ => rfl
theorem hb_listed : ∀ (kV doc pm : Value) (an : Option Addr) (cdv ct : Value) (us : List Value), us.length = (["pairs"] : List Str).length → bindArgs (PySem.W.fnOf "listed" "listed" (defArgs s_listed) (defBody s_listed) (defScope s_listed) .none kV doc pm an cdv ct) ⟨us, []⟩ = pure ((["pairs"] : List Str).zip us) := fun _ _ _ _ _ _ us hl => match us, hl with | [_], _ => rfl
theorem hb_one_more : ∀ (kV doc pm : Value) (an : Option Addr) (cdv ct : Value) (us : List Value), us.length = (["first"] : List Str).length → bindArgs (PySem.W.fnOf "one_more" "one_more" (defArgs s_one_more) (defBody s_one_more) (defScope s_one_more) .none kV doc pm an cdv ct) ⟨us, []⟩ = pure ((["first"] : List Str).zip us) := fun _ _ _ _ _ _ us hl => match us, hl with | [_], _ => rfl
theorem hb_set_similarity : ∀ (kV doc pm : Value) (an : Option Addr) (cdv ct : Value) (us : List Value), us.length = (["store", "numbers", "row"] : List Str).length → bindArgs (PySem.W.fnOf "set_similarity" "set_similarity" (defArgs s_set_similarity) (defBody s_set_similarity) (defScope s_set_similarity) .none kV doc pm an cdv ct) ⟨us, []⟩ = pure ((["store", "numbers", "row"] : List Str).zip us) := fun _ _ _ _ _ _ us hl => match us, hl with | [_, _, _], _ => rfl
theorem hb_add_member : ∀ (kV doc pm : Value) (an : Option Addr) (cdv ct : Value) (us : List Value), us.length = (["store", "numbers", "row"] : List Str).length → bindArgs (PySem.W.fnOf "add_member" "add_member" (defArgs s_add_member) (defBody s_add_member) (defScope s_add_member) .none kV doc pm an cdv ct) ⟨us, []⟩ = pure ((["store", "numbers", "row"] : List Str).zip us) := fun _ _ _ _ _ _ us hl => match us, hl with | [_, _, _], _ => rfl
theorem hb_delete_member : ∀ (kV doc pm : Value) (an : Option Addr) (cdv ct : Value) (us : List Value), us.length = (["store", "numbers", "row"] : List Str).length → bindArgs (PySem.W.fnOf "delete_member" "delete_member" (defArgs s_delete_member) (defBody s_delete_member) (defScope s_delete_member) .none kV doc pm an cdv ct) ⟨us, []⟩ = pure ((["store", "numbers", "row"] : List Str).zip us) := fun _ _ _ _ _ _ us hl => match us, hl with | [_, _, _], _ => rfl
theorem hb_add_event : ∀ (kV doc pm : Value) (an : Option Addr) (cdv ct : Value) (us : List Value), us.length = (["store", "numbers", "row"] : List Str).length → bindArgs (PySem.W.fnOf "add_event" "add_event" (defArgs s_add_event) (defBody s_add_event) (defScope s_add_event) .none kV doc pm an cdv ct) ⟨us, []⟩ = pure ((["store", "numbers", "row"] : List Str).zip us) := fun _ _ _ _ _ _ us hl => match us, hl with | [_, _, _], _ => rfl
theorem hb_remove_event : ∀ (kV doc pm : Value) (an : Option Addr) (cdv ct : Value) (us : List Value), us.length = (["store", "numbers", "row"] : List Str).length → bindArgs (PySem.W.fnOf "remove_event" "remove_event" (defArgs s_remove_event) (defBody s_remove_event) (defScope s_remove_event) .none kV doc pm an cdv ct) ⟨us, []⟩ = pure ((["store", "numbers", "row"] : List Str).zip us) := fun _ _ _ _ _ _ us hl => match us, hl with | [_, _, _], _ => rfl
theorem hb_tell_events : ∀ (kV doc pm : Value) (an : Option Addr) (cdv ct : Value) (us : List Value), us.length = (["store", "numbers", "row"] : List Str).length → bindArgs (PySem.W.fnOf "tell_events" "tell_events" (defArgs s_tell_events) (defBody s_tell_events) (defScope s_tell_events) .none kV doc pm an cdv ct) ⟨us, []⟩ = pure ((["store", "numbers", "row"] : List Str).zip us) := fun _ _ _ _ _ _ us hl => match us, hl with | [_, _, _], _ => rfl
theorem hb_tell_scores : ∀ (kV doc pm : Value) (an : Option Addr) (cdv ct : Value) (us : List Value), us.length = (["store", "numbers", "row"] : List Str).length → bindArgs (PySem.W.fnOf "tell_scores" "tell_scores" (defArgs s_tell_scores) (defBody s_tell_scores) (defScope s_tell_scores) .none kV doc pm an cdv ct) ⟨us, []⟩ = pure ((["store", "numbers", "row"] : List Str).zip us) := fun _ _ _ _ _ _ us hl => match us, hl with | [_, _, _], _ => rfl
theorem hb_recommend : ∀ (kV doc pm : Value) (an : Option Addr) (cdv ct : Value) (us : List Value), us.length = (["store", "numbers", "row"] : List Str).length → bindArgs (PySem.W.fnOf "recommend" "recommend" (defArgs s_recommend) (defBody s_recommend) (defScope s_recommend) .none kV doc pm an cdv ct) ⟨us, []⟩ = pure ((["store", "numbers", "row"] : List Str).zip us) := fun _ _ _ _ _ _ us hl => match us, hl with | [_, _, _], _ => rfl
theorem hb_tell_contributions : ∀ (kV doc pm : Value) (an : Option Addr) (cdv ct : Value) (us : List Value), us.length = (["store", "numbers", "row"] : List Str).length → bindArgs (PySem.W.fnOf "tell_contributions" "tell_contributions" (defArgs s_tell_contributions) (defBody s_tell_contributions) (defScope s_tell_contributions) .none kV doc pm an cdv ct) ⟨us, []⟩ = pure ((["store", "numbers", "row"] : List Str).zip us) := fun _ _ _ _ _ _ us hl => match us, hl with | [_, _, _], _ => rfl
theorem hb_margin : ∀ (kV doc pm : Value) (an : Option Addr) (cdv ct : Value) (us : List Value), us.length = (["store", "numbers", "row"] : List Str).length → bindArgs (PySem.W.fnOf "margin" "margin" (defArgs s_margin) (defBody s_margin) (defScope s_margin) .none kV doc pm an cdv ct) ⟨us, []⟩ = pure ((["store", "numbers", "row"] : List Str).zip us) := fun _ _ _ _ _ _ us hl => match us, hl with | [_, _, _], _ => rfl
theorem hb_tell_removal_set : ∀ (kV doc pm : Value) (an : Option Addr) (cdv ct : Value) (us : List Value), us.length = (["store", "numbers", "row"] : List Str).length → bindArgs (PySem.W.fnOf "tell_removal_set" "tell_removal_set" (defArgs s_tell_removal_set) (defBody s_tell_removal_set) (defScope s_tell_removal_set) .none kV doc pm an cdv ct) ⟨us, []⟩ = pure ((["store", "numbers", "row"] : List Str).zip us) := fun _ _ _ _ _ _ us hl => match us, hl with | [_, _, _], _ => rfl
theorem hb_tell_sufficient_set : ∀ (kV doc pm : Value) (an : Option Addr) (cdv ct : Value) (us : List Value), us.length = (["store", "numbers", "row"] : List Str).length → bindArgs (PySem.W.fnOf "tell_sufficient_set" "tell_sufficient_set" (defArgs s_tell_sufficient_set) (defBody s_tell_sufficient_set) (defScope s_tell_sufficient_set) .none kV doc pm an cdv ct) ⟨us, []⟩ = pure ((["store", "numbers", "row"] : List Str).zip us) := fun _ _ _ _ _ _ us hl => match us, hl with | [_, _, _], _ => rfl
theorem hb_robust : ∀ (kV doc pm : Value) (an : Option Addr) (cdv ct : Value) (us : List Value), us.length = (["store", "numbers", "row"] : List Str).length → bindArgs (PySem.W.fnOf "robust" "robust" (defArgs s_robust) (defBody s_robust) (defScope s_robust) .none kV doc pm an cdv ct) ⟨us, []⟩ = pure ((["store", "numbers", "row"] : List Str).zip us) := fun _ _ _ _ _ _ us hl => match us, hl with | [_, _, _], _ => rfl
theorem hb_shapley : ∀ (kV doc pm : Value) (an : Option Addr) (cdv ct : Value) (us : List Value), us.length = (["store", "numbers", "row"] : List Str).length → bindArgs (PySem.W.fnOf "shapley" "shapley" (defArgs s_shapley) (defBody s_shapley) (defScope s_shapley) .none kV doc pm an cdv ct) ⟨us, []⟩ = pure ((["store", "numbers", "row"] : List Str).zip us) := fun _ _ _ _ _ _ us hl => match us, hl with | [_, _, _], _ => rfl
theorem hb_influence : ∀ (kV doc pm : Value) (an : Option Addr) (cdv ct : Value) (us : List Value), us.length = (["store", "numbers", "row"] : List Str).length → bindArgs (PySem.W.fnOf "influence" "influence" (defArgs s_influence) (defBody s_influence) (defScope s_influence) .none kV doc pm an cdv ct) ⟨us, []⟩ = pure ((["store", "numbers", "row"] : List Str).zip us) := fun _ _ _ _ _ _ us hl => match us, hl with | [_, _, _], _ => rfl
theorem hb_needed_weight : ∀ (kV doc pm : Value) (an : Option Addr) (cdv ct : Value) (us : List Value), us.length = (["store", "numbers", "row"] : List Str).length → bindArgs (PySem.W.fnOf "needed_weight" "needed_weight" (defArgs s_needed_weight) (defBody s_needed_weight) (defScope s_needed_weight) .none kV doc pm an cdv ct) ⟨us, []⟩ = pure ((["store", "numbers", "row"] : List Str).zip us) := fun _ _ _ _ _ _ us hl => match us, hl with | [_, _, _], _ => rfl
theorem hb_are_positions : ∀ (kV doc pm : Value) (an : Option Addr) (cdv ct : Value) (us : List Value), us.length = (["member", "row"] : List Str).length → bindArgs (PySem.W.fnOf "are_positions" "are_positions" (defArgs s_are_positions) (defBody s_are_positions) (defScope s_are_positions) .none kV doc pm an cdv ct) ⟨us, []⟩ = pure ((["member", "row"] : List Str).zip us) := fun _ _ _ _ _ _ us hl => match us, hl with | [_, _], _ => rfl
theorem hb_what_if : ∀ (kV doc pm : Value) (an : Option Addr) (cdv ct : Value) (us : List Value), us.length = (["store", "numbers", "row"] : List Str).length → bindArgs (PySem.W.fnOf "what_if" "what_if" (defArgs s_what_if) (defBody s_what_if) (defScope s_what_if) .none kV doc pm an cdv ct) ⟨us, []⟩ = pure ((["store", "numbers", "row"] : List Str).zip us) := fun _ _ _ _ _ _ us hl => match us, hl with | [_, _, _], _ => rfl
theorem hb_tell_root : ∀ (kV doc pm : Value) (an : Option Addr) (cdv ct : Value) (us : List Value), us.length = (["store", "numbers", "row"] : List Str).length → bindArgs (PySem.W.fnOf "tell_root" "tell_root" (defArgs s_tell_root) (defBody s_tell_root) (defScope s_tell_root) .none kV doc pm an cdv ct) ⟨us, []⟩ = pure ((["store", "numbers", "row"] : List Str).zip us) := fun _ _ _ _ _ _ us hl => match us, hl with | [_, _, _], _ => rfl
theorem hb_tell_leaf : ∀ (kV doc pm : Value) (an : Option Addr) (cdv ct : Value) (us : List Value), us.length = (["store", "numbers", "row"] : List Str).length → bindArgs (PySem.W.fnOf "tell_leaf" "tell_leaf" (defArgs s_tell_leaf) (defBody s_tell_leaf) (defScope s_tell_leaf) .none kV doc pm an cdv ct) ⟨us, []⟩ = pure ((["store", "numbers", "row"] : List Str).zip us) := fun _ _ _ _ _ _ us hl => match us, hl with | [_, _, _], _ => rfl
theorem hb_tell_proof : ∀ (kV doc pm : Value) (an : Option Addr) (cdv ct : Value) (us : List Value), us.length = (["store", "numbers", "row"] : List Str).length → bindArgs (PySem.W.fnOf "tell_proof" "tell_proof" (defArgs s_tell_proof) (defBody s_tell_proof) (defScope s_tell_proof) .none kV doc pm an cdv ct) ⟨us, []⟩ = pure ((["store", "numbers", "row"] : List Str).zip us) := fun _ _ _ _ _ _ us hl => match us, hl with | [_, _, _], _ => rfl
theorem hb_check_proof : ∀ (kV doc pm : Value) (an : Option Addr) (cdv ct : Value) (us : List Value), us.length = (["store", "numbers", "row"] : List Str).length → bindArgs (PySem.W.fnOf "check_proof" "check_proof" (defArgs s_check_proof) (defBody s_check_proof) (defScope s_check_proof) .none kV doc pm an cdv ct) ⟨us, []⟩ = pure ((["store", "numbers", "row"] : List Str).zip us) := fun _ _ _ _ _ _ us hl => match us, hl with | [_, _, _], _ => rfl
theorem hb_absence : ∀ (kV doc pm : Value) (an : Option Addr) (cdv ct : Value) (us : List Value), us.length = (["store", "numbers", "row"] : List Str).length → bindArgs (PySem.W.fnOf "absence" "absence" (defArgs s_absence) (defBody s_absence) (defScope s_absence) .none kV doc pm an cdv ct) ⟨us, []⟩ = pure ((["store", "numbers", "row"] : List Str).zip us) := fun _ _ _ _ _ _ us hl => match us, hl with | [_, _, _], _ => rfl
theorem hb_root_without : ∀ (kV doc pm : Value) (an : Option Addr) (cdv ct : Value) (us : List Value), us.length = (["store", "numbers", "row"] : List Str).length → bindArgs (PySem.W.fnOf "root_without" "root_without" (defArgs s_root_without) (defBody s_root_without) (defScope s_root_without) .none kV doc pm an cdv ct) ⟨us, []⟩ = pure ((["store", "numbers", "row"] : List Str).zip us) := fun _ _ _ _ _ _ us hl => match us, hl with | [_, _, _], _ => rfl
theorem hb_status : ∀ (kV doc pm : Value) (an : Option Addr) (cdv ct : Value) (us : List Value), us.length = (["store", "numbers", "row"] : List Str).length → bindArgs (PySem.W.fnOf "status" "status" (defArgs s_status) (defBody s_status) (defScope s_status) .none kV doc pm an cdv ct) ⟨us, []⟩ = pure ((["store", "numbers", "row"] : List Str).zip us) := fun _ _ _ _ _ _ us hl => match us, hl with | [_, _, _], _ => rfl
theorem hb_Call_init : ∀ (kV doc pm : Value) (an : Option Addr) (cdv ct : Value) (us : List Value), us.length = (["self", "operation", "numbers", "row"] : List Str).length → bindArgs (PySem.W.fnOf "__init__" "Call.__init__" (defArgs s_Call_init) (defBody s_Call_init) (defScope s_Call_init) .none kV doc pm an cdv ct) ⟨us, []⟩ = pure ((["self", "operation", "numbers", "row"] : List Str).zip us) := fun _ _ _ _ _ _ us hl => match us, hl with | [_, _, _, _], _ => rfl
theorem hb_Desk_init : ∀ (kV doc pm : Value) (an : Option Addr) (cdv ct : Value) (us : List Value), us.length = (["self"] : List Str).length → bindArgs (PySem.W.fnOf "__init__" "Desk.__init__" (defArgs s_Desk_init) (defBody s_Desk_init) (defScope s_Desk_init) .none kV doc pm an cdv ct) ⟨us, []⟩ = pure ((["self"] : List Str).zip us) := fun _ _ _ _ _ _ us hl => match us, hl with | [_], _ => rfl
theorem hb_Desk_create : ∀ (kV doc pm : Value) (an : Option Addr) (cdv ct : Value) (us : List Value), us.length = (["self", "call"] : List Str).length → bindArgs (PySem.W.fnOf "create" "Desk.create" (defArgs s_Desk_create) (defBody s_Desk_create) (defScope s_Desk_create) .none kV doc pm an cdv ct) ⟨us, []⟩ = pure ((["self", "call"] : List Str).zip us) := fun _ _ _ _ _ _ us hl => match us, hl with | [_, _], _ => rfl
theorem hb_read_calls : ∀ (kV doc pm : Value) (an : Option Addr) (cdv ct : Value) (us : List Value), us.length = (["numbers"] : List Str).length → bindArgs (PySem.W.fnOf "read_calls" "read_calls" (defArgs s_read_calls) (defBody s_read_calls) (defScope s_read_calls) .none kV doc pm an cdv ct) ⟨us, []⟩ = pure ((["numbers"] : List Str).zip us) := fun _ _ _ _ _ _ us hl => match us, hl with | [_], _ => rfl
theorem hb_done : ∀ (kV doc pm : Value) (an : Option Addr) (cdv ct : Value) (us : List Value), us.length = (["desk", "call"] : List Str).length → bindArgs (PySem.W.fnOf "done" "done" (defArgs s_done) (defBody s_done) (defScope s_done) .none kV doc pm an cdv ct) ⟨us, []⟩ = pure ((["desk", "call"] : List Str).zip us) := fun _ _ _ _ _ _ us hl => match us, hl with | [_, _], _ => rfl
theorem hb_answer_of : ∀ (kV doc pm : Value) (an : Option Addr) (cdv ct : Value) (us : List Value), us.length = (["desk", "call"] : List Str).length → bindArgs (PySem.W.fnOf "answer_of" "answer_of" (defArgs s_answer_of) (defBody s_answer_of) (defScope s_answer_of) .none kV doc pm an cdv ct) ⟨us, []⟩ = pure ((["desk", "call"] : List Str).zip us) := fun _ _ _ _ _ _ us hl => match us, hl with | [_, _], _ => rfl
theorem hb_answers : ∀ (kV doc pm : Value) (an : Option Addr) (cdv ct : Value) (us : List Value), us.length = (["calls"] : List Str).length → bindArgs (PySem.W.fnOf "answers" "answers" (defArgs s_answers) (defBody s_answers) (defScope s_answers) .none kV doc pm an cdv ct) ⟨us, []⟩ = pure ((["calls"] : List Str).zip us) := fun _ _ _ _ _ _ us hl => match us, hl with | [_], _ => rfl
end FpS
open PySem PySem.W PyProof.Rows L2
set_option maxRecDepth 100000 in
set_option maxHeartbeats 0 in
theorem PySem.Challenge.cw_forgetproof_s01_answers_holds : PySem.Challenge.rw_forgetproof_s01_answers.Holds := by
  w_on; k_headS; (case hw => exact ⟨[.list [.int 24]], by decide +kernel, by decide +kernel⟩)
  k_fillS
  refine FpS.walk_specKT (r := PySem.Challenge.rw_forgetproof_s01_answers) (k := 30) (CX := L2.CX0) (ps := ["calls"]) (sp := FpS.spA) (by decide +kernel) rfl rfl ⟨rfl, by decide, by decide⟩ (fun w h Y => PySem.W.kIn_of Y) ?F ?S (fun _ _ _ _ z => z)
  case S =>
    intro K cs H0 H xs a hO heq hsame htab hwi hask hx
    cases hx with
    | cons h1 h2 =>
      cases h2
      cases h1 with
      | lst hs ha =>
        have e := L2.ints_dw a.1 _ ha
        subst e
        refine ⟨_, a.1, rfl, hsame.seq hs, FpS.nonneg_of hwi, FpS.short_of hwi, hask, htab, fun H' p hp => .lst (L2.SqL.of hp) (L2.dw_ints _)⟩
  case F =>
    intro w mg fa h Y KX G tk hmg
    let c_START := FpS.intAt_mk KX G "START" (14695981039346656037) (by k_is)
    let c_FACTOR := FpS.intAt_mk KX G "FACTOR" (1099511628211) (by k_is)
    let c_HALF := FpS.intAt_mk KX G "HALF" (4294967296) (by k_is)
    let c_WHOLE := FpS.intAt_mk KX G "WHOLE" (18446744073709551616) (by k_is)
    let c_BYTES := FpS.intAt_mk KX G "BYTES" (8) (by k_is)
    let c_BYTE := FpS.intAt_mk KX G "BYTE" (256) (by k_is)
    let c_NOT_THERE := FpS.intAt_mk KX G "NOT_THERE" (-2) (by k_is)
    let c_NO_STORE := FpS.intAt_mk KX G "NO_STORE" (-11) (by k_is)
    let c_THERE_ALREADY := FpS.intAt_mk KX G "THERE_ALREADY" (-17) (by k_is)
    let c_BAD_ARGUMENT := FpS.intAt_mk KX G "BAD_ARGUMENT" (-22) (by k_is)
    let c_FULL := FpS.intAt_mk KX G "FULL" (-28) (by k_is)
    let c_NONE_SUCH := FpS.intAt_mk KX G "NONE_SUCH" (-33) (by k_is)
    let c_SAME := FpS.intAt_mk KX G "SAME" (100) (by k_is)
    let c_NOTHING := FpS.intAt_mk KX G "NOTHING" (0) (by k_is)
    let c_LEAF := FpS.intAt_mk KX G "LEAF" (1) (by k_is)
    let c_PAIR := FpS.intAt_mk KX G "PAIR" (2) (by k_is)
    let c_STEP := FpS.intAt_mk KX G "STEP" (3) (by k_is)
    let c_GREATEST_SIMILARITY := FpS.intAt_mk KX G "GREATEST_SIMILARITY" (100) (by k_is)
    let c_GREATEST_NUMBER := FpS.intAt_mk KX G "GREATEST_NUMBER" (1000000) (by k_is)
    let c_MOST_MEMBERS := FpS.intAt_mk KX G "MOST_MEMBERS" (6) (by k_is)
    let c_MOST_EVENTS := FpS.intAt_mk KX G "MOST_EVENTS" (7) (by k_is)
    let c_GREATEST_WEIGHT := FpS.intAt_mk KX G "GREATEST_WEIGHT" (10) (by k_is)
    let c_GREATEST_TRIED := FpS.intAt_mk KX G "GREATEST_TRIED" (100) (by k_is)
    let c_CREATE := FpS.intAt_mk KX G "CREATE" (0) (by k_is)
    let c_MOST_ITEMS := FpS.intAt_mk KX G "MOST_ITEMS" (6) (by k_is)
    have n_range := PySem.W.mg_none_of (n := "range") KX G (by k_is)
    have n_sum := PySem.W.mg_none_of (n := "sum") KX G (by k_is)
    have n_len := PySem.W.mg_none_of (n := "len") KX G (by k_is)
    have n_sorted := PySem.W.mg_none_of (n := "sorted") KX G (by k_is)
    have n_int := PySem.W.mg_none_of (n := "int") KX G (by k_is)
    have n_abs := PySem.W.mg_none_of (n := "abs") KX G (by k_is)
    have n_enumerate := PySem.W.mg_none_of (n := "enumerate") KX G (by k_is)
    have n_zip := PySem.W.mg_none_of (n := "zip") KX G (by k_is)
    have n_all := PySem.W.mg_none_of (n := "all") KX G (by k_is)
    have n_max := PySem.W.mg_none_of (n := "max") KX G (by k_is)
    have n_min := PySem.W.mg_none_of (n := "min") KX G (by k_is)
    let k_Member := FpS.clsAt_mk KX G "Member" (by k_is) (by k_is) (by k_is) (by k_is) (by k_is) (by k_is) (by k_is) (by k_is) (by k_is)
    let k_Store := FpS.clsAt_mk KX G "Store" (by k_is) (by k_is) (by k_is) (by k_is) (by k_is) (by k_is) (by k_is) (by k_is) (by k_is)
    let k_Call := FpS.clsAt_mk KX G "Call" (by k_is) (by k_is) (by k_is) (by k_is) (by k_is) (by k_is) (by k_is) (by k_is) (by k_is)
    let k_Desk := FpS.clsAt_mk KX G "Desk" (by k_is) (by k_is) (by k_is) (by k_is) (by k_is) (by k_is) (by k_is) (by k_is) (by k_is)
    let d_bytes_of := FpS.defAt_mk KX G "bytes_of" FpS.s_bytes_of ["number"] (by k_is) (by k_is) (by k_is) (by k_is) FpS.hb_bytes_of
    let d_hash_of := FpS.defAt_mk KX G "hash_of" FpS.s_hash_of ["numbers"] (by k_is) (by k_is) (by k_is) (by k_is) FpS.hb_hash_of
    let d_halves_of := FpS.defAt_mk KX G "halves_of" FpS.s_halves_of ["value"] (by k_is) (by k_is) (by k_is) (by k_is) FpS.hb_halves_of
    let d_value_of := FpS.defAt_mk KX G "value_of" FpS.s_value_of ["high", "low"] (by k_is) (by k_is) (by k_is) (by k_is) FpS.hb_value_of
    let d_ask := FpS.defAt_mk KX G "ask" FpS.s_ask ["good", "code"] (by k_is) (by k_is) (by k_is) (by k_is) FpS.hb_ask
    let d_contribution_of := FpS.defAt_mk KX G "contribution_of" FpS.s_contribution_of ["store", "event", "item"] (by k_is) (by k_is) (by k_is) (by k_is) FpS.hb_contribution_of
    let d_score_of := FpS.defAt_mk KX G "score_of" FpS.s_score_of ["store", "events", "item"] (by k_is) (by k_is) (by k_is) (by k_is) FpS.hb_score_of
    let d_ranking_by := FpS.defAt_mk KX G "ranking_by" FpS.s_ranking_by ["store", "everything", "chosen"] (by k_is) (by k_is) (by k_is) (by k_is) FpS.hb_ranking_by
    let d_first_by := FpS.defAt_mk KX G "first_by" FpS.s_first_by ["store", "everything", "chosen"] (by k_is) (by k_is) (by k_is) (by k_is) FpS.hb_first_by
    let d_first_of := FpS.defAt_mk KX G "first_of" FpS.s_first_of ["store", "member"] (by k_is) (by k_is) (by k_is) (by k_is) FpS.hb_first_of
    let d_events_at := FpS.defAt_mk KX G "events_at" FpS.s_events_at ["events", "positions"] (by k_is) (by k_is) (by k_is) (by k_is) FpS.hb_events_at
    let d_events_without := FpS.defAt_mk KX G "events_without" FpS.s_events_without ["events", "positions"] (by k_is) (by k_is) (by k_is) (by k_is) FpS.hb_events_without
    let d_position_sets := FpS.defAt_mk KX G "position_sets" FpS.s_position_sets ["many"] (by k_is) (by k_is) (by k_is) (by k_is) FpS.hb_position_sets
    let d_removal_set_of := FpS.defAt_mk KX G "removal_set_of" FpS.s_removal_set_of ["store", "member"] (by k_is) (by k_is) (by k_is) (by k_is) FpS.hb_removal_set_of
    let d_sufficient_set_of := FpS.defAt_mk KX G "sufficient_set_of" FpS.s_sufficient_set_of ["store", "member"] (by k_is) (by k_is) (by k_is) (by k_is) FpS.hb_sufficient_set_of
    let d_least_weight := FpS.defAt_mk KX G "least_weight" FpS.s_least_weight ["store", "member", "on", "goal", "most"] (by k_is) (by k_is) (by k_is) (by k_is) FpS.hb_least_weight
    let d_moved_many := FpS.defAt_mk KX G "moved_many" FpS.s_moved_many ["old", "fresh"] (by k_is) (by k_is) (by k_is) (by k_is) FpS.hb_moved_many
    let d_factorial_of := FpS.defAt_mk KX G "factorial_of" FpS.s_factorial_of ["number"] (by k_is) (by k_is) (by k_is) (by k_is) FpS.hb_factorial_of
    let d_common_divisor := FpS.defAt_mk KX G "common_divisor" FpS.s_common_divisor ["one", "other"] (by k_is) (by k_is) (by k_is) (by k_is) FpS.hb_common_divisor
    let d_lowest_terms := FpS.defAt_mk KX G "lowest_terms" FpS.s_lowest_terms ["above", "below"] (by k_is) (by k_is) (by k_is) (by k_is) FpS.hb_lowest_terms
    let d_worth_of := FpS.defAt_mk KX G "worth_of" FpS.s_worth_of ["store", "member", "item", "positions"] (by k_is) (by k_is) (by k_is) (by k_is) FpS.hb_worth_of
    let d_share_of := FpS.defAt_mk KX G "share_of" FpS.s_share_of ["store", "member", "item", "position"] (by k_is) (by k_is) (by k_is) (by k_is) FpS.hb_share_of
    let d_Member_init := FpS.initAt_mk KX "Member" "Member.__init__" FpS.s_Member_init ["self", "number"] (by k_is) (by k_is) (by k_is) (by k_is) (by k_is) FpS.hb_Member_init
    let d_Member_add_event := FpS.metAt_mk KX "Member" "add_event" "Member.add_event" FpS.s_Member_add_event ["self", "item", "weight"] (by k_is) (by k_is) (by k_is) (by k_is) (by k_is) (by k_is) FpS.hb_Member_add_event
    let d_Member_remove_event := FpS.metAt_mk KX "Member" "remove_event" "Member.remove_event" FpS.s_Member_remove_event ["self", "position"] (by k_is) (by k_is) (by k_is) (by k_is) (by k_is) (by k_is) FpS.hb_Member_remove_event
    let d_Store_init := FpS.initAt_mk KX "Store" "Store.__init__" FpS.s_Store_init ["self", "items_many"] (by k_is) (by k_is) (by k_is) (by k_is) (by k_is) FpS.hb_Store_init
    let d_Store_set_similarity := FpS.metAt_mk KX "Store" "set_similarity" "Store.set_similarity" FpS.s_Store_set_similarity ["self", "first", "second", "value"] (by k_is) (by k_is) (by k_is) (by k_is) (by k_is) (by k_is) FpS.hb_Store_set_similarity
    let d_Store_add_member := FpS.metAt_mk KX "Store" "add_member" "Store.add_member" FpS.s_Store_add_member ["self", "number"] (by k_is) (by k_is) (by k_is) (by k_is) (by k_is) (by k_is) FpS.hb_Store_add_member
    let d_Store_delete_member := FpS.metAt_mk KX "Store" "delete_member" "Store.delete_member" FpS.s_Store_delete_member ["self", "number"] (by k_is) (by k_is) (by k_is) (by k_is) (by k_is) (by k_is) FpS.hb_Store_delete_member
    let d_others_than := FpS.defAt_mk KX G "others_than" FpS.s_others_than ["store", "number"] (by k_is) (by k_is) (by k_is) (by k_is) FpS.hb_others_than
    let d_has_member := FpS.defAt_mk KX G "has_member" FpS.s_has_member ["store", "number"] (by k_is) (by k_is) (by k_is) (by k_is) FpS.hb_has_member
    let d_index_of := FpS.defAt_mk KX G "index_of" FpS.s_index_of ["store", "number"] (by k_is) (by k_is) (by k_is) (by k_is) FpS.hb_index_of
    let d_member_of := FpS.defAt_mk KX G "member_of" FpS.s_member_of ["store", "number"] (by k_is) (by k_is) (by k_is) (by k_is) FpS.hb_member_of
    let d_need_item := FpS.defAt_mk KX G "need_item" FpS.s_need_item ["store", "item"] (by k_is) (by k_is) (by k_is) (by k_is) FpS.hb_need_item
    let d_need_event := FpS.defAt_mk KX G "need_event" FpS.s_need_event ["member", "position"] (by k_is) (by k_is) (by k_is) (by k_is) FpS.hb_need_event
    let d_leaf_of := FpS.defAt_mk KX G "leaf_of" FpS.s_leaf_of ["member"] (by k_is) (by k_is) (by k_is) (by k_is) FpS.hb_leaf_of
    let d_leaves_of := FpS.defAt_mk KX G "leaves_of" FpS.s_leaves_of ["members"] (by k_is) (by k_is) (by k_is) (by k_is) FpS.hb_leaves_of
    let d_level_above := FpS.defAt_mk KX G "level_above" FpS.s_level_above ["level"] (by k_is) (by k_is) (by k_is) (by k_is) FpS.hb_level_above
    let d_levels_of := FpS.defAt_mk KX G "levels_of" FpS.s_levels_of ["leaves"] (by k_is) (by k_is) (by k_is) (by k_is) FpS.hb_levels_of
    let d_root_of := FpS.defAt_mk KX G "root_of" FpS.s_root_of ["members"] (by k_is) (by k_is) (by k_is) (by k_is) FpS.hb_root_of
    let d_proof_of := FpS.defAt_mk KX G "proof_of" FpS.s_proof_of ["members", "index"] (by k_is) (by k_is) (by k_is) (by k_is) FpS.hb_proof_of
    let d_are_steps := FpS.defAt_mk KX G "are_steps" FpS.s_are_steps ["numbers"] (by k_is) (by k_is) (by k_is) (by k_is) FpS.hb_are_steps
    let d_end_of := FpS.defAt_mk KX G "end_of" FpS.s_end_of ["leaf", "numbers"] (by k_is) (by k_is) (by k_is) (by k_is) FpS.hb_end_of
    let d_listed := FpS.defAt_mk KX G "listed" FpS.s_listed ["pairs"] (by k_is) (by k_is) (by k_is) (by k_is) FpS.hb_listed
    let d_one_more := FpS.defAt_mk KX G "one_more" FpS.s_one_more ["first"] (by k_is) (by k_is) (by k_is) (by k_is) FpS.hb_one_more
    let d_set_similarity := FpS.defAt_mk KX G "set_similarity" FpS.s_set_similarity ["store", "numbers", "row"] (by k_is) (by k_is) (by k_is) (by k_is) FpS.hb_set_similarity
    let d_add_member := FpS.defAt_mk KX G "add_member" FpS.s_add_member ["store", "numbers", "row"] (by k_is) (by k_is) (by k_is) (by k_is) FpS.hb_add_member
    let d_delete_member := FpS.defAt_mk KX G "delete_member" FpS.s_delete_member ["store", "numbers", "row"] (by k_is) (by k_is) (by k_is) (by k_is) FpS.hb_delete_member
    let d_add_event := FpS.defAt_mk KX G "add_event" FpS.s_add_event ["store", "numbers", "row"] (by k_is) (by k_is) (by k_is) (by k_is) FpS.hb_add_event
    let d_remove_event := FpS.defAt_mk KX G "remove_event" FpS.s_remove_event ["store", "numbers", "row"] (by k_is) (by k_is) (by k_is) (by k_is) FpS.hb_remove_event
    let d_tell_events := FpS.defAt_mk KX G "tell_events" FpS.s_tell_events ["store", "numbers", "row"] (by k_is) (by k_is) (by k_is) (by k_is) FpS.hb_tell_events
    let d_tell_scores := FpS.defAt_mk KX G "tell_scores" FpS.s_tell_scores ["store", "numbers", "row"] (by k_is) (by k_is) (by k_is) (by k_is) FpS.hb_tell_scores
    let d_recommend := FpS.defAt_mk KX G "recommend" FpS.s_recommend ["store", "numbers", "row"] (by k_is) (by k_is) (by k_is) (by k_is) FpS.hb_recommend
    let d_tell_contributions := FpS.defAt_mk KX G "tell_contributions" FpS.s_tell_contributions ["store", "numbers", "row"] (by k_is) (by k_is) (by k_is) (by k_is) FpS.hb_tell_contributions
    let d_margin := FpS.defAt_mk KX G "margin" FpS.s_margin ["store", "numbers", "row"] (by k_is) (by k_is) (by k_is) (by k_is) FpS.hb_margin
    let d_tell_removal_set := FpS.defAt_mk KX G "tell_removal_set" FpS.s_tell_removal_set ["store", "numbers", "row"] (by k_is) (by k_is) (by k_is) (by k_is) FpS.hb_tell_removal_set
    let d_tell_sufficient_set := FpS.defAt_mk KX G "tell_sufficient_set" FpS.s_tell_sufficient_set ["store", "numbers", "row"] (by k_is) (by k_is) (by k_is) (by k_is) FpS.hb_tell_sufficient_set
    let d_robust := FpS.defAt_mk KX G "robust" FpS.s_robust ["store", "numbers", "row"] (by k_is) (by k_is) (by k_is) (by k_is) FpS.hb_robust
    let d_shapley := FpS.defAt_mk KX G "shapley" FpS.s_shapley ["store", "numbers", "row"] (by k_is) (by k_is) (by k_is) (by k_is) FpS.hb_shapley
    let d_influence := FpS.defAt_mk KX G "influence" FpS.s_influence ["store", "numbers", "row"] (by k_is) (by k_is) (by k_is) (by k_is) FpS.hb_influence
    let d_needed_weight := FpS.defAt_mk KX G "needed_weight" FpS.s_needed_weight ["store", "numbers", "row"] (by k_is) (by k_is) (by k_is) (by k_is) FpS.hb_needed_weight
    let d_are_positions := FpS.defAt_mk KX G "are_positions" FpS.s_are_positions ["member", "row"] (by k_is) (by k_is) (by k_is) (by k_is) FpS.hb_are_positions
    let d_what_if := FpS.defAt_mk KX G "what_if" FpS.s_what_if ["store", "numbers", "row"] (by k_is) (by k_is) (by k_is) (by k_is) FpS.hb_what_if
    let d_tell_root := FpS.defAt_mk KX G "tell_root" FpS.s_tell_root ["store", "numbers", "row"] (by k_is) (by k_is) (by k_is) (by k_is) FpS.hb_tell_root
    let d_tell_leaf := FpS.defAt_mk KX G "tell_leaf" FpS.s_tell_leaf ["store", "numbers", "row"] (by k_is) (by k_is) (by k_is) (by k_is) FpS.hb_tell_leaf
    let d_tell_proof := FpS.defAt_mk KX G "tell_proof" FpS.s_tell_proof ["store", "numbers", "row"] (by k_is) (by k_is) (by k_is) (by k_is) FpS.hb_tell_proof
    let d_check_proof := FpS.defAt_mk KX G "check_proof" FpS.s_check_proof ["store", "numbers", "row"] (by k_is) (by k_is) (by k_is) (by k_is) FpS.hb_check_proof
    let d_absence := FpS.defAt_mk KX G "absence" FpS.s_absence ["store", "numbers", "row"] (by k_is) (by k_is) (by k_is) (by k_is) FpS.hb_absence
    let d_root_without := FpS.defAt_mk KX G "root_without" FpS.s_root_without ["store", "numbers", "row"] (by k_is) (by k_is) (by k_is) (by k_is) FpS.hb_root_without
    let d_status := FpS.defAt_mk KX G "status" FpS.s_status ["store", "numbers", "row"] (by k_is) (by k_is) (by k_is) (by k_is) FpS.hb_status
    let d_Call_init := FpS.initAt_mk KX "Call" "Call.__init__" FpS.s_Call_init ["self", "operation", "numbers", "row"] (by k_is) (by k_is) (by k_is) (by k_is) (by k_is) FpS.hb_Call_init
    let d_Desk_init := FpS.initAt_mk KX "Desk" "Desk.__init__" FpS.s_Desk_init ["self"] (by k_is) (by k_is) (by k_is) (by k_is) (by k_is) FpS.hb_Desk_init
    let d_Desk_create := FpS.metAt_mk KX "Desk" "create" "Desk.create" FpS.s_Desk_create ["self", "call"] (by k_is) (by k_is) (by k_is) (by k_is) (by k_is) (by k_is) FpS.hb_Desk_create
    let d_read_calls := FpS.defAt_mk KX G "read_calls" FpS.s_read_calls ["numbers"] (by k_is) (by k_is) (by k_is) (by k_is) FpS.hb_read_calls
    let d_done := FpS.defAt_mk KX G "done" FpS.s_done ["desk", "call"] (by k_is) (by k_is) (by k_is) (by k_is) FpS.hb_done
    let d_answer_of := FpS.defAt_mk KX G "answer_of" FpS.s_answer_of ["desk", "call"] (by k_is) (by k_is) (by k_is) (by k_is) FpS.hb_answer_of
    let d_answers := FpS.defAt_mk KX G "answers" FpS.s_answers ["calls"] (by k_is) (by k_is) (by k_is) (by k_is) FpS.hb_answers
    have rf := FpS.ref_mk KX G (by k_is) (by k_is) (by k_is) (by k_is) (by k_is) (by k_is) (by k_is) (by k_is) (by k_is) (by k_is) (by k_is) (by k_is) (by k_is) (by k_is) (by k_is) (by first | rfl | k_is)
    have p_NUMBERS := FpS.tup_mk2 KX G "NUMBERS" (xs := FpS.NUMB.map V.int) (by k_is) (by k_is) (by decide +kernel) (by exact (.cons ⟨_, rfl⟩ (.cons ⟨_, rfl⟩ (.cons ⟨_, rfl⟩ (.cons ⟨_, rfl⟩ (.cons ⟨_, rfl⟩ (.cons ⟨_, rfl⟩ (.cons ⟨_, rfl⟩ (.cons ⟨_, rfl⟩ (.cons ⟨_, rfl⟩ (.cons ⟨_, rfl⟩ (.cons ⟨_, rfl⟩ (.cons ⟨_, rfl⟩ (.cons ⟨_, rfl⟩ (.cons ⟨_, rfl⟩ (.cons ⟨_, rfl⟩ (.cons ⟨_, rfl⟩ (.cons ⟨_, rfl⟩ (.cons ⟨_, rfl⟩ (.cons ⟨_, rfl⟩ (.cons ⟨_, rfl⟩ (.cons ⟨_, rfl⟩ (.cons ⟨_, rfl⟩ (.cons ⟨_, rfl⟩ (.cons ⟨_, rfl⟩ (.cons ⟨_, rfl⟩ .nil))))))))))))))))))))))))))
    have p_LISTED := FpS.tup_mk2 KX G "LISTED" (xs := [17, 21].map V.int) (by k_is) (by k_is) (by decide +kernel) (by exact (.cons ⟨_, rfl⟩ (.cons ⟨_, rfl⟩ .nil)))
    have p_DEEDS := FpS.tup_mk2 KX G "DEEDS" (xs := FpS.deedsOf d_set_similarity.f d_add_member.f d_delete_member.f d_add_event.f d_remove_event.f d_tell_events.f d_tell_scores.f d_recommend.f d_tell_contributions.f d_margin.f d_tell_removal_set.f d_tell_sufficient_set.f d_robust.f d_shapley.f d_influence.f d_needed_weight.f d_what_if.f d_tell_root.f d_tell_leaf.f d_tell_proof.f d_check_proof.f d_absence.f d_root_without.f d_status.f) (by k_is) (by k_is) (by decide +kernel) (by exact (.cons rfl (.cons rfl (.cons rfl (.cons rfl (.cons rfl (.cons rfl (.cons rfl (.cons rfl (.cons rfl (.cons rfl (.cons rfl (.cons rfl (.cons rfl (.cons rfl (.cons rfl (.cons rfl (.cons rfl (.cons rfl (.cons rfl (.cons rfl (.cons rfl (.cons rfl (.cons rfl (.cons rfl .nil)))))))))))))))))))))))))
    have tb_R := FpS.tab_mk KX (x := "ranking_by") (by k_is) (by k_is) (by rfl) (by k_is) (by rfl)
    have tk_R := tk "ranking_by" _ _ _ (by rfl) tb_R
    have tb_P := FpS.tab_mk KX (x := "position_sets") (by k_is) (by k_is) (by rfl) (by k_is) (by rfl)
    have tk_P := tk "position_sets" _ _ _ (by rfl) tb_P
    have na_Member_events := FpS.noAttr_mk KX "Member" "events" (by k_is) (by k_is)
    have na_Member_number := FpS.noAttr_mk KX "Member" "number" (by k_is) (by k_is)
    have na_Store_items_many := FpS.noAttr_mk KX "Store" "items_many" (by k_is) (by k_is)
    have na_Store_members := FpS.noAttr_mk KX "Store" "members" (by k_is) (by k_is)
    have na_Store_similarities := FpS.noAttr_mk KX "Store" "similarities" (by k_is) (by k_is)
    have na_Call_numbers := FpS.noAttr_mk KX "Call" "numbers" (by k_is) (by k_is)
    have na_Call_operation := FpS.noAttr_mk KX "Call" "operation" (by k_is) (by k_is)
    have na_Call_row := FpS.noAttr_mk KX "Call" "row" (by k_is) (by k_is)
    have na_Desk_store := FpS.noAttr_mk KX "Desk" "store" (by k_is) (by k_is)
    exact FpS.fin_mk { START := c_START, FACTOR := c_FACTOR, HALF := c_HALF, WHOLE := c_WHOLE, BYTES := c_BYTES, BYTE := c_BYTE, NOT_THERE := c_NOT_THERE, NO_STORE := c_NO_STORE, THERE_ALREADY := c_THERE_ALREADY, BAD_ARGUMENT := c_BAD_ARGUMENT, FULL := c_FULL, NONE_SUCH := c_NONE_SUCH, SAME := c_SAME, NOTHING := c_NOTHING, LEAF := c_LEAF, PAIR := c_PAIR, STEP := c_STEP, GREATEST_SIMILARITY := c_GREATEST_SIMILARITY, GREATEST_NUMBER := c_GREATEST_NUMBER, MOST_MEMBERS := c_MOST_MEMBERS, MOST_EVENTS := c_MOST_EVENTS, GREATEST_WEIGHT := c_GREATEST_WEIGHT, GREATEST_TRIED := c_GREATEST_TRIED, CREATE := c_CREATE, MOST_ITEMS := c_MOST_ITEMS, range_ := n_range, sum_ := n_sum, len_ := n_len, sorted_ := n_sorted, int_ := n_int, abs_ := n_abs, enumerate_ := n_enumerate, zip_ := n_zip, all_ := n_all, max_ := n_max, min_ := n_min, Member := k_Member, Member_no_events := na_Member_events, Member_no_number := na_Member_number, Store := k_Store, Store_no_items_many := na_Store_items_many, Store_no_members := na_Store_members, Store_no_similarities := na_Store_similarities, Call := k_Call, Call_no_numbers := na_Call_numbers, Call_no_operation := na_Call_operation, Call_no_row := na_Call_row, Desk := k_Desk, Desk_no_store := na_Desk_store, bytes_of := d_bytes_of, hash_of := d_hash_of, halves_of := d_halves_of, value_of := d_value_of, ask := d_ask, contribution_of := d_contribution_of, score_of := d_score_of, ranking_by := d_ranking_by, first_by := d_first_by, first_of := d_first_of, events_at := d_events_at, events_without := d_events_without, position_sets := d_position_sets, removal_set_of := d_removal_set_of, sufficient_set_of := d_sufficient_set_of, least_weight := d_least_weight, moved_many := d_moved_many, factorial_of := d_factorial_of, common_divisor := d_common_divisor, lowest_terms := d_lowest_terms, worth_of := d_worth_of, share_of := d_share_of, Member_init := d_Member_init, Member_add_event := d_Member_add_event, Member_remove_event := d_Member_remove_event, Store_init := d_Store_init, Store_set_similarity := d_Store_set_similarity, Store_add_member := d_Store_add_member, Store_delete_member := d_Store_delete_member, others_than := d_others_than, has_member := d_has_member, index_of := d_index_of, member_of := d_member_of, need_item := d_need_item, need_event := d_need_event, leaf_of := d_leaf_of, leaves_of := d_leaves_of, level_above := d_level_above, levels_of := d_levels_of, root_of := d_root_of, proof_of := d_proof_of, are_steps := d_are_steps, end_of := d_end_of, listed := d_listed, one_more := d_one_more, set_similarity := d_set_similarity, add_member := d_add_member, delete_member := d_delete_member, add_event := d_add_event, remove_event := d_remove_event, tell_events := d_tell_events, tell_scores := d_tell_scores, recommend := d_recommend, tell_contributions := d_tell_contributions, margin := d_margin, tell_removal_set := d_tell_removal_set, tell_sufficient_set := d_tell_sufficient_set, robust := d_robust, shapley := d_shapley, influence := d_influence, needed_weight := d_needed_weight, are_positions := d_are_positions, what_if := d_what_if, tell_root := d_tell_root, tell_leaf := d_tell_leaf, tell_proof := d_tell_proof, check_proof := d_check_proof, absence := d_absence, root_without := d_root_without, status := d_status, Call_init := d_Call_init, Desk_init := d_Desk_init, Desk_create := d_Desk_create, read_calls := d_read_calls, done := d_done, answer_of := d_answer_of, answers := d_answers, RC := _, RI := _, ref := rf, aNUMBERS := _, gNUMBERS := p_NUMBERS.1, tNUMBERS := p_NUMBERS.2, aLISTED := _, gLISTED := p_LISTED.1, tLISTED := p_LISTED.2, aDEEDS := _, gDEEDS := p_DEEDS.1, tDEEDS := p_DEEDS.2, cR := _, pR := _, cP := _, pP := _, kR := rfl, kP := rfl, ne := (by decide) } hmg tk_R tk_P (by (first | kernel_rfl | rfl)) (by (first | kernel_rfl | rfl))
#print axioms PySem.Challenge.cw_forgetproof_s01_answers_holds
