import PyProof.Rows.All
import Wide.All
import OpenK.AllK
import Wide.FinOn
import PyProof.ReprRoads
import HandS.ForMost
import HandS.ForExc
import HandS.Defaults
import HandS.Lambda
import HandS.EndTab
import HandS.Head0
import HandS.Head1
import HandS.Head2
import HandS.HeadEnd
import HandS.HeadHook1
import HandS.HeadHook2
import HandS.HeadHook4
import PyProof.InstEq
import PyProof.ReprLen
import HandS.IsInst
import HandS.Codes
import HandS.MakeKwOnly
import HandS.Conv
import HandS.TupAny
import HandS.TupMul
import HandS.TupLe
import HandS.SortInts
import HandS.TryOnly
import PySem.Challenge.RW_ballsheets_k83_classes_made_by_hand
set_option Elab.async false
set_option linter.all false
set_option maxRecDepth 100000
set_option maxHeartbeats 8000000

/-! Part 1: a def that is called where no repr is under way (guards), the law's call, the head's Hook. -/
namespace Bs
open PySem PySem.Spec PyProof.Rows L2

/-! ### a promise kept where no guard stands -/
structure FnG (P : Program) (w : World) (K : PySem.W.Frag) (mg : Str → Option Value) (base : Heap) (CX : CXT) (k : Nat) (f : Addr) (fd : FuncData) (ps : List Str) (sp : Sp) : Prop where
  len : ∀ vs H Q E, sp vs H Q E → vs.length = ps.length
  run : ∀ (A : Around) (outer : List Env) (s : Shared) (H : Hp) (args : Args) (us : List Value) (vs : List V) (Q : VK) (E : XK),
    Room k A → A.guards = some [] → Env0 P w K mg base A outer s H → BindsTo s fd args (ps.zip us) → Vals vs us → sp vs H Q E →
      codeAny (model P w) A (.call (.ref f) args) (CR CX outer P w H s Q E) s

section
variable {P : Program} {w : World} {K : PySem.W.Frag} {mg : Str → Option Value} {base : Heap} {x qual : Str} {params : Arguments} {body : List Stmt} {scope : Scope} {dvs : List V} {kws : List (Str × V)} {f : Addr} {fd : FuncData}
theorem okG {CX : CXT} {N ps : List Str} {k : Nat} {sp : Sp} (F : FunD K x qual params body scope dvs kws f fd) (S : FnScope N ps scope) (len : ∀ vs H Q E, sp vs H Q E → vs.length = ps.length)
    (hbody : ∀ (cdv : Value) (A : Around) (outer : List Env) (s : Shared) (H : Hp) (vs : List V) (Q : VK) (E : XK), Room k (A.deeper (envOfC qual scope s.heap.objs.size f cdv)) →
      (A.deeper (envOfC qual scope s.heap.objs.size f cdv)).guards = some [] → sp vs H Q E →
        ∃ t, PSs (cxOf CX P w K mg base N qual scope f cdv A outer s H E) body t ∧ t { nx := fun _ H' => Q .non H', rt := Q } (start N vs) H) :
    FnG P w K mg base CX (k + 1) f fd ps sp := by
  obtain ⟨oc, od, dV, kV, doc, pm, an, cdv, ct, osl, hfd, lk, hcd, _, _⟩ := F.ex
  subst hfd
  refine ⟨len, fun A outer s H args us vs Q E hr gd e0 hb r hsp => ?_⟩
  exact LamX.run_ofS lk hcd S hr e0 hb r (len _ _ _ _ hsp) fun hr' => hbody cdv A outer s H vs Q E hr' gd hsp
theorem FnG.of {CX : CXT} {k : Nat} {ps : List Str} {sp : Sp} (F : FnOk P w K mg base CX k f fd ps sp) : FnG P w K mg base CX k f fd ps sp :=
  ⟨F.len, fun A outer s H args us vs Q E hr _ e0 hb r h => F.run A outer s H args us vs Q E hr e0 hb r h⟩
end

section
variable {X : Cx} {CX : CXT} {k : Nat} {f : Addr} {fd : FuncData} {ps : List Str} {sp : Sp} {dvs : List V} {ds : List Value} {E : XK} {x : Str} {p pos : Pos} {e : Expr} {es : List Expr} {t : TA}
/-- a call of such a def, in a body that stands under no guard itself -/
theorem pe_callG (gd : X.A.guards = some []) (F : FnG X.prog X.w X.K X.mg X.base CX k f fd ps sp) (hr : Room k X.A) (hg : Gl X x) (hm : X.mg x = some (.ref f)) (hk : PySem.W.keepIn X.K (.ref f) = true)
    (hb : Binds X.K fd ps ds) (hd : Vals dvs ds) (hx : Passes CX X E) (ha : PA X (e :: es) t) (hdb : (x == ("__debug__" : Str)) = false := by decide)
    (he : starEach (e :: es) X.env = (false, eval e X.env) :: starEach es X.env := by rfl) (hpl : (backTo pos (starEach es X.env)).any (·.1) = false := by rfl) :
    PE X (.Call (.Name x p) (e :: es) [] pos) (tCall sp dvs E t) := by
  refine ⟨fun pins s σ H Q I h => wpAny_Call_Name_kw (ld_glob I hg hm ?_ hdb)⟩
  refine PySem.W.callWith_K (h₀ := X.base) I.ok.mod.kin hk (thn (ha.run pos pins s σ H _ I h) fun us s1 ⟨vs, H1, I1, r, q⟩ => ⟨I1.kIn, ?_⟩) he hpl
  have r2 : Vals (vs ++ dvs) (us ++ ds) := r.append hd
  have hl : (us ++ ds).length = ps.length := r2.length.symm.trans (F.len _ _ _ _ q)
  refine wpAny_call (codeAny_mono (F.run X.A X.stack s1 H1 ⟨us, []⟩ (us ++ ds) (vs ++ dvs) Q E hr gd I1.env0 (hb s1 us I1.kIn hl) r2 q) ?_)
  rintro (er | fl) s' hq
  · exact hx pins σ H1 s1 er s' I1 hq
  · cases fl with
    | ret u => exact I1.after hq
    | next => exact hq.elim
    | brk => exact hq.elim
    | cont => exact hq.elim
end

/-! ### the law's call -/
/-- what is tracked ahead of the law: the script (if it is no object of the module) and the tables of code objects -/
def H0 (a : Addr) (known : Bool) (oa : Obj) (xs : List V) (T : List Addr) : Hp := fun b =>
  if b = a ∧ known = false then some (.frz oa (.lst xs)) else if b ∈ T then some (.tbl #[]) else none

theorem law_callG {P : Program} {w : World} {K : PySem.W.Frag} {mg mb : Str → Option Value} {CX : CXT} {k : Nat} {fa a : Addr} {cs : List (Addr × Addr)} {fd : FuncData} {x : Str} {sp : Sp} {s₁ : Shared} {vs : List Value} {ns : List Int}
    (KX : K.In s₁.heap) (hns : s₁.heap.Ns mainGlobals mg) (hb : s₁.heap.Ns builtinsNs mb) (hbb : ∀ x : Str, x ≠ "__name__" → mb x = bootBuiltins x) (hlim : s₁.heap.NoLimit) (hg : s₁.gens = #[])
    (hT : ∀ p ∈ cs, s₁.heap.get? p.2 = some { cls := .none, data := .fields #[] }) (nT : ∀ p ∈ cs, K.lookup p.2 = none) (C : ∀ p ∈ cs, PySem.W.CodeHd s₁.heap p.1 p.2)
    (hbm : ∃ (bm : Addr) (ob : Obj), mg "__builtins__" = some (.ref bm) ∧ bm ≠ builtinsNs ∧ s₁.heap.get? bm = some ob ∧ ob.cls = .type "module" ∧ ob.dict = some builtinsNs ∧ ob.data = .plain)
    (ha : s₁.heap.get? a = some { cls := .type "list", data := .seq vs.toArray }) (hi : IntsAre vs ns) (hl : ns.length ≤ sizeLine) (hr : Room k callerA)
    (F : ∀ base : Heap, K.In base → base.Ns mainGlobals mg → (∀ p ∈ cs, LamX.TabB base mg p.1 p.2) → FnG P w K mg base CX k fa fd [x] sp) (hbind : ∀ (s : Shared) (u : Value), BindsTo s fd ⟨[u], []⟩ [(x, u)])
    (hsp : ∀ H : Hp, (∀ p ∈ cs, H p.2 = some (.tbl #[])) → SqL K H a (ns.map V.int) → sp [.ref a] H (fun v _ => v = .bl true) fun _ _ _ => False)
    (hCX : ∀ H e s', CX [] H s₁ (fun _ _ _ => False) e s' → False) :
    codeAny (model P w) callerA (.call (.ref fa) ⟨[.ref a], []⟩) (fun r s' => r = .ok (.ret (.bool true)) ∧ OldK s₁.heap s'.heap ∧ s'.os = s₁.os ∧ AllBare s'.gens) s₁ := by
  have rv := vals_ints hi
  have lenV := hi.length
  obtain ⟨oa, hoa⟩ : ∃ oa : Obj, oa = { cls := .type "list", data := .seq vs.toArray } := ⟨_, rfl⟩
  rw [← hoa] at ha
  have doa : oa.data = .seq vs.toArray := by rw [hoa]
  obtain ⟨T, eT⟩ : ∃ T, T = cs.map (·.2) := ⟨_, rfl⟩
  have inT : ∀ {b}, b ∈ T → ∃ p ∈ cs, p.2 = b := fun {b} hb' => by rw [eT] at hb'; exact List.mem_map.mp hb'
  have toT : ∀ {p}, p ∈ cs → p.2 ∈ T := fun {p} hp => by rw [eT]; exact List.mem_map.mpr ⟨p, hp, rfl⟩
  have tabAt : ∀ {b}, b ∈ T → s₁.heap.get? b = some { cls := .none, data := .fields #[] } := fun {b} hb' => by
    obtain ⟨p, hp, e⟩ := inT hb'
    rw [← e]; exact hT p hp
  have aT : a ∉ T := fun z => by
    have q := tabAt z
    rw [ha] at q
    have q' := congrArg Obj.data (Option.some.inj q)
    rw [doa] at q'
    cases q'
  obtain ⟨kn, hkn⟩ : ∃ kn : Bool, kn = (K.lookup a).isSome := ⟨_, rfl⟩
  obtain ⟨H, hH⟩ : ∃ H, H = H0 a kn oa (ns.map V.int) T := ⟨_, rfl⟩
  have atT : ∀ {b}, b ∈ T → H b = some (.tbl #[]) := fun {b} hb' => by
    rw [hH]
    show (if b = a ∧ kn = false then _ else if b ∈ T then _ else _) = _
    rw [if_neg (show ¬ (b = a ∧ kn = false) from fun z => aT (z.1 ▸ hb')), if_pos hb']
  have shape : ∀ b, H b = none ∨ (b = a ∧ K.lookup a = none ∧ H b = some (.frz oa (.lst (ns.map V.int)))) ∨ (b ∈ T ∧ H b = some (.tbl #[])) := fun b => by
    by_cases h1 : b = a ∧ kn = false
    · refine .inr (.inl ⟨h1.1, ?_, ?_⟩)
      · have z := h1.2
        rw [hkn] at z
        cases q : K.lookup a with
        | none => rfl
        | some o => rw [q] at z; cases z
      · rw [hH]; exact if_pos h1
    · by_cases h2 : b ∈ T
      · exact .inr (.inr ⟨h2, atT h2⟩)
      · refine .inl ?_
        rw [hH]
        exact (if_neg h1).trans (if_neg h2)
  -- an object of another make is not tracked
  have free : ∀ {b : Addr} {o : Obj}, s₁.heap.get? b = some o → (∀ us n, o.data ≠ .seq us n) → o.data ≠ .fields #[] → H b = none := fun {b o} e h1 h2 => by
    rcases shape b with z | ⟨eb, _, _⟩ | ⟨hbT, _⟩
    · exact z
    · rw [eb, ha] at e
      cases e
      exact (h1 _ _ doa).elim
    · rw [tabAt hbT] at e
      cases e
      exact (h2 rfl).elim
  have ground : ∀ {b : Addr} {o : Obj}, s₁.heap.get? b = some o → H b = none → (hidT s₁.heap H).get? b = some o := fun e n => hidT_get e n
  have nsK : ∀ {b : Addr} {m : Str → Option Value}, s₁.heap.Ns b m → (hidT s₁.heap H).Ns b m := fun {b m} ⟨o, es, ep, e, d, r⟩ =>
    ⟨o, es, ep, ground e (free e (fun us n z => by rw [d] at z; cases z) fun z => by rw [d] at z; cases z), d, r⟩
  have kinB : K.In (hidT s₁.heap H) := fun b o e => ground (KX b o e) (by
    rcases shape b with z | ⟨eb, nk, _⟩ | ⟨hbT, _⟩
    · exact z
    · rw [eb, nk] at e; cases e
    · obtain ⟨p, hp, ep⟩ := inT hbT
      rw [← ep, nT p hp] at e; cases e)
  have modB : L2.Mod K mg (hidT s₁.heap H) := ⟨kinB, nsK hns, ⟨mb, nsK hb, hbb⟩, hlim.elim fun mc h => ⟨mc, nsK h.1, h.2⟩⟩
  have tabB : ∀ p ∈ cs, LamX.TabB (hidT s₁.heap H) mg p.1 p.2 := fun p hp => by
    have hTp := hT p hp
    refine ⟨?_, ?_, fun z => ?_⟩
    · obtain ⟨o, us, file, tf, flags, tg, inF, text, tt, e1, r1, r2, r3, rest⟩ := C p hp
      refine ⟨o, us, file, tf, flags, tg, inF, text, tt, ground e1 (free e1 (fun vs n z => ?_) fun z => ?_), r1, r2, r3, rest⟩
      · rw [r2] at z; cases z
      · rw [r2] at z; cases z; simp at r3
    · obtain ⟨bm, ob, b1, b2, b3, b4, b5, b6⟩ := hbm
      refine ⟨bm, ob, b1, b2, fun q => ?_, fun q => ?_, ground b3 (free b3 (fun vs n z => ?_) fun z => ?_), b4, b5, b6⟩
      · obtain ⟨o, es, ep, e, hd, _⟩ := hns
        rw [q, e] at b3
        cases b3
        rw [hd] at b6
        cases b6
      · rw [q, hTp] at b3
        cases b3
        cases b6
      · rw [b6] at z; cases z
      · rw [b6] at z; cases z
    · obtain ⟨o, es, ep, e, hd, _⟩ := hns
      rw [z, hTp] at e
      cases e
      cases hd
  have hok : HOk P w H s₁.heap := fun b u e => by
    rcases shape b with z | ⟨eb, _, z⟩ | ⟨hbT, z⟩
    · rw [z] at e; cases e
    · rw [z] at e
      cases e
      rw [eb]
      exact ⟨ha, by rw [List.length_map]; exact hl, vs, _, rv, by rw [ha, hoa]⟩
    · rw [z] at e
      cases e
      exact tabAt hbT
  have seqA : SqL K H a (ns.map V.int) := by
    rcases shape a with z | ⟨_, _, z⟩ | ⟨hbT, _⟩
    · cases q : K.lookup a with
      | none =>
        rw [hH] at z
        have z2 : (if a = a ∧ kn = false then some (HO.frz oa (.lst (ns.map V.int))) else if a ∈ T then some (HO.tbl #[]) else none) = none := z
        rw [if_pos ⟨rfl, by rw [hkn, q]; rfl⟩] at z2
        cases z2
      | some o =>
        have e := KX a o q
        rw [ha] at e
        cases e
        exact .inr ⟨oa, vs.toArray, 0, q, by rw [hoa], by rw [hoa], by rw [hoa], by rw [List.size_toArray, lenV]; exact hl, by simpa using rv⟩
    · exact .inl (.inr ⟨oa, z⟩)
    · exact (aT hbT).elim
  have e0 : Env0 P w K mg (hidT s₁.heap H) callerA [] s₁ H :=
    ⟨rfl, modB, fun b o e => of_hidT e, Nat.le_of_eq (hidT_size _ _), trivial, fun b hb => absurd hb (List.not_mem_nil), hok, .of_eq hg⟩
  refine codeAny_mono ((F _ kinB (nsK hns) tabB).run callerA [] s₁ H ⟨[.ref a], []⟩ [.ref a] [.ref a] _ _ hr rfl e0 (hbind s₁ (.ref a)) (.cons rfl .nil) (hsp H (fun p hp => atT (toT hp)) seqA)) ?_
  rintro (er | fl) s' h
  · exact (hCX H er s' h).elim
  · cases fl with
    | next => exact h.elim
    | brk => exact h.elim
    | cont => exact h.elim
    | ret u =>
      obtain ⟨v, H', os, bare, un, hok', r', q⟩ := h
      have q' : v = .bl true := q
      subst q'
      obtain rfl : u = Value.bool true := r'
      have keep : ∀ b o, b ∉ T → s₁.heap.get? b = some o → s'.heap.get? b = some o := fun b o nb e => by
        rcases shape b with z | ⟨_, _, z⟩ | ⟨hbT, _⟩
        · exact un.keep b o e z (List.not_mem_nil) (List.not_mem_nil)
        · obtain ⟨e1, _⟩ := hok b _ z
          obtain ⟨e2, _⟩ := hok' b _ (un.frzs b oa _ z)
          rw [e] at e1
          cases e1
          exact e2
        · exact (nb hbT).elim
      have grown : ∀ {b}, b ∈ T → ∃ more : Array Value, s'.heap.get? b = some { cls := .none, data := .fields more } := fun {b} hbT => by
        obtain ⟨more, z⟩ := un.tbls b #[] (atT hbT)
        exact ⟨_, hok' b _ z⟩
      refine ⟨rfl, ⟨fun b o e => ?_, fun b o e => ?_⟩, os, bare⟩
      · by_cases hbT : b ∈ T
        · obtain ⟨more, hm⟩ := grown hbT
          obtain ⟨p, hp, ep⟩ := inT hbT
          rw [tabAt hbT] at e
          cases e
          rw [← ep] at hm ⊢
          exact .inr (.inl ⟨((C p hp).tab (hT p hp)).isCodeTable, rfl, #[], more, rfl, by rw [Array.empty_append]; exact hm⟩)
        · exact .inl (keep b o hbT e)
      · by_cases hbT : b ∈ T
        · obtain ⟨more, hm⟩ := grown hbT
          exact ⟨_, hm⟩
        · exact ⟨o, keep b o hbT e⟩

/-- what is known of the law's promise at the head's heap h -/
def LawG (l : PySem.W.OpenLaw) (w : World) (K : PySem.W.Frag) (CX : CXT) (k n : Nat) (x : Str) (mg : Str → Option Value) (fa : Addr) (h : Heap) : Prop :=
  ∃ (fd : FuncData) (cs : List (Addr × Addr)) (sp : Sp), (∀ p ∈ cs, h.get? p.2 = some { cls := .none, data := .fields #[] }) ∧ (∀ p ∈ cs, K.lookup p.2 = none) ∧ (∀ p ∈ cs, PySem.W.CodeHd h p.1 p.2) ∧ (∀ (s : Shared) (u : Value), BindsTo s fd ⟨[u], []⟩ [(x, u)]) ∧
    (∀ (H : Hp) (a : Addr) (ns : List Int), ns.length ≤ n → (∀ p ∈ cs, H p.2 = some (.tbl #[])) → SqL K H a (ns.map V.int) → sp [.ref a] H (fun v _ => v = .bl true) fun _ _ _ => False) ∧
    ∀ base : Heap, K.In base → base.Ns mainGlobals mg → (∀ p ∈ cs, LamX.TabB base mg p.1 p.2) → FnG l.prog w K mg base CX k fa fd [x] sp
theorem walk_ofG {l : PySem.W.OpenLaw} {n k : Nat} {q : Program} {loose : List Str} {XP : (Str → Option Value) → Heap → Prop} {YP : World → Heap → Prop} {d : DefRec} {CX : World → CXT} {x : Str}
    (hn : l.most = some n) (hn2 : n ≤ sizeLine) (hdf : d.params.defaults = []) (hr : Room k callerA)
    (F : ∀ (w : World) (mg : Str → Option Value) (fa : Addr) (h : Heap), YP w h → h.Ns mainGlobals mg → mg d.name = some (.ref fa) → ∃ K : PySem.W.Frag, K.In h ∧ LawG l w K (CX w) k n x mg fa h)
    (hCX : ∀ (w : World) (H : Hp) (s : Shared) (e : Value) (s' : Shared), CX w [] H s (fun _ _ _ => False) e s' → False) :
    PySem.W.WalkO q loose XP YP l.row.toRowW d [] (fun f vs => PySem.call f vs) := by
  refine Att.attach_call hn hdf fun w s₀ s₁ mg mb fa o pm cd doc a vs ns G Y ho hd hcd hmg hobj hints hlen hg => ?_
  obtain ⟨K, KX, fd, cs, sp, hT, nT, C, hb, hsp, hF⟩ := F w mg fa _ Y G.T.g hmg
  exact law_callG KX G.T.g G.T.b G.T.builtins G.T.nolimit hg hT nT C G.T.bmain hobj hints (Nat.le_trans hlen hn2) hr hF hb (fun H hH hS => hsp H a ns hlen hH hS) fun H e s' => hCX w H s₁ e s'

/-! ### the head's Hook: the facts of the defs, a Bool of one's own, the defs' empty tables; the modules' dict is looked at too -/
def addrs (g : Addr → Option Obj) (n : Nat) : List Addr := sysModules :: He.asD g n
abbrev Told : Type := He.AlD × Bool
def obsM (n : Nat) (fa : List He.Fa) (fn : List He.DefD) (tf : List He.Defn) (ex : PySem.W.Frag → Bool) (g : Addr → Option Obj) : Told :=
  (He.obsD fa fn (He.frT g (addrs g n)), ex (He.frT g (addrs g n)) && He.tabsB g tf (He.frT g (addrs g n)))
structure SaysM (fa : List He.Fa) (fn : List He.DefD) (tf : List He.Defn) (ex : PySem.W.Frag → Bool) (h : Heap) (K : PySem.W.Frag) : Prop where
  d : He.SaysD fa fn K
  more : ex K = true
  hd : ∀ p ∈ tf, PySem.W.codeHdIn K (He.cT K p).1 (He.cT K p).2 = true
  out : ∀ p ∈ tf, K.lookup (He.cT K p).2 = none
  empty : ∀ p ∈ tf, h.get? (He.cT K p).2 = some { cls := .none, data := .fields #[] }
theorem saysM_of {n : Nat} {fa : List He.Fa} {fn : List He.DefD} {tf : List He.Defn} {ex : PySem.W.Frag → Bool} {h : Heap} (e : obsM n fa fn tf ex h.get? = (He.valD fn, true)) :
    SaysM fa fn tf ex h (He.frT h.get? (addrs h.get? n)) := by
  obtain ⟨K, hK⟩ : ∃ K, K = He.frT h.get? (addrs h.get? n) := ⟨_, rfl⟩
  have e1 : He.obsD fa fn K = He.valD fn := by rw [hK]; exact congrArg (fun z : Told => z.1) e
  have e2 : (ex K && He.tabsB h.get? tf K) = true := by rw [hK]; exact congrArg (fun z : Told => z.2) e
  obtain ⟨h1, h2⟩ := Bool.and_eq_true_iff.mp e2
  have key : ∀ p ∈ tf, PySem.W.codeHdIn K (He.cT K p).1 (He.cT K p).2 = true ∧ ∃ o, h.get? (He.cT K p).2 = some o ∧ He.emptyTab o = true := fun p hp => by
    obtain ⟨h3, h4⟩ := Bool.and_eq_true_iff.mp (List.all_eq_true.mp h2 p hp)
    refine ⟨h3, ?_⟩
    cases q : h.get? (He.cT K p).2 with
    | none => rw [q] at h4; cases h4
    | some o => rw [q] at h4; exact ⟨o, rfl, h4⟩
  rw [← hK]
  refine ⟨e1, h1, fun p hp => (key p hp).1, fun p hp => ?_, fun p hp => ?_⟩
  · obtain ⟨_, o, q, z⟩ := key p hp
    have r := He.frT_none (as := addrs h.get? n) q z
    rw [hK] at r ⊢
    exact r
  · obtain ⟨_, o, q, z⟩ := key p hp
    rw [q, He.emptyTab_eq z]
def hookM (n : Nat) (fa : List He.Fa) (fn : List He.DefD) (tf : List He.Defn) (ex : PySem.W.Frag → Bool) : PySem.W.Hook where
  α := Told
  obs := fun s => obsM n fa fn tf ex s.heap.get?
  val := fun _ => (He.valD fn, true)
  says := fun _ h => ∃ K : PySem.W.Frag, K.In h ∧ SaysM fa fn tf ex h K
  of := fun _ _ e => ⟨_, He.frT_in, saysM_of e⟩
  keeps := fun _ _ _ ⟨K, hK, c⟩ k => ⟨K, PySem.W.Frag.In.keeps hK k, ⟨c.d, c.more, c.hd, c.out, fun p hp => k _ _ (c.empty p hp)⟩⟩
theorem obsM_eq {n : Nat} {fa : List He.Fa} {fn : List He.DefD} {tf : List He.Defn} {ex : PySem.W.Frag → Bool} {g : Addr → Option Obj} {s : Shared} (h : ∀ a, g a = s.heap.get? a) : obsM n fa fn tf ex g = (hookM n fa fn tf ex).obs s := by
  have e : g = s.heap.get? := funext h
  rw [e]
  rfl
end Bs

/-! Part 2: data in the abstract heap (dicts too), their repr; own instances compared by identity. -/
namespace Bs
open PySem PySem.Spec PyProof.Rows L2

def keyD : Key → PyData
  | .inl i => .int i
  | .inr x => .str x
/-! v is the data d; no dict of it stands at pn -/
mutual
inductive Rp (K : PySem.W.Frag) (pn : Addr) (H : Hp) : V → PyData → Prop
  | non : Rp K pn H .non .none
  | bl (b : Bool) : Rp K pn H (.bl b) (.bool b)
  | int (i : Int) : Rp K pn H (.int i) (.int i)
  | str (x : Str) : Rp K pn H (.str x) (.str x)
  | lst {a : Addr} {xs : List V} {ds : List PyData} : SqL K H a xs → RpAll K pn H xs ds → Rp K pn H (.ref a) (.list ds)
  | tup {a : Addr} {xs : List V} {ds : List PyData} : SqT K H a xs → RpAll K pn H xs ds → Rp K pn H (.ref a) (.tuple ds)
  | dic {a : Addr} {kvs : List (Key × V)} {es : List (PyData × PyData)} : a ≠ pn → H a = some (.dK kvs) → RpKv K pn H kvs es → Rp K pn H (.ref a) (.dict es)
inductive RpAll (K : PySem.W.Frag) (pn : Addr) (H : Hp) : List V → List PyData → Prop
  | nil : RpAll K pn H [] []
  | cons {v : V} {vs : List V} {d : PyData} {ds : List PyData} : Rp K pn H v d → RpAll K pn H vs ds → RpAll K pn H (v :: vs) (d :: ds)
inductive RpKv (K : PySem.W.Frag) (pn : Addr) (H : Hp) : List (Key × V) → List (PyData × PyData) → Prop
  | nil : RpKv K pn H [] []
  | cons {k : Key} {v : V} {kvs : List (Key × V)} {d : PyData} {es : List (PyData × PyData)} : Rp K pn H v d → RpKv K pn H kvs es → RpKv K pn H ((k, v) :: kvs) ((keyD k, d) :: es)
end

section
variable {K : PySem.W.Frag} {pn : Addr} {H H' : Hp}
mutual
/-- what stands is kept, so the data is -/
theorem Rp.kept (hl : ∀ a xs, SqL K H a xs → SqL K H' a xs) (ht : ∀ a xs, SqT K H a xs → SqT K H' a xs) (hd : ∀ a kvs, a ≠ pn → H a = some (.dK kvs) → H' a = some (.dK kvs)) :
    ∀ (d : PyData) (v : V), Rp K pn H v d → Rp K pn H' v d
  | .none, _, h => by cases h; exact .non
  | .bool b, _, h => by cases h; exact .bl b
  | .int i, _, h => by cases h; exact .int i
  | .str x, _, h => by cases h; exact .str x
  | .list ds, _, h => by
    cases h with
    | lst h1 h2 => exact .lst (hl _ _ h1) (Rp.keptAll hl ht hd ds _ h2)
  | .tuple ds, _, h => by
    cases h with
    | tup h1 h2 => exact .tup (ht _ _ h1) (Rp.keptAll hl ht hd ds _ h2)
  | .dict es, _, h => by
    cases h with
    | dic h0 h1 h2 => exact .dic h0 (hd _ _ h0 h1) (Rp.keptKv hl ht hd es _ h2)
theorem Rp.keptAll (hl : ∀ a xs, SqL K H a xs → SqL K H' a xs) (ht : ∀ a xs, SqT K H a xs → SqT K H' a xs) (hd : ∀ a kvs, a ≠ pn → H a = some (.dK kvs) → H' a = some (.dK kvs)) :
    ∀ (ds : List PyData) (vs : List V), RpAll K pn H vs ds → RpAll K pn H' vs ds
  | [], _, h => by cases h; exact .nil
  | d :: ds, _, h => by
    cases h with
    | cons h1 h2 => exact .cons (Rp.kept hl ht hd d _ h1) (Rp.keptAll hl ht hd ds _ h2)
theorem Rp.keptKv (hl : ∀ a xs, SqL K H a xs → SqL K H' a xs) (ht : ∀ a xs, SqT K H a xs → SqT K H' a xs) (hd : ∀ a kvs, a ≠ pn → H a = some (.dK kvs) → H' a = some (.dK kvs)) :
    ∀ (es : List (PyData × PyData)) (kvs : List (Key × V)), RpKv K pn H kvs es → RpKv K pn H' kvs es
  | [], _, h => by cases h; exact .nil
  | (kd, d) :: es, _, h => by
    cases h with
    | cons h1 h2 => exact .cons (Rp.kept hl ht hd d _ h1) (Rp.keptKv hl ht hd es _ h2)
end
/-- all but what stands at pn is as it was -/
def But (pn : Addr) (H H' : Hp) : Prop := ∀ b o, b ≠ pn → H b = some o → H' b = some o
theorem But.refl (pn : Addr) (H : Hp) : But pn H H := fun _ _ _ h => h
theorem But.trans {H1 : Hp} (a : But pn H H1) (b : But pn H1 H') : But pn H H' := fun c o n h => b c o n (a c o n h)
theorem But.of_same (e : Same H H') : But pn H H' := fun b o _ h => e b o h
theorem sameT (e : Same H H') {a : Addr} {xs : List V} (h : SqT K H a xs) : SqT K H' a xs := by
  rcases h with (h | ⟨o, h⟩) | h
  · exact .inl (.inl (e _ _ h))
  · exact .inl (.inr ⟨o, e _ _ h⟩)
  · exact .inr h
theorem Rp.same (e : Same H H') {v : V} {d : PyData} (h : Rp K pn H v d) : Rp K pn H' v d :=
  Rp.kept (fun _ _ z => e.seq z) (fun _ _ z => sameT e z) (fun _ _ _ z => e _ _ z) d v h
theorem RpAll.same (e : Same H H') {vs : List V} {ds : List PyData} (h : RpAll K pn H vs ds) : RpAll K pn H' vs ds :=
  Rp.keptAll (fun _ _ z => e.seq z) (fun _ _ z => sameT e z) (fun _ _ _ z => e _ _ z) ds vs h
theorem butL (e : But pn H H') {kvs : List (Key × V)} (hp : H pn = some (.dK kvs)) {a : Addr} {xs : List V} (h : SqL K H a xs) : SqL K H' a xs := by
  rcases h with (h | ⟨o, h⟩) | h
  · exact .inl (.inl (e _ _ (ne_of h hp (fun z => nomatch z)) h))
  · exact .inl (.inr ⟨o, e _ _ (ne_of h hp (fun z => nomatch z)) h⟩)
  · exact .inr h
theorem butT (e : But pn H H') {kvs : List (Key × V)} (hp : H pn = some (.dK kvs)) {a : Addr} {xs : List V} (h : SqT K H a xs) : SqT K H' a xs := by
  rcases h with (h | ⟨o, h⟩) | h
  · exact .inl (.inl (e _ _ (ne_of h hp (fun z => nomatch z)) h))
  · exact .inl (.inr ⟨o, e _ _ (ne_of h hp (fun z => nomatch z)) h⟩)
  · exact .inr h
theorem Rp.but (e : But pn H H') {kvs : List (Key × V)} (hp : H pn = some (.dK kvs)) {v : V} {d : PyData} (h : Rp K pn H v d) : Rp K pn H' v d :=
  Rp.kept (fun _ _ z => butL e hp z) (fun _ _ z => butT e hp z) (fun _ _ n z => e _ _ n z) d v h
theorem RpAll.but (e : But pn H H') {kvs : List (Key × V)} (hp : H pn = some (.dK kvs)) {vs : List V} {ds : List PyData} (h : RpAll K pn H vs ds) : RpAll K pn H' vs ds :=
  Rp.keptAll (fun _ _ z => butL e hp z) (fun _ _ z => butT e hp z) (fun _ _ n z => e _ _ n z) ds vs h
theorem RpAll.length : ∀ {vs : List V} {ds : List PyData}, RpAll K pn H vs ds → vs.length = ds.length
  | _, [], h => by cases h; rfl
  | _, d :: ds, h => by
    cases h with
    | cons h1 h2 => exact congrArg Nat.succ (RpAll.length h2)
theorem RpAll.get : ∀ {vs : List V} {ds : List PyData} {i : Nat} {v : V}, RpAll K pn H vs ds → vs[i]? = some v → ∃ d, ds[i]? = some d ∧ Rp K pn H v d
  | _, [], i, v, h, e => by cases h; cases i <;> cases e
  | _, d :: ds, 0, v, h, e => by
    cases h with
    | cons h1 h2 => cases e; exact ⟨d, rfl, h1⟩
  | _, d :: ds, i + 1, v, h, e => by
    cases h with
    | cons h1 h2 => exact RpAll.get (i := i) h2 e
theorem RpAll.getD : ∀ {vs : List V} {ds : List PyData} {i : Nat} {d : PyData}, RpAll K pn H vs ds → ds[i]? = some d → ∃ v, vs[i]? = some v ∧ Rp K pn H v d
  | _, [], i, v, h, e => by cases i <;> cases e
  | _, d :: ds, 0, v, h, e => by
    cases h with
    | cons h1 h2 => cases e; exact ⟨_, rfl, h1⟩
  | _, d :: ds, i + 1, v, h, e => by
    cases h with
    | cons h1 h2 => exact RpAll.getD (i := i) h2 e
theorem RpAll.append : ∀ {vs us : List V} {ds es : List PyData}, RpAll K pn H vs ds → RpAll K pn H us es → RpAll K pn H (vs ++ us) (ds ++ es)
  | _, _, [], _, h, k => by cases h; exact k
  | _, _, d :: ds, _, h, k => by
    cases h with
    | cons h1 h2 => exact .cons h1 (RpAll.append h2 k)
end

/-! ### read off the heap -/
section
variable {X : Cx} {pins : List (Addr × Obj)} {σ : L2.St} {H : Hp} {s : Shared} {pn : Addr}
theorem keys_reads {P : Program} {w : World} (h : Heap) : ∀ {es : List DictEntry} {vs : List (Key × Value)} {kvs : List (Key × V)} {ds : List (PyData × PyData)},
    Pairs (mixKind P w) es vs → KV kvs vs → ds.map (·.1) = kvs.map (fun q => keyD q.1) → ReadsAll h (es.map (·.key)) (ds.map (·.1)) []
  | [], _, _, ds, p, r, e => by
    cases p
    cases r
    cases ds with
    | nil => exact ReadsAll.nil
    | cons _ _ => cases e
  | en :: es, _, _, ds, p, r, e => by
    cases p with
    | @cons _ kv _ kvs' h1 h2 h3 =>
      cases r with
      | @cons q _ qs _ r1 r2 =>
        cases ds with
        | nil => cases e
        | cons d ds =>
          have e1 : d.1 = keyD q.1 := (List.cons.inj e).1
          have e2 : ds.map (·.1) = qs.map (fun q => keyD q.1) := (List.cons.inj e).2
          have ih := keys_reads h h3 r2 e2
          have k1 : keyIs q.1 en.key = true := by rw [r1.1]; exact h1
          show ReadsAll h (en.key :: es.map (·.key)) (d.1 :: ds.map (·.1)) []
          rw [e1]
          rcases keyIs_shape k1 with ⟨i, t, e3, e4⟩ | ⟨x, t, e3, e4⟩
          · rw [e3, e4]
            exact ReadsAll.cons (Reads.int i t) ih
          · rw [e3, e4]
            exact ReadsAll.cons (Reads.str x t) ih
theorem rpkv_keys {K : PySem.W.Frag} : ∀ {kvs : List (Key × V)} {ds : List (PyData × PyData)}, RpKv K pn H kvs ds → ds.map (·.1) = kvs.map (fun q => keyD q.1)
  | _, [], h => by cases h; rfl
  | _, _ :: ds, h => by
    cases h with
    | cons h1 h2 =>
      show _ :: _ = _ :: _
      rw [rpkv_keys h2]
theorem rpkv_vals {K : PySem.W.Frag} : ∀ {kvs : List (Key × V)} {ds : List (PyData × PyData)}, RpKv K pn H kvs ds → RpAll K pn H (kvs.map (·.2)) (ds.map (·.2))
  | _, [], h => by cases h; exact .nil
  | _, _ :: ds, h => by
    cases h with
    | cons h1 h2 => exact .cons h1 (rpkv_vals h2)
theorem pairs_vals {P : Program} {w : World} : ∀ {es : List DictEntry} {vs : List (Key × Value)} {kvs : List (Key × V)}, Pairs (mixKind P w) es vs → KV kvs vs → Vals (kvs.map (·.2)) (es.map (·.val))
  | [], _, _, p, r => by
    cases p
    cases r
    exact .nil
  | en :: es, _, _, p, r => by
    cases p with
    | @cons _ kv _ kvs' h1 h2 h3 =>
      cases r with
      | @cons q _ qs _ r1 r2 => exact .cons (show L2.RelV q.2 en.val from h2 ▸ r1.2) (pairs_vals h3 r2)
/-- the modules' dict stands in the written part as a dict -/
def ModsIn (K : PySem.W.Frag) : Prop := ∃ o, K.lookup sysModules = some o ∧ o.cls = .type "dict"
def modsB (K : PySem.W.Frag) : Bool := match K.lookup sysModules with
  | some o => decide (o.cls = .type "dict")
  | none => false
theorem modsB_ok {K : PySem.W.Frag} (h : modsB K = true) : ModsIn K := by
  unfold modsB at h
  cases q : K.lookup sysModules with
  | none => rw [q] at h; cases h
  | some o => rw [q] at h; exact ⟨o, q, of_decide_eq_true h⟩
theorem mods_ne (M : ModsIn X.K) (I : Inv X pins σ H s) {a : Addr} {o : Obj} (e : s.heap.get? a = some o) (c : o.cls ≠ .type "dict") : a ≠ sysModules := fun z => by
  obtain ⟨u, k, h⟩ := M
  have e2 := I.kIn _ _ k
  rw [← z, e] at e2
  cases e2
  exact c h
mutual
theorem Rp.reads (M : ModsIn X.K) (I : Inv X pins σ H s) : ∀ (d : PyData) (v : V) (u : Value), Rp X.K pn H v d → RelV v u → ∃ as, Reads s.heap u d as ∧ sysModules ∉ as
  | .none, _, _, h, r => by
    cases h
    cases r
    exact ⟨_, Reads.none, List.not_mem_nil⟩
  | .bool b, _, _, h, r => by
    cases h
    cases r
    exact ⟨_, Reads.bool b, List.not_mem_nil⟩
  | .int i, _, _, h, r => by
    cases h
    obtain ⟨t, rfl⟩ := r
    exact ⟨_, Reads.int i t, List.not_mem_nil⟩
  | .str x, _, _, h, r => by
    cases h
    obtain ⟨t, rfl⟩ := r
    exact ⟨_, Reads.str x t, List.not_mem_nil⟩
  | .list ds, _, _, h, r => by
    cases h with
    | lst hs ha =>
      cases r
      obtain ⟨its, rv, ⟨o, n, ho, hc, _, hd⟩, _⟩ := I.list hs
      obtain ⟨as, hr, hn⟩ := Rp.readsAll M I ds _ its ha rv
      refine ⟨_, Reads.list ho hc hd hr, fun z => ?_⟩
      rcases List.mem_cons.mp z with z | z
      · exact mods_ne M I ho (by rw [hc]; decide) z.symm
      · exact hn z
  | .tuple ds, _, _, h, r => by
    cases h with
    | tup hs ha =>
      cases r
      obtain ⟨its, rv, ⟨o, ho, hc, n, hd⟩, _⟩ := I.tuple hs
      obtain ⟨as, hr, hn⟩ := Rp.readsAll M I ds _ its ha rv
      exact ⟨_, Reads.tuple ho hc hd hr, hn⟩
  | .dict es, _, _, h, r => by
    cases h with
    | @dic a kvs _ h0 h1 h2 =>
      cases r
      obtain ⟨_, y, vs, rkv, o, ens, ep, ho, hx, hd, hk, hp, hnd⟩ := (show ObjOk X.prog X.w H s.heap a (.dK kvs) from I.hok a _ h1)
      obtain ⟨as, hr, hn⟩ := Rp.readsKv M I es _ (ens.toList.map (·.val)) h2 (pairs_vals hp rkv)
      refine ⟨_, Reads.dict ho hx.1 hd (keys_reads s.heap hp rkv (rpkv_keys h2)) hr, fun z => ?_⟩
      rcases List.mem_append.mp z with z | z
      · rcases List.mem_cons.mp z with z | z
        · rw [← z] at y
          exact absurd y (by decide)
        · cases z
      · exact hn z
theorem Rp.readsAll (M : ModsIn X.K) (I : Inv X pins σ H s) : ∀ (ds : List PyData) (vs : List V) (us : List Value), RpAll X.K pn H vs ds → Vals vs us → ∃ as, ReadsAll s.heap us ds as ∧ sysModules ∉ as
  | [], _, _, h, r => by
    cases h
    cases r
    exact ⟨_, ReadsAll.nil, List.not_mem_nil⟩
  | d :: ds, _, _, h, r => by
    cases h with
    | cons h1 h2 =>
      cases r with
      | cons r1 r2 =>
        obtain ⟨as, q1, n1⟩ := Rp.reads M I d _ _ h1 r1
        obtain ⟨bs, q2, n2⟩ := Rp.readsAll M I ds _ _ h2 r2
        exact ⟨_, ReadsAll.cons q1 q2, fun z => (List.mem_append.mp z).elim n1 n2⟩
theorem Rp.readsKv (M : ModsIn X.K) (I : Inv X pins σ H s) : ∀ (es : List (PyData × PyData)) (kvs : List (Key × V)) (us : List Value), RpKv X.K pn H kvs es → Vals (kvs.map (·.2)) us → ∃ as, ReadsAll s.heap us (es.map (·.2)) as ∧ sysModules ∉ as
  | [], _, _, h, r => by
    cases h
    cases r
    exact ⟨_, ReadsAll.nil, List.not_mem_nil⟩
  | (kd, d) :: es, _, _, h, r => by
    cases h with
    | cons h1 h2 =>
      cases r with
      | cons r1 r2 =>
        obtain ⟨as, q1, n1⟩ := Rp.reads M I d _ _ h1 r1
        obtain ⟨bs, q2, n2⟩ := Rp.readsKv M I es _ _ h2 r2
        exact ⟨_, ReadsAll.cons q1 q2, fun z => (List.mem_append.mp z).elim n1 n2⟩
end
end

/-! ### repr -/
/-- what repr can tell -/
structure Fit (d : PyData) : Prop where
  shw : d.showable = true
  dep : d.depth ≤ 32
  len : d.shown.length ≤ sizeLine
def rRepr (K : PySem.W.Frag) : List V → Hp → VK → Prop := fun xs H Q => ∃ (pn : Addr) (v : V) (d : PyData), xs = [v] ∧ Rp K pn H v d ∧ Fit d ∧ Q (.str d.shown) H
theorem call_repr {X : Cx} (M : ModsIn X.K) (gd : X.A.guards = some []) (hu : X.A.units + 64 < cLine) : CallR X (.builtin "repr") (rRepr X.K) := by
  intro pins s σ H xs us Q I r h
  obtain ⟨pn, v, d, rfl, rp, ft, q⟩ := h
  obtain ⟨u, rfl, rv⟩ := vals1 r
  have onref : ∀ a, v = .ref a → wpAny (model X.prog X.w) X.A (call (.builtin "repr") [u]) (EP X pins σ Q) X.xe s := fun a ea => by
    obtain ⟨as, rd, hn⟩ := Rp.reads M I d v u rp rv
    subst ea
    obtain rfl : u = Value.ref a := rv
    exact repr_of_reads' rd ft.shw (fun _ => hn) gd (by have := ft.dep; omega) (fun _ _ e => e)
      (fun h' tk t' hk => ⟨.str d.shown, H, I.kept (t' := t') hk, ⟨tk, rfl⟩, q⟩) ft.len
  cases rp with
  | non =>
    cases (show u = Value.none from rv)
    exact PySem.P.repr_of_none ⟨.str _, H, I.tok _, ⟨_, rfl⟩, q⟩
  | bl b =>
    cases (show u = Value.bool b from rv)
    exact PySem.P.repr_of_bool ⟨.str _, H, I.tok _, ⟨_, rfl⟩, q⟩
  | int i =>
    obtain ⟨t, e⟩ := (show ∃ t, u = Value.int i t from rv)
    cases e
    exact PySem.P.repr_of_int (of_decide_eq_true ft.shw) ⟨.str _, H, I.tok _, ⟨_, rfl⟩, q⟩
  | str x =>
    obtain ⟨t, e⟩ := (show ∃ t, u = Value.str x t from rv)
    cases e
    exact PySem.P.repr_of_str ⟨.str _, H, I.tok _, ⟨_, rfl⟩, q⟩ ft.len
  | @lst a _ _ _ _ => exact onref a rfl
  | @tup a _ _ _ _ => exact onref a rfl
  | @dic a _ _ _ _ _ => exact onref a rfl

/-! ### small data: repr can tell it -/
mutual
def smD : PyData → Bool
  | .none => true
  | .bool _ => true
  | .int i => decide (i.natAbs < 10 ^ 12)
  | .str x => x.cps.toList.all fun c => decide (c < 16 ^ 8)
  | .list xs => smAll xs
  | .tuple xs => smAll xs
  | .dict es => smKv es
def smAll : List PyData → Bool
  | [] => true
  | x :: xs => smD x && smAll xs
def smKv : List (PyData × PyData) → Bool
  | [] => true
  | (k, v) :: r => smD k && smD v && smKv r
end
mutual
theorem sm_short : ∀ d : PyData, smD d = true → d.leavesShort 13 = true ∧ d.showable = true
  | .none, _ => ⟨rfl, rfl⟩
  | .bool _, _ => ⟨rfl, rfl⟩
  | .int i, h => by
    have hi : i.natAbs < 10 ^ 12 := of_decide_eq_true (by simpa only [smD] using h)
    refine ⟨?_, ?_⟩
    · simp only [PyData.leavesShort, decide_eq_true_eq]
      exact PyData.shown_int_le hi
    · simp only [PyData.showable, decide_eq_true_eq]
      by_cases h0 : i.natAbs = 0
      · rw [h0]; decide
      · have : i.natAbs.log2 < 41 := (Nat.log2_lt h0).mpr (Nat.lt_of_lt_of_le hi (by decide))
        omega
  | .str x, h => ⟨by simpa only [PyData.leavesShort, smD] using h, rfl⟩
  | .list xs, h => by
    have q := sm_shortAll xs (by simpa only [smD] using h)
    exact ⟨by simpa only [PyData.leavesShort] using q.1, by simpa only [PyData.showable] using q.2⟩
  | .tuple xs, h => by
    have q := sm_shortAll xs (by simpa only [smD] using h)
    exact ⟨by simpa only [PyData.leavesShort] using q.1, by simpa only [PyData.showable] using q.2⟩
  | .dict es, h => by
    have q := sm_shortKv es (by simpa only [smD] using h)
    exact ⟨by simpa only [PyData.leavesShort] using q.1, by simpa only [PyData.showable] using q.2⟩
theorem sm_shortAll : ∀ ds : List PyData, smAll ds = true → PyData.leavesShortAll 13 ds = true ∧ PyData.showableAll ds = true
  | [], _ => ⟨rfl, rfl⟩
  | d :: ds, h => by
    have h' : smD d = true ∧ smAll ds = true := by simpa only [smAll, Bool.and_eq_true] using h
    have q1 := sm_short d h'.1
    have q2 := sm_shortAll ds h'.2
    simp only [PyData.leavesShortAll, PyData.showableAll, Bool.and_eq_true]
    exact ⟨⟨q1.1, q2.1⟩, q1.2, q2.2⟩
theorem sm_shortKv : ∀ es : List (PyData × PyData), smKv es = true → PyData.leavesShortKv 13 es = true ∧ PyData.showableKv es = true
  | [], _ => ⟨rfl, rfl⟩
  | (k, v) :: r, h => by
    have h' : (smD k = true ∧ smD v = true) ∧ smKv r = true := by simpa only [smKv, Bool.and_eq_true] using h
    have q1 := sm_short k h'.1.1
    have q2 := sm_short v h'.1.2
    have q3 := sm_shortKv r h'.2
    simp only [PyData.leavesShortKv, PyData.showableKv, Bool.and_eq_true]
    exact ⟨⟨⟨q1.1, q2.1⟩, q3.1⟩, ⟨q1.2, q2.2⟩, q3.2⟩
end
theorem fit_sm {d : PyData} (h : smD d = true) (hd : d.depth ≤ 32) (hw : d.weight ≤ 1000000) : Fit d :=
  ⟨(sm_short d h).2, hd, PyData.shown_fits (B := 13) (by decide) (by decide) (sm_short d h).1 (Nat.le_trans hw (by decide))⟩

/-! ### instances of classes without __eq__, compared -/
def cmpB (K : PySem.W.Frag) (C : Addr) : Bool := match K.lookup C with
  | some ⟨.type "type", _, .cls cd, sl⟩ => (match cd.mro, sl.toList with
    | [.ref C', .type "object"], [_, _, _, _, some (.builtin _), _] => decide (C' = C) && (!cd.hasDel && (PySem.W.nsOkIn K cd.ns && (He.eqO (PySem.W.nsIn K cd.ns "__eq__") (some none) && He.eqO (PySem.W.nsIn K cd.ns "__ne__") (some none))))
    | _, _ => false)
  | _ => false
theorem cmpB_ok {K : PySem.W.Frag} {h : Heap} {x C : Addr} {o : Obj} (X : K.In h) (q : cmpB K C = true) (ho : h.get? x = some o) (hc : o.cls = .ref C) : h.CmpInst x C [.type "object"] := by
  unfold cmpB at q
  split at q
  · rename_i dd cd sl hk
    split at q
    · rename_i C' k0 k1 k2 k3 n k5 hm hs
      simp only [Bool.and_eq_true, Bool.not_eq_true', decide_eq_true_eq] at q
      obtain ⟨rfl, hdel, hok, he, hne⟩ := q
      obtain ⟨nm, bs, mro, ns, qn, hd, sn, sub, ab, col, del⟩ := cd
      dsimp only at hm hdel hok he hne
      subst hm hdel
      have hsl : sl = #[k0, k1, k2, k3, some (.builtin n), k5] := by
        obtain ⟨l⟩ := sl
        simp only at hs
        rw [hs]
      subst hsl
      have G : h.Ns ns (h.nsMap ns) := .of_isNs (PySem.W.isNs_of_in X hok)
      exact ⟨o, nm, qn, ns, bs, hd, sn, sub, ab, col, dd, k0, k1, k2, k3, k5, n, _, ho, hc, X _ _ hk, G, PySem.W.ns_none_of X G (He.eqO_ok he), PySem.W.ns_none_of X G (He.eqO_ok hne)⟩
    · cases q
  · cases q
def rEqI (K : PySem.W.Frag) : R2 := fun x y H Q => ∃ a b C D dx dy fs gs, x = .ref a ∧ y = .ref b ∧ H a = some (.ins C dx fs) ∧ H b = some (.ins D dy gs) ∧ cmpB K C = true ∧ cmpB K D = true ∧ Q (.bl (decide (a = b))) H
def rNeI (K : PySem.W.Frag) : R2 := fun x y H Q => ∃ a b C D dx dy fs gs, x = .ref a ∧ y = .ref b ∧ H a = some (.ins C dx fs) ∧ H b = some (.ins D dy gs) ∧ cmpB K C = true ∧ cmpB K D = true ∧ Q (.bl (!decide (a = b))) H
theorem ins_at {X : Cx} {pins : List (Addr × Obj)} {σ : L2.St} {H : Hp} {s : Shared} (I : Inv X pins σ H s) {a C dx : Addr} {fs : List (Str × V)} (e : H a = some (.ins C dx fs)) (c : cmpB X.K C = true) :
    s.heap.CmpInst a C [.type "object"] := by
  obtain ⟨_, _, _, ho, _⟩ := (show ObjOk X.prog X.w H s.heap a (.ins C dx fs) from I.hok a _ e)
  exact cmpB_ok I.kIn c ho rfl
theorem op_eqI {X : Cx} (hu : X.A.units + 64 < cLine) : OpR X (compareOp .Eq) (rEqI X.K) := by
  intro pins s σ H x y v u Q I rx ry h
  obtain ⟨a, b, C, D, dx, dy, fs, gs, rfl, rfl, ha, hb, ca, cb, q⟩ := h
  obtain rfl : v = Value.ref a := rx
  obtain rfl : u = Value.ref b := ry
  have hA := ins_at I ha ca
  have hB := ins_at I hb cb
  obtain ⟨hp, g, d, t, os⟩ := s
  by_cases hab : a = b
  · subst hab
    rw [decide_eq_true rfl] at q
    exact compareOp_eq_same PySem.F.cmp_object hA (by omega) ⟨.bl true, H, I, rfl, q⟩
  · rw [decide_eq_false hab] at q
    exact compareOp_eq_other PySem.F.cmp_object PySem.F.cmp_object hA hB hab (by omega) ⟨.bl false, H, I, rfl, q⟩
theorem op_neI {X : Cx} (hu : X.A.units + 64 < cLine) : OpR X (compareOp .NotEq) (rNeI X.K) := by
  intro pins s σ H x y v u Q I rx ry h
  obtain ⟨a, b, C, D, dx, dy, fs, gs, rfl, rfl, ha, hb, ca, cb, q⟩ := h
  obtain rfl : v = Value.ref a := rx
  obtain rfl : u = Value.ref b := ry
  have hA := ins_at I ha ca
  have hB := ins_at I hb cb
  obtain ⟨hp, g, d, t, os⟩ := s
  by_cases hab : a = b
  · subst hab
    rw [decide_eq_true rfl] at q
    exact compareOp_ne_same PySem.F.cmp_object hA (by omega) ⟨.bl false, H, I, rfl, q⟩
  · rw [decide_eq_false hab] at q
    exact compareOp_ne_other PySem.F.cmp_object PySem.F.cmp_object hA hB hab (by omega) ⟨.bl true, H, I, rfl, q⟩
end Bs

/-! Part 3: calls by promises; the pen of the laws, its draws. -/
namespace Bs
open PySem PySem.Spec PyProof.Rows L2

/-! ### a def with its promise, as a caller wants it -/
structure Pr (P : Program) (w : World) (K : PySem.W.Frag) (mg : Str → Option Value) (base : Heap) (CX : CXT) (k : Nat) (f : Addr) (ps : List Str) (sp : Sp) : Prop where
  ex : ∃ fd, FnOk P w K mg base CX k f fd ps sp ∧ Binds K fd ps [] ∧ PySem.W.keepIn K (.ref f) = true
structure PrG (P : Program) (w : World) (K : PySem.W.Frag) (mg : Str → Option Value) (base : Heap) (CX : CXT) (k : Nat) (f : Addr) (ps : List Str) (sp : Sp) : Prop where
  ex : ∃ fd, FnG P w K mg base CX k f fd ps sp ∧ Binds K fd ps [] ∧ PySem.W.keepIn K (.ref f) = true
section
variable {X : Cx} {CX : CXT} {k j : Nat} {f C : Addr} {ps : List Str} {sp : Sp} {E : XK} {x : Str} {p pos : Pos} {e : Expr} {es : List Expr} {t : TA}
theorem pe_callP (F : Pr X.prog X.w X.K X.mg X.base CX k f ps sp) (hr : Room j X.A) (hg : Gl X x) (hm : X.mg x = some (.ref f)) (hx : Passes CX X E) (ha : PA X (e :: es) t) (hl : k ≤ j := by decide) (hdb : (x == ("__debug__" : Str)) = false := by decide)
    (he : starEach (e :: es) X.env = (false, eval e X.env) :: starEach es X.env := by rfl) (hpl : (backTo pos (starEach es X.env)).any (·.1) = false := by rfl) :
    PE X (.Call (.Name x p) (e :: es) [] pos) (tCall sp [] E t) := by
  obtain ⟨fd, F, b, kp⟩ := F.ex
  exact pe_call F (hr.mono hl) hg hm kp b .nil hx ha hdb he hpl
theorem pe_callP0 (F : Pr X.prog X.w X.K X.mg X.base CX k f ps sp) (hr : Room j X.A) (hg : Gl X x) (hm : X.mg x = some (.ref f)) (hx : Passes CX X E) (hl : k ≤ j := by decide) (hdb : (x == ("__debug__" : Str)) = false := by decide) :
    PE X (.Call (.Name x p) [] [] pos) (tCall sp [] E tNil) := by
  obtain ⟨fd, F, b, kp⟩ := F.ex
  exact pe_call0 F (hr.mono hl) hg hm kp b .nil hx hdb
theorem pe_callPG (gd : X.A.guards = some []) (F : PrG X.prog X.w X.K X.mg X.base CX k f ps sp) (hr : Room j X.A) (hg : Gl X x) (hm : X.mg x = some (.ref f)) (hx : Passes CX X E) (ha : PA X (e :: es) t) (hl : k ≤ j := by decide) (hdb : (x == ("__debug__" : Str)) = false := by decide)
    (he : starEach (e :: es) X.env = (false, eval e X.env) :: starEach es X.env := by rfl) (hpl : (backTo pos (starEach es X.env)).any (·.1) = false := by rfl) :
    PE X (.Call (.Name x p) (e :: es) [] pos) (tCall sp [] E t) := by
  obtain ⟨fd, F, b, kp⟩ := F.ex
  exact pe_callG gd F (hr.mono hl) hg hm kp b .nil hx ha hdb he hpl
theorem pe_makeP {fi : Addr} (M : Mk X.K C fi) (F : Pr X.prog X.w X.K X.mg X.base CX k fi ps sp) (hr : Room j X.A) (hg : Gl X x) (hm : X.mg x = some (.ref C)) (hx : Passes CX X E) (ha : PA X (e :: es) t) (hl : k + 1 ≤ j := by decide) (hdb : (x == ("__debug__" : Str)) = false := by decide)
    (he : starEach (e :: es) X.env = (false, eval e X.env) :: starEach es X.env := by rfl) (hpl : (backTo pos (starEach es X.env)).any (·.1) = false := by rfl) :
    PE X (.Call (.Name x p) (e :: es) [] pos) (tMake C sp [] E t) := by
  obtain ⟨fd, F, b, kp⟩ := F.ex
  exact pe_make M F (hr.mono hl) hg hm b .nil hx ha hdb he hpl
end

/-! ### the pen -/
def penK (c : Addr) (a d n f : Int) : List (Key × V) := [(.inr "cells", .ref c), (.inr "at", .int a), (.inr "digits", .int d), (.inr "count", .int n), (.inr "fold", .int f)]
section
variable {c : Addr} {a d n f x : Int}
theorem pen_cells : valV (penK c a d n f) (.inr "cells") = some (.ref c) := valV_pos rfl
theorem pen_at : valV (penK c a d n f) (.inr "at") = some (.int a) := (valV_neg (by dsimp only; decide +kernel)).trans (valV_pos rfl)
theorem pen_digits : valV (penK c a d n f) (.inr "digits") = some (.int d) := (valV_neg (by dsimp only; decide +kernel)).trans ((valV_neg (by dsimp only; decide +kernel)).trans (valV_pos rfl))
theorem pen_count : valV (penK c a d n f) (.inr "count") = some (.int n) := (valV_neg (by dsimp only; decide +kernel)).trans ((valV_neg (by dsimp only; decide +kernel)).trans ((valV_neg (by dsimp only; decide +kernel)).trans (valV_pos rfl)))
theorem pen_fold : valV (penK c a d n f) (.inr "fold") = some (.int f) := (valV_neg (by dsimp only; decide +kernel)).trans ((valV_neg (by dsimp only; decide +kernel)).trans ((valV_neg (by dsimp only; decide +kernel)).trans ((valV_neg (by dsimp only; decide +kernel)).trans (valV_pos rfl))))
theorem putK_cons_ne {κ : Type} [DecidableEq κ] {p : κ × V} {r : List (κ × V)} {k : κ} {v : V} (h : ¬ p.1 = k) (hr : ∃ o, valV r k = some o) : putK (p :: r) k v = p :: putK r k v := by
  obtain ⟨o, ho⟩ := hr
  have h1 : (r.any fun kv => decide (kv.1 = k)) = true := by rw [valV_any, ho]; rfl
  unfold putK
  rw [if_pos (by rw [List.any_cons, h1, Bool.or_true]), if_pos h1, List.map_cons, if_neg h]
theorem map_other {κ : Type} [DecidableEq κ] {k : κ} {v : V} : ∀ {r : List (κ × V)}, valV r k = none → r.map (fun kv => if kv.1 = k then (kv.1, v) else kv) = r
  | [], _ => rfl
  | p :: r, h => by
    by_cases e : p.1 = k
    · rw [valV_pos e] at h; cases h
    · rw [valV_neg e] at h
      rw [List.map_cons, if_neg e, map_other h]
theorem putK_cons_eq {κ : Type} [DecidableEq κ] {p : κ × V} {r : List (κ × V)} {k : κ} {v : V} (h : p.1 = k) (hr : valV r k = none) : putK (p :: r) k v = (p.1, v) :: r := by
  unfold putK
  rw [if_pos (by rw [List.any_cons, decide_eq_true h]; rfl), List.map_cons, if_pos h, map_other hr]
theorem put_at : putK (penK c a d n f) (.inr "at") (.int x) = penK c x d n f := by
  refine (putK_cons_ne (by dsimp only; decide +kernel) ⟨_, valV_pos rfl⟩).trans (congrArg _ ?_)
  exact putK_cons_eq rfl ((valV_neg (by dsimp only; decide +kernel)).trans ((valV_neg (by dsimp only; decide +kernel)).trans ((valV_neg (by dsimp only; decide +kernel)).trans valV_nil)))
theorem put_digits : putK (penK c a d n f) (.inr "digits") (.int x) = penK c a x n f := by
  refine (putK_cons_ne (by dsimp only; decide +kernel) ⟨_, (valV_neg (by dsimp only; decide +kernel)).trans (valV_pos rfl)⟩).trans (congrArg _ ?_)
  refine (putK_cons_ne (by dsimp only; decide +kernel) ⟨_, (valV_pos rfl)⟩).trans (congrArg _ ?_)
  exact putK_cons_eq rfl ((valV_neg (by dsimp only; decide +kernel)).trans ((valV_neg (by dsimp only; decide +kernel)).trans valV_nil))
theorem put_count : putK (penK c a d n f) (.inr "count") (.int x) = penK c a d x f := by
  refine (putK_cons_ne (by dsimp only; decide +kernel) ⟨_, (valV_neg (by dsimp only; decide +kernel)).trans ((valV_neg (by dsimp only; decide +kernel)).trans (valV_pos rfl))⟩).trans (congrArg _ ?_)
  refine (putK_cons_ne (by dsimp only; decide +kernel) ⟨_, (valV_neg (by dsimp only; decide +kernel)).trans (valV_pos rfl)⟩).trans (congrArg _ ?_)
  refine (putK_cons_ne (by dsimp only; decide +kernel) ⟨_, (valV_pos rfl)⟩).trans (congrArg _ ?_)
  exact putK_cons_eq rfl ((valV_neg (by dsimp only; decide +kernel)).trans valV_nil)
theorem put_fold : putK (penK c a d n f) (.inr "fold") (.int x) = penK c a d n x := by
  refine (putK_cons_ne (by dsimp only; decide +kernel) ⟨_, (valV_neg (by dsimp only; decide +kernel)).trans ((valV_neg (by dsimp only; decide +kernel)).trans ((valV_neg (by dsimp only; decide +kernel)).trans (valV_pos rfl)))⟩).trans (congrArg _ ?_)
  refine (putK_cons_ne (by dsimp only; decide +kernel) ⟨_, (valV_neg (by dsimp only; decide +kernel)).trans ((valV_neg (by dsimp only; decide +kernel)).trans (valV_pos rfl))⟩).trans (congrArg _ ?_)
  refine (putK_cons_ne (by dsimp only; decide +kernel) ⟨_, (valV_neg (by dsimp only; decide +kernel)).trans (valV_pos rfl)⟩).trans (congrArg _ ?_)
  refine (putK_cons_ne (by dsimp only; decide +kernel) ⟨_, (valV_pos rfl)⟩).trans (congrArg _ ?_)
  exact putK_cons_eq rfl valV_nil
end
section
variable {H : Hp} {p c : Addr} {a d n f x : Int}
theorem dg_cells (h : H p = some (.dK (penK c a d n f))) : DGet H p (.str "cells") (some (.ref c)) := pen_cells ▸ DGet.k (k := .inr "cells") h
theorem dg_at (h : H p = some (.dK (penK c a d n f))) : DGet H p (.str "at") (some (.int a)) := pen_at ▸ DGet.k (k := .inr "at") h
theorem dg_digits (h : H p = some (.dK (penK c a d n f))) : DGet H p (.str "digits") (some (.int d)) := pen_digits ▸ DGet.k (k := .inr "digits") h
theorem dg_count (h : H p = some (.dK (penK c a d n f))) : DGet H p (.str "count") (some (.int n)) := pen_count ▸ DGet.k (k := .inr "count") h
theorem dg_fold (h : H p = some (.dK (penK c a d n f))) : DGet H p (.str "fold") (some (.int f)) := pen_fold ▸ DGet.k (k := .inr "fold") h
theorem pen_len : (penK c a d n f).length < sizeLine := by show 5 < sizeLine; decide
theorem dp_at (h : H p = some (.dK (penK c a d n f))) : DPut H p (.str "at") (.int x) (upd H p (.dK (penK c x d n f))) := put_at ▸ DPut.k (k := .inr "at") h pen_len
theorem dp_digits (h : H p = some (.dK (penK c a d n f))) : DPut H p (.str "digits") (.int x) (upd H p (.dK (penK c a x n f))) := put_digits ▸ DPut.k (k := .inr "digits") h pen_len
theorem dp_count (h : H p = some (.dK (penK c a d n f))) : DPut H p (.str "count") (.int x) (upd H p (.dK (penK c a d x f))) := put_count ▸ DPut.k (k := .inr "count") h pen_len
theorem dp_fold (h : H p = some (.dK (penK c a d n f))) : DPut H p (.str "fold") (.int x) (upd H p (.dK (penK c a d n x))) := put_fold ▸ DPut.k (k := .inr "fold") h pen_len
end
/-- a pen at p, its cells at c, of at most n draws -/
def PenAt (H : Hp) (p c : Addr) (n : Nat) : Prop := ∃ (a d m f : Int) (cells : List Int), H p = some (.dK (penK c a d m f)) ∧ H c = some (.lst (cells.map V.int)) ∧ 0 ≤ a ∧ 0 ≤ d ∧ (0 ≤ m ∧ m ≤ n) ∧ 0 ≤ f ∧ f < 2147483648
theorem PenAt.mono {H : Hp} {p c : Addr} {n m : Nat} (h : PenAt H p c n) (k : n ≤ m) : PenAt H p c m := by
  obtain ⟨a, d, i, f, cells, h1, h2, h3, h4, ⟨h5, h6⟩, h7, h8⟩ := h
  exact ⟨a, d, i, f, cells, h1, h2, h3, h4, ⟨h5, by omega⟩, h7, h8⟩
theorem PenAt.at {H H' : Hp} {p c : Addr} {n : Nat} (e1 : ∀ o, H p = some o → H' p = some o) (e2 : ∀ o, H c = some o → H' c = some o) (h : PenAt H p c n) : PenAt H' p c n := by
  obtain ⟨a, d, i, f, cells, h1, h2, r⟩ := h
  exact ⟨a, d, i, f, cells, e1 _ h1, e2 _ h2, r⟩
theorem PenAt.same {H H' : Hp} {p c : Addr} {n : Nat} (e : Same H H') (h : PenAt H p c n) : PenAt H' p c n := h.at (fun _ z => e _ _ z) fun _ z => e _ _ z
theorem PenAt.upd {H : Hp} {p c q : Addr} {o : HO} {n : Nat} (h1 : q ≠ p) (h2 : q ≠ c) (h : PenAt H p c n) : PenAt (upd H q o) p c n := h.at (fun _ z => (upd_ne h1.symm).trans z) fun _ z => (upd_ne h2.symm).trans z
theorem PenAt.dict {H : Hp} {p c : Addr} {n : Nat} (h : PenAt H p c n) : ∃ kvs, H p = some (.dK kvs) := by
  obtain ⟨a, d, i, f, cells, h1, _⟩ := h
  exact ⟨_, h1⟩
/-- an address that is new, or holds anything else than the pen's dict and list, is not the pen's -/
theorem PenAt.ne {H : Hp} {p c q : Addr} {n : Nat} (h : PenAt H p c n) (hq : H q = none) : q ≠ p ∧ q ≠ c := by
  obtain ⟨a, d, i, f, cells, h1, h2, _⟩ := h
  exact ⟨fun z => (by rw [z, h1] at hq; cases hq), fun z => (by rw [z, h2] at hq; cases hq)⟩
/-- a new address is not the pen's -/
theorem But.upd {p : Addr} {H H1 : Hp} {o : HO} (e : But p H H1) : But p H (upd H1 p o) := fun b u n h => by
  rw [upd_ne n]
  exact e b u n h

theorem sameNew {H : Hp} {p : Addr} {o : HO} (h : H p = none) : Same H (upd H p o) := fun b u e => (upd_ne (ne_of_none e h)).trans e
/-- p was not there -/
theorem sameUp {H H' : Hp} {p : Addr} {o : HO} (e : Same H H') (h : H p = none) : Same H (upd H' p o) := fun b u q => (upd_ne (ne_of_none q h)).trans (e b u q)
theorem merge_pen {c : Addr} {a d n f : Int} : mergeK [] (penK c a d n f) = penK c a d n f := by
  have n1  : valV [((.inr "cells" : Key), V.ref c)] (.inr "at") = none := (valV_neg (by dsimp only; decide +kernel)).trans valV_nil
  have n2  : valV [((.inr "cells" : Key), V.ref c), (.inr "at", .int a)] (.inr "digits") = none := (valV_neg (by dsimp only; decide +kernel)).trans ((valV_neg (by dsimp only; decide +kernel)).trans valV_nil)
  have n3  : valV [((.inr "cells" : Key), V.ref c), (.inr "at", .int a), (.inr "digits", .int d)] (.inr "count") = none :=
    (valV_neg (by dsimp only; decide +kernel)).trans ((valV_neg (by dsimp only; decide +kernel)).trans ((valV_neg (by dsimp only; decide +kernel)).trans valV_nil))
  have n4  : valV [((.inr "cells" : Key), V.ref c), (.inr "at", .int a), (.inr "digits", .int d), (.inr "count", .int n)] (.inr "fold") = none :=
    (valV_neg (by dsimp only; decide +kernel)).trans ((valV_neg (by dsimp only; decide +kernel)).trans ((valV_neg (by dsimp only; decide +kernel)).trans ((valV_neg (by dsimp only; decide +kernel)).trans valV_nil)))
  unfold mergeK penK
  simp only [List.foldl]
  rw [putK_new (kvs := ([] : List (Key × V))) _ valV_nil, List.nil_append, putK_new _ n1, List.cons_append, List.nil_append, putK_new _ n2, List.cons_append, List.cons_append, List.nil_append, putK_new _ n3, List.cons_append, List.cons_append, List.cons_append, List.nil_append,
    putK_new _ n4]
  rfl

def spPen (K : PySem.W.Frag) : Sp := fun vs H Q _ => ∃ (a : Addr) (ns : List Int), vs = [.ref a] ∧ SqL K H a (ns.map V.int) ∧ ns.length ≤ 1000 ∧ ∀ H' p c, Same H H' → H p = none → H c = none → PenAt H' p c 0 → Q (.ref p) H'
def spDraw : Sp := fun vs H Q _ => ∃ (p c : Addr) (m : Int) (n : Nat), vs = [.ref p, .int m] ∧ 0 < m ∧ m < 1073741824 ∧ PenAt H p c n ∧ n < 1000000000 ∧
  ∀ r H', 0 ≤ r → r < m → But p H H' → PenAt H' p c (n + 1) → Q (.int r) H'
/-- some[draw(pen, len(some))], some a list or a tuple -/
def spPick (K : PySem.W.Frag) : Sp := fun vs H Q _ => ∃ (p c q : Addr) (xs : List V) (n : Nat), vs = [.ref p, .ref q] ∧ (SqL K H q xs ∨ SqT K H q xs) ∧ xs ≠ [] ∧ xs.length < 1000000 ∧ PenAt H p c n ∧ n < 1000000000 ∧
  ∀ (i : Nat) x H', xs[i]? = some x → But p H H' → PenAt H' p c (n + 1) → Q x H'
/-! ### rules by K's name (within a comprehension) -/
section
variable {X : Cx} {K : PySem.W.Frag}
theorem call_isi_k (e : X.K = K) : CallR X (.builtin "isinstance") (rIsi K) := by
  subst e
  exact call_isi
theorem call_isiT_k (e : X.K = K) : CallR X (.builtin "isinstance") (rIsiT K) := by
  subst e
  exact call_isiT
theorem call_list_of_k (e : X.K = K) : CallR X (.type "list") (fun xs H Q => ∃ p ys, xs = [.ref p] ∧ (SqL K H p ys ∨ SqT K H p ys) ∧ ∀ l, H l = none → Q (.ref l) (upd H l (.lst ys))) := by
  subst e
  exact call_list_of
theorem call_tuple_of_k (e : X.K = K) : CallR X (.type "tuple") (fun xs H Q => ∃ p ys, xs = [.ref p] ∧ ((SqL K H p ys ∧ ∀ l, H l = none → Q (.ref l) (upd H l (.tup ys))) ∨ (SqT K H p ys ∧ Q (.ref p) H))) := by
  subst e
  exact call_tuple_of
theorem call_len_seq_k (e : X.K = K) : CallR X (.builtin "len") (fun xs H Q => ∃ p ys, xs = [.ref p] ∧ (SqL K H p ys ∨ SqT K H p ys) ∧ Q (.int ys.length) H) := by
  subst e
  exact call_len_seq
theorem ix_list_k (e : X.K = K) : IxR X (rIxL K) := by
  subst e
  exact ix_list
theorem ix_tup_k (e : X.K = K) : IxR X (rIxT K) := by
  subst e
  exact ix_tup
theorem ix_seq_k (e : X.K = K) : IxR X (rIx K) := by
  subst e
  exact ix_seq
theorem sl_list_k (e : X.K = K) : SlR X (rSlL K) := by
  subst e
  exact sl_list
theorem sl_tupA_k (e : X.K = K) : SlR X (rSlA K) := by
  subst e
  exact sl_tupA
theorem op_catA_k (e : X.K = K) : OpR X (binaryOp .Add) (rCatA K) := by
  subst e
  exact op_catA
theorem op_repT_k (e : X.K = K) : OpR X (binaryOp .Mult) (rRepT K) := by
  subst e
  exact op_repT
theorem op_in_seq_k (e : X.K = K) : OpR X (compareOp .In) (rIn K false) := by
  subst e
  exact op_in_seq
theorem op_notIn_seq_k (e : X.K = K) : OpR X (compareOp .NotIn) (rIn K true) := by
  subst e
  exact op_notIn_seq
theorem op_eqD_k (hu : X.A.units + 64 < cLine) (e : X.K = K) : OpR X (compareOp .Eq) (rEqD K) := by
  subst e
  exact op_eqD hu
theorem op_neD_k (hu : X.A.units + 64 < cLine) (e : X.K = K) : OpR X (compareOp .NotEq) (rNeD K) := by
  subst e
  exact op_neD hu
theorem cr_sum_k (hc : X.calm = true) (e : X.K = K) : CallR X (.builtin "sum") (rSum K) := by
  subst e
  exact cr_sum hc
theorem cr_all_k (hc : X.calm = true) (e : X.K = K) : CallR X (.builtin "all") (rAll K) := by
  subst e
  exact cr_all hc
theorem cr_any_k (hc : X.calm = true) (e : X.K = K) : CallR X (.builtin "any") (rAny K) := by
  subst e
  exact cr_any hc
theorem cr_sortedI_k (e : X.K = K) : CallR X (.builtin "sorted") (rSortedI K) := by
  subst e
  exact cr_sortedI
theorem call_repr_k (M : ModsIn X.K) (gd : X.A.guards = some []) (hu : X.A.units + 64 < cLine) (e : X.K = K) : CallR X (.builtin "repr") (rRepr K) := by
  subst e
  exact call_repr M gd hu
theorem pe_fld_k (e : X.K = K) {o : Expr} {f : Str} {pos : Pos} {ta : TE} (he : PE X o ta) (hb : attributeBase o f X.env (eval o X.env) = eval o X.env) : PE X (.Attribute o f pos) (tFld K ta f) := by
  subst e
  exact pe_fld he hb
theorem pi_list_k (e : X.K = K) {l tg : Expr} {tl : TE} (hl : PE X l tl) : PI X tg l (iList K tl) := by
  subst e
  exact pi_list hl
theorem pi_tup_k (e : X.K = K) {l tg : Expr} {tl : TE} (hl : PE X l tl) : PI X tg l (iTup K tl) := by
  subst e
  exact pi_tup hl
end
end Bs

namespace K83
open PySem PySem.Spec PyProof.Rows L2 Bs
abbrev top (i : Nat) : Stmt := PySem.Challenge.pw_ballsheets_k83_classes_made_by_hand.main.body.getD i (.Pass ⟨0, 0, 0, 0⟩)
abbrev s_copied : Stmt := top 1
abbrev N_copied : List Str := ["value"]
theorem sc_copied : FnScope N_copied ["value"] (defScope s_copied) := ⟨rfl, rfl, rfl, by decide +kernel, rfl, by decide +kernel, by decide +kernel⟩
abbrev s_Renamed___init__ : Stmt := inClass (top 3) 0
abbrev N_Renamed___init__ : List Str := ["self", "turn"]
theorem sc_Renamed___init__ : FnScope N_Renamed___init__ ["self", "turn"] (defScope s_Renamed___init__) := ⟨rfl, rfl, rfl, by decide +kernel, rfl, by decide +kernel, by decide +kernel⟩
abbrev s_Apart___init__ : Stmt := inClass (top 4) 0
abbrev N_Apart___init__ : List Str := ["self", "words"]
theorem sc_Apart___init__ : FnScope N_Apart___init__ ["self", "words"] (defScope s_Apart___init__) := ⟨rfl, rfl, rfl, by decide +kernel, rfl, by decide +kernel, by decide +kernel⟩
abbrev s_Folded___init__ : Stmt := inClass (top 6) 0
abbrev N_Folded___init__ : List Str := ["self", "over", "places", "ways"]
theorem sc_Folded___init__ : FnScope N_Folded___init__ ["self", "over", "places", "ways"] (defScope s_Folded___init__) := ⟨rfl, rfl, rfl, by decide +kernel, rfl, by decide +kernel, by decide +kernel⟩
abbrev s_Spelled___init__ : Stmt := inClass (top 7) 0
abbrev N_Spelled___init__ : List Str := ["self", "row"]
theorem sc_Spelled___init__ : FnScope N_Spelled___init__ ["self", "row"] (defScope s_Spelled___init__) := ⟨rfl, rfl, rfl, by decide +kernel, rfl, by decide +kernel, by decide +kernel⟩
abbrev s_Parted___init__ : Stmt := inClass (top 8) 0
abbrev N_Parted___init__ : List Str := ["self", "sheeting"]
theorem sc_Parted___init__ : FnScope N_Parted___init__ ["self", "sheeting"] (defScope s_Parted___init__) := ⟨rfl, rfl, rfl, by decide +kernel, rfl, by decide +kernel, by decide +kernel⟩
abbrev s_Within___init__ : Stmt := inClass (top 9) 0
abbrev N_Within___init__ : List Str := ["self", "rows"]
theorem sc_Within___init__ : FnScope N_Within___init__ ["self", "rows"] (defScope s_Within___init__) := ⟨rfl, rfl, rfl, by decide +kernel, rfl, by decide +kernel, by decide +kernel⟩
abbrev s_Beyond___init__ : Stmt := inClass (top 10) 0
abbrev N_Beyond___init__ : List Str := ["self", "number", "sheeting"]
theorem sc_Beyond___init__ : FnScope N_Beyond___init__ ["self", "number", "sheeting"] (defScope s_Beyond___init__) := ⟨rfl, rfl, rfl, by decide +kernel, rfl, by decide +kernel, by decide +kernel⟩
abbrev s_Short___init__ : Stmt := inClass (top 12) 0
abbrev N_Short___init__ : List Str := ["self", "changes", "row"]
theorem sc_Short___init__ : FnScope N_Short___init__ ["self", "changes", "row"] (defScope s_Short___init__) := ⟨rfl, rfl, rfl, by decide +kernel, rfl, by decide +kernel, by decide +kernel⟩
abbrev s_Changes___init__ : Stmt := inClass (top 13) 0
abbrev N_Changes___init__ : List Str := ["self", "row"]
theorem sc_Changes___init__ : FnScope N_Changes___init__ ["self", "row"] (defScope s_Changes___init__) := ⟨rfl, rfl, rfl, by decide +kernel, rfl, by decide +kernel, by decide +kernel⟩
abbrev s_Lacking___init__ : Stmt := inClass (top 14) 0
abbrev N_Lacking___init__ : List Str := ["self", "letter", "sheeting"]
theorem sc_Lacking___init__ : FnScope N_Lacking___init__ ["self", "letter", "sheeting"] (defScope s_Lacking___init__) := ⟨rfl, rfl, rfl, by decide +kernel, rfl, by decide +kernel, by decide +kernel⟩
abbrev s_Lessened___init__ : Stmt := inClass (top 15) 0
abbrev N_Lessened___init__ : List Str := ["self", "rows", "ring"]
theorem sc_Lessened___init__ : FnScope N_Lessened___init__ ["self", "rows", "ring"] (defScope s_Lessened___init__) := ⟨rfl, rfl, rfl, by decide +kernel, rfl, by decide +kernel, by decide +kernel⟩
abbrev s_Had___init__ : Stmt := inClass (top 17) 0
abbrev N_Had___init__ : List Str := ["self", "turns"]
theorem sc_Had___init__ : FnScope N_Had___init__ ["self", "turns"] (defScope s_Had___init__) := ⟨rfl, rfl, rfl, by decide +kernel, rfl, by decide +kernel, by decide +kernel⟩
abbrev s_Never___init__ : Stmt := inClass (top 18) 0
abbrev N_Never___init__ : List Str := ["self", "reason"]
theorem sc_Never___init__ : FnScope N_Never___init__ ["self", "reason"] (defScope s_Never___init__) := ⟨rfl, rfl, rfl, by decide +kernel, rfl, by decide +kernel, by decide +kernel⟩
abbrev s_Full___init__ : Stmt := inClass (top 20) 0
abbrev N_Full___init__ : List Str := ["self", "turns"]
theorem sc_Full___init__ : FnScope N_Full___init__ ["self", "turns"] (defScope s_Full___init__) := ⟨rfl, rfl, rfl, by decide +kernel, rfl, by decide +kernel, by decide +kernel⟩
abbrev s_Colours___init__ : Stmt := inClass (top 22) 0
abbrev N_Colours___init__ : List Str := ["self", "row"]
theorem sc_Colours___init__ : FnScope N_Colours___init__ ["self", "row"] (defScope s_Colours___init__) := ⟨rfl, rfl, rfl, by decide +kernel, rfl, by decide +kernel, by decide +kernel⟩
abbrev s_OddWay___init__ : Stmt := inClass (top 23) 0
abbrev N_OddWay___init__ : List Str := ["self", "darts"]
theorem sc_OddWay___init__ : FnScope N_OddWay___init__ ["self", "darts"] (defScope s_OddWay___init__) := ⟨rfl, rfl, rfl, by decide +kernel, rfl, by decide +kernel, by decide +kernel⟩
abbrev s_Ladder___init__ : Stmt := inClass (top 25) 0
abbrev N_Ladder___init__ : List Str := ["self", "base", "levels"]
theorem sc_Ladder___init__ : FnScope N_Ladder___init__ ["self", "base", "levels"] (defScope s_Ladder___init__) := ⟨rfl, rfl, rfl, by decide +kernel, rfl, by decide +kernel, by decide +kernel⟩
abbrev s_Made___init__ : Stmt := inClass (top 26) 0
abbrev N_Made___init__ : List Str := ["self", "word"]
theorem sc_Made___init__ : FnScope N_Made___init__ ["self", "word"] (defScope s_Made___init__) := ⟨rfl, rfl, rfl, by decide +kernel, rfl, by decide +kernel, by decide +kernel⟩
abbrev s_Outside___init__ : Stmt := inClass (top 27) 0
abbrev N_Outside___init__ : List Str := ["self", "ladder", "level", "rest"]
theorem sc_Outside___init__ : FnScope N_Outside___init__ ["self", "ladder", "level", "rest"] (defScope s_Outside___init__) := ⟨rfl, rfl, rfl, by decide +kernel, rfl, by decide +kernel, by decide +kernel⟩
abbrev s_Great___init__ : Stmt := inClass (top 28) 0
abbrev N_Great___init__ : List Str := ["self", "odd", "word"]
theorem sc_Great___init__ : FnScope N_Great___init__ ["self", "odd", "word"] (defScope s_Great___init__) := ⟨rfl, rfl, rfl, by decide +kernel, rfl, by decide +kernel, by decide +kernel⟩
abbrev s_Small___init__ : Stmt := inClass (top 29) 0
abbrev N_Small___init__ : List Str := ["self", "ladder"]
theorem sc_Small___init__ : FnScope N_Small___init__ ["self", "ladder"] (defScope s_Small___init__) := ⟨rfl, rfl, rfl, by decide +kernel, rfl, by decide +kernel, by decide +kernel⟩
abbrev s_TieParts___init__ : Stmt := inClass (top 31) 0
abbrev N_TieParts___init__ : List Str := ["self", "tree", "far", "rest"]
theorem sc_TieParts___init__ : FnScope N_TieParts___init__ ["self", "tree", "far", "rest"] (defScope s_TieParts___init__) := ⟨rfl, rfl, rfl, by decide +kernel, rfl, by decide +kernel, by decide +kernel⟩
abbrev s_Moves___init__ : Stmt := inClass (top 33) 0
abbrev N_Moves___init__ : List Str := ["self", "moves"]
theorem sc_Moves___init__ : FnScope N_Moves___init__ ["self", "moves"] (defScope s_Moves___init__) := ⟨rfl, rfl, rfl, by decide +kernel, rfl, by decide +kernel, by decide +kernel⟩
abbrev s_Kept___init__ : Stmt := inClass (top 34) 0
abbrev N_Kept___init__ : List Str := ["self", "what"]
theorem sc_Kept___init__ : FnScope N_Kept___init__ ["self", "what"] (defScope s_Kept___init__) := ⟨rfl, rfl, rfl, by decide +kernel, rfl, by decide +kernel, by decide +kernel⟩
abbrev s_Bounded___init__ : Stmt := inClass (top 36) 0
abbrev N_Bounded___init__ : List Str := ["self", "numbers"]
theorem sc_Bounded___init__ : FnScope N_Bounded___init__ ["self", "numbers"] (defScope s_Bounded___init__) := ⟨rfl, rfl, rfl, by decide +kernel, rfl, by decide +kernel, by decide +kernel⟩
abbrev s_Crossed___init__ : Stmt := inClass (top 37) 0
abbrev N_Crossed___init__ : List Str := ["self", "other"]
theorem sc_Crossed___init__ : FnScope N_Crossed___init__ ["self", "other"] (defScope s_Crossed___init__) := ⟨rfl, rfl, rfl, by decide +kernel, rfl, by decide +kernel, by decide +kernel⟩
abbrev s_Step___init__ : Stmt := inClass (top 39) 0
abbrev N_Step___init__ : List Str := ["self", "names"]
theorem sc_Step___init__ : FnScope N_Step___init__ ["self", "names"] (defScope s_Step___init__) := ⟨rfl, rfl, rfl, by decide +kernel, rfl, by decide +kernel, by decide +kernel⟩
abbrev s_Loop___init__ : Stmt := inClass (top 40) 0
abbrev N_Loop___init__ : List Str := ["self", "word"]
theorem sc_Loop___init__ : FnScope N_Loop___init__ ["self", "word"] (defScope s_Loop___init__) := ⟨rfl, rfl, rfl, by decide +kernel, rfl, by decide +kernel, by decide +kernel⟩
abbrev s_Cover___init__ : Stmt := inClass (top 41) 0
abbrev N_Cover___init__ : List Str := ["self", "sheeting", "first", "second"]
theorem sc_Cover___init__ : FnScope N_Cover___init__ ["self", "sheeting", "first", "second"] (defScope s_Cover___init__) := ⟨rfl, rfl, rfl, by decide +kernel, rfl, by decide +kernel, by decide +kernel⟩
abbrev s_Closed___init__ : Stmt := inClass (top 42) 0
abbrev N_Closed___init__ : List Str := ["self", "sheeting", "names"]
theorem sc_Closed___init__ : FnScope N_Closed___init__ ["self", "sheeting", "names"] (defScope s_Closed___init__) := ⟨rfl, rfl, rfl, by decide +kernel, rfl, by decide +kernel, by decide +kernel⟩
abbrev s__law_pen : Stmt := top 44
abbrev N__law_pen : List Str := ["script", "fold", "cell"]
theorem sc__law_pen : FnScope N__law_pen ["script"] (defScope s__law_pen) := ⟨rfl, rfl, rfl, by decide +kernel, rfl, by decide +kernel, by decide +kernel⟩
abbrev s__law_draw : Stmt := top 45
abbrev N__law_draw : List Str := ["pen", "many", "cell", "digit", "blend"]
theorem sc__law_draw : FnScope N__law_draw ["pen", "many"] (defScope s__law_draw) := ⟨rfl, rfl, rfl, by decide +kernel, rfl, by decide +kernel, by decide +kernel⟩
abbrev s__law_pick : Stmt := top 46
abbrev N__law_pick : List Str := ["pen", "some"]
theorem sc__law_pick : FnScope N__law_pick ["pen", "some"] (defScope s__law_pick) := ⟨rfl, rfl, rfl, by decide +kernel, rfl, by decide +kernel, by decide +kernel⟩
abbrev s__law_made_a : Stmt := top 47
abbrev N__law_made_a : List Str := ["a", "b", "c", "rows", "one", "two", "kind", "first"]
theorem sc__law_made_a : FnScope N__law_made_a ["a", "b", "c"] (defScope s__law_made_a) := ⟨rfl, rfl, rfl, by decide +kernel, rfl, by decide +kernel, by decide +kernel⟩
abbrev s__law_made_b : Stmt := top 48
abbrev N__law_made_b : List Str := ["a", "b", "c", "rows", "one", "two", "kind", "first"]
theorem sc__law_made_b : FnScope N__law_made_b ["a", "b", "c"] (defScope s__law_made_b) := ⟨rfl, rfl, rfl, by decide +kernel, rfl, by decide +kernel, by decide +kernel⟩
abbrev s__law_made_c : Stmt := top 49
abbrev N__law_made_c : List Str := ["a", "b", "c", "rows", "one", "two", "kind", "first"]
theorem sc__law_made_c : FnScope N__law_made_c ["a", "b", "c"] (defScope s__law_made_c) := ⟨rfl, rfl, rfl, by decide +kernel, rfl, by decide +kernel, by decide +kernel⟩
abbrev s__law_value : Stmt := top 50
abbrev N__law_value : List Str := ["pen", "some", "k"]
theorem sc__law_value : FnScope N__law_value ["pen"] (defScope s__law_value) := ⟨rfl, rfl, rfl, by decide +kernel, rfl, by decide +kernel, by decide +kernel⟩
abbrev s__law_copy : Stmt := top 51
abbrev N__law_copy : List Str := ["value"]
theorem sc__law_copy : FnScope N__law_copy ["value"] (defScope s__law_copy) := ⟨rfl, rfl, rfl, by decide +kernel, rfl, by decide +kernel, by decide +kernel⟩
abbrev s_law : Stmt := top 52
abbrev N_law : List Str := ["script", "pen", "k", "values", "value", "a", "b", "c", "rows", "one", "two", "kind", "first", "second", "handed", "due", "other", "kept", "before"]
theorem sc_law : FnScope N_law ["script"] (defScope s_law) := ⟨rfl, rfl, rfl, by decide +kernel, rfl, by decide +kernel, by decide +kernel⟩
structure CF (K : PySem.W.Frag) (C : Addr) (fs : List Str) : Prop where
  cl : Cls K C
  mkr : Mk K C (He.ma K C "__init__")
  isc : C8.InsC K C
  cmp : cmpB K C = true
  no : ∀ f ∈ fs, NoAttr K C f
structure Fx (K : PySem.W.Frag) (mg : Str → Option Value) : Prop where
  f_copied : ∃ fd, FunD K "copied" "copied" (defArgs s_copied) (defBody s_copied) (defScope s_copied) [] [] (He.ga K "copied") fd
  f_Renamed___init__ : ∃ fd, FunD K "__init__" "Renamed.__init__" (defArgs s_Renamed___init__) (defBody s_Renamed___init__) (defScope s_Renamed___init__) [] [] (He.ma K (He.ga K "Renamed") "__init__") fd
  f_Apart___init__ : ∃ fd, FunD K "__init__" "Apart.__init__" (defArgs s_Apart___init__) (defBody s_Apart___init__) (defScope s_Apart___init__) [] [] (He.ma K (He.ga K "Apart") "__init__") fd
  f_Folded___init__ : ∃ fd, FunD K "__init__" "Folded.__init__" (defArgs s_Folded___init__) (defBody s_Folded___init__) (defScope s_Folded___init__) [] [] (He.ma K (He.ga K "Folded") "__init__") fd
  f_Spelled___init__ : ∃ fd, FunD K "__init__" "Spelled.__init__" (defArgs s_Spelled___init__) (defBody s_Spelled___init__) (defScope s_Spelled___init__) [] [] (He.ma K (He.ga K "Spelled") "__init__") fd
  f_Parted___init__ : ∃ fd, FunD K "__init__" "Parted.__init__" (defArgs s_Parted___init__) (defBody s_Parted___init__) (defScope s_Parted___init__) [] [] (He.ma K (He.ga K "Parted") "__init__") fd
  f_Within___init__ : ∃ fd, FunD K "__init__" "Within.__init__" (defArgs s_Within___init__) (defBody s_Within___init__) (defScope s_Within___init__) [] [] (He.ma K (He.ga K "Within") "__init__") fd
  f_Beyond___init__ : ∃ fd, FunD K "__init__" "Beyond.__init__" (defArgs s_Beyond___init__) (defBody s_Beyond___init__) (defScope s_Beyond___init__) [] [] (He.ma K (He.ga K "Beyond") "__init__") fd
  f_Short___init__ : ∃ fd, FunD K "__init__" "Short.__init__" (defArgs s_Short___init__) (defBody s_Short___init__) (defScope s_Short___init__) [] [] (He.ma K (He.ga K "Short") "__init__") fd
  f_Changes___init__ : ∃ fd, FunD K "__init__" "Changes.__init__" (defArgs s_Changes___init__) (defBody s_Changes___init__) (defScope s_Changes___init__) [] [] (He.ma K (He.ga K "Changes") "__init__") fd
  f_Lacking___init__ : ∃ fd, FunD K "__init__" "Lacking.__init__" (defArgs s_Lacking___init__) (defBody s_Lacking___init__) (defScope s_Lacking___init__) [] [] (He.ma K (He.ga K "Lacking") "__init__") fd
  f_Lessened___init__ : ∃ fd, FunD K "__init__" "Lessened.__init__" (defArgs s_Lessened___init__) (defBody s_Lessened___init__) (defScope s_Lessened___init__) [] [] (He.ma K (He.ga K "Lessened") "__init__") fd
  f_Had___init__ : ∃ fd, FunD K "__init__" "Had.__init__" (defArgs s_Had___init__) (defBody s_Had___init__) (defScope s_Had___init__) [] [] (He.ma K (He.ga K "Had") "__init__") fd
  f_Never___init__ : ∃ fd, FunD K "__init__" "Never.__init__" (defArgs s_Never___init__) (defBody s_Never___init__) (defScope s_Never___init__) [] [] (He.ma K (He.ga K "Never") "__init__") fd
  f_Full___init__ : ∃ fd, FunD K "__init__" "Full.__init__" (defArgs s_Full___init__) (defBody s_Full___init__) (defScope s_Full___init__) [] [] (He.ma K (He.ga K "Full") "__init__") fd
  f_Colours___init__ : ∃ fd, FunD K "__init__" "Colours.__init__" (defArgs s_Colours___init__) (defBody s_Colours___init__) (defScope s_Colours___init__) [] [] (He.ma K (He.ga K "Colours") "__init__") fd
  f_OddWay___init__ : ∃ fd, FunD K "__init__" "OddWay.__init__" (defArgs s_OddWay___init__) (defBody s_OddWay___init__) (defScope s_OddWay___init__) [] [] (He.ma K (He.ga K "OddWay") "__init__") fd
  f_Ladder___init__ : ∃ fd, FunD K "__init__" "Ladder.__init__" (defArgs s_Ladder___init__) (defBody s_Ladder___init__) (defScope s_Ladder___init__) [] [] (He.ma K (He.ga K "Ladder") "__init__") fd
  f_Made___init__ : ∃ fd, FunD K "__init__" "Made.__init__" (defArgs s_Made___init__) (defBody s_Made___init__) (defScope s_Made___init__) [] [] (He.ma K (He.ga K "Made") "__init__") fd
  f_Outside___init__ : ∃ fd, FunD K "__init__" "Outside.__init__" (defArgs s_Outside___init__) (defBody s_Outside___init__) (defScope s_Outside___init__) [] [] (He.ma K (He.ga K "Outside") "__init__") fd
  f_Great___init__ : ∃ fd, FunD K "__init__" "Great.__init__" (defArgs s_Great___init__) (defBody s_Great___init__) (defScope s_Great___init__) [] [] (He.ma K (He.ga K "Great") "__init__") fd
  f_Small___init__ : ∃ fd, FunD K "__init__" "Small.__init__" (defArgs s_Small___init__) (defBody s_Small___init__) (defScope s_Small___init__) [] [] (He.ma K (He.ga K "Small") "__init__") fd
  f_TieParts___init__ : ∃ fd, FunD K "__init__" "TieParts.__init__" (defArgs s_TieParts___init__) (defBody s_TieParts___init__) (defScope s_TieParts___init__) [] [] (He.ma K (He.ga K "TieParts") "__init__") fd
  f_Moves___init__ : ∃ fd, FunD K "__init__" "Moves.__init__" (defArgs s_Moves___init__) (defBody s_Moves___init__) (defScope s_Moves___init__) [] [] (He.ma K (He.ga K "Moves") "__init__") fd
  f_Kept___init__ : ∃ fd, FunD K "__init__" "Kept.__init__" (defArgs s_Kept___init__) (defBody s_Kept___init__) (defScope s_Kept___init__) [] [] (He.ma K (He.ga K "Kept") "__init__") fd
  f_Bounded___init__ : ∃ fd, FunD K "__init__" "Bounded.__init__" (defArgs s_Bounded___init__) (defBody s_Bounded___init__) (defScope s_Bounded___init__) [] [] (He.ma K (He.ga K "Bounded") "__init__") fd
  f_Crossed___init__ : ∃ fd, FunD K "__init__" "Crossed.__init__" (defArgs s_Crossed___init__) (defBody s_Crossed___init__) (defScope s_Crossed___init__) [] [] (He.ma K (He.ga K "Crossed") "__init__") fd
  f_Step___init__ : ∃ fd, FunD K "__init__" "Step.__init__" (defArgs s_Step___init__) (defBody s_Step___init__) (defScope s_Step___init__) [] [] (He.ma K (He.ga K "Step") "__init__") fd
  f_Loop___init__ : ∃ fd, FunD K "__init__" "Loop.__init__" (defArgs s_Loop___init__) (defBody s_Loop___init__) (defScope s_Loop___init__) [] [] (He.ma K (He.ga K "Loop") "__init__") fd
  f_Cover___init__ : ∃ fd, FunD K "__init__" "Cover.__init__" (defArgs s_Cover___init__) (defBody s_Cover___init__) (defScope s_Cover___init__) [] [] (He.ma K (He.ga K "Cover") "__init__") fd
  f_Closed___init__ : ∃ fd, FunD K "__init__" "Closed.__init__" (defArgs s_Closed___init__) (defBody s_Closed___init__) (defScope s_Closed___init__) [] [] (He.ma K (He.ga K "Closed") "__init__") fd
  f__law_pen : ∃ fd, FunD K "_law_pen" "_law_pen" (defArgs s__law_pen) (defBody s__law_pen) (defScope s__law_pen) [] [] (He.ga K "_law_pen") fd
  f__law_draw : ∃ fd, FunD K "_law_draw" "_law_draw" (defArgs s__law_draw) (defBody s__law_draw) (defScope s__law_draw) [] [] (He.ga K "_law_draw") fd
  f__law_pick : ∃ fd, FunD K "_law_pick" "_law_pick" (defArgs s__law_pick) (defBody s__law_pick) (defScope s__law_pick) [] [] (He.ga K "_law_pick") fd
  f__law_made_a : ∃ fd, FunD K "_law_made_a" "_law_made_a" (defArgs s__law_made_a) (defBody s__law_made_a) (defScope s__law_made_a) [] [] (He.ga K "_law_made_a") fd
  f__law_made_b : ∃ fd, FunD K "_law_made_b" "_law_made_b" (defArgs s__law_made_b) (defBody s__law_made_b) (defScope s__law_made_b) [] [] (He.ga K "_law_made_b") fd
  f__law_made_c : ∃ fd, FunD K "_law_made_c" "_law_made_c" (defArgs s__law_made_c) (defBody s__law_made_c) (defScope s__law_made_c) [] [] (He.ga K "_law_made_c") fd
  f__law_value : ∃ fd, FunD K "_law_value" "_law_value" (defArgs s__law_value) (defBody s__law_value) (defScope s__law_value) [] [] (He.ga K "_law_value") fd
  f__law_copy : ∃ fd, FunD K "_law_copy" "_law_copy" (defArgs s__law_copy) (defBody s__law_copy) (defScope s__law_copy) [] [] (He.ga K "_law_copy") fd
  f_law : ∃ fd, FunD K "law" "law" (defArgs s_law) (defBody s_law) (defScope s_law) [] [] (He.ga K "law") fd
  g_copied : mg "copied" = some (.ref (He.ga K "copied"))
  g__law_pen : mg "_law_pen" = some (.ref (He.ga K "_law_pen"))
  g__law_draw : mg "_law_draw" = some (.ref (He.ga K "_law_draw"))
  g__law_pick : mg "_law_pick" = some (.ref (He.ga K "_law_pick"))
  g__law_made_a : mg "_law_made_a" = some (.ref (He.ga K "_law_made_a"))
  g__law_made_b : mg "_law_made_b" = some (.ref (He.ga K "_law_made_b"))
  g__law_made_c : mg "_law_made_c" = some (.ref (He.ga K "_law_made_c"))
  g__law_value : mg "_law_value" = some (.ref (He.ga K "_law_value"))
  g__law_copy : mg "_law_copy" = some (.ref (He.ga K "_law_copy"))
  g_law : mg "law" = some (.ref (He.ga K "law"))
  n_len : mg "len" = none
  n_int : mg "int" = none
  n_list : mg "list" = none
  n_tuple : mg "tuple" = none
  n_isinstance : mg "isinstance" = none
  n_repr : mg "repr" = none
  n_range : mg "range" = none
  mods : ModsIn K
  g_Renamed : mg "Renamed" = some (.ref (He.ga K "Renamed"))
  g_Apart : mg "Apart" = some (.ref (He.ga K "Apart"))
  g_Folded : mg "Folded" = some (.ref (He.ga K "Folded"))
  g_Spelled : mg "Spelled" = some (.ref (He.ga K "Spelled"))
  g_Parted : mg "Parted" = some (.ref (He.ga K "Parted"))
  g_Within : mg "Within" = some (.ref (He.ga K "Within"))
  g_Beyond : mg "Beyond" = some (.ref (He.ga K "Beyond"))
  g_Short : mg "Short" = some (.ref (He.ga K "Short"))
  g_Changes : mg "Changes" = some (.ref (He.ga K "Changes"))
  g_Lacking : mg "Lacking" = some (.ref (He.ga K "Lacking"))
  g_Lessened : mg "Lessened" = some (.ref (He.ga K "Lessened"))
  g_Had : mg "Had" = some (.ref (He.ga K "Had"))
  g_Never : mg "Never" = some (.ref (He.ga K "Never"))
  g_Full : mg "Full" = some (.ref (He.ga K "Full"))
  g_Colours : mg "Colours" = some (.ref (He.ga K "Colours"))
  g_OddWay : mg "OddWay" = some (.ref (He.ga K "OddWay"))
  g_Ladder : mg "Ladder" = some (.ref (He.ga K "Ladder"))
  g_Made : mg "Made" = some (.ref (He.ga K "Made"))
  g_Outside : mg "Outside" = some (.ref (He.ga K "Outside"))
  g_Great : mg "Great" = some (.ref (He.ga K "Great"))
  g_Small : mg "Small" = some (.ref (He.ga K "Small"))
  g_TieParts : mg "TieParts" = some (.ref (He.ga K "TieParts"))
  g_Moves : mg "Moves" = some (.ref (He.ga K "Moves"))
  g_Kept : mg "Kept" = some (.ref (He.ga K "Kept"))
  g_Bounded : mg "Bounded" = some (.ref (He.ga K "Bounded"))
  g_Crossed : mg "Crossed" = some (.ref (He.ga K "Crossed"))
  g_Step : mg "Step" = some (.ref (He.ga K "Step"))
  g_Loop : mg "Loop" = some (.ref (He.ga K "Loop"))
  g_Cover : mg "Cover" = some (.ref (He.ga K "Cover"))
  g_Closed : mg "Closed" = some (.ref (He.ga K "Closed"))
  c_Renamed : CF K (He.ga K "Renamed") ["turn"]
  c_Apart : CF K (He.ga K "Apart") ["words"]
  c_Folded : CF K (He.ga K "Folded") ["over", "places", "ways"]
  c_Spelled : CF K (He.ga K "Spelled") ["row"]
  c_Parted : CF K (He.ga K "Parted") ["sheeting"]
  c_Within : CF K (He.ga K "Within") ["rows"]
  c_Beyond : CF K (He.ga K "Beyond") ["number", "sheeting"]
  c_Short : CF K (He.ga K "Short") ["changes", "row"]
  c_Changes : CF K (He.ga K "Changes") ["row"]
  c_Lacking : CF K (He.ga K "Lacking") ["letter", "sheeting"]
  c_Lessened : CF K (He.ga K "Lessened") ["rows", "ring"]
  c_Had : CF K (He.ga K "Had") ["turns"]
  c_Never : CF K (He.ga K "Never") ["reason"]
  c_Full : CF K (He.ga K "Full") ["turns"]
  c_Colours : CF K (He.ga K "Colours") ["row"]
  c_OddWay : CF K (He.ga K "OddWay") ["darts"]
  c_Ladder : CF K (He.ga K "Ladder") ["base", "levels"]
  c_Made : CF K (He.ga K "Made") ["word"]
  c_Outside : CF K (He.ga K "Outside") ["ladder", "level", "rest"]
  c_Great : CF K (He.ga K "Great") ["odd", "word"]
  c_Small : CF K (He.ga K "Small") ["ladder"]
  c_TieParts : CF K (He.ga K "TieParts") ["tree", "far", "rest"]
  c_Moves : CF K (He.ga K "Moves") ["moves"]
  c_Kept : CF K (He.ga K "Kept") ["what"]
  c_Bounded : CF K (He.ga K "Bounded") ["numbers"]
  c_Crossed : CF K (He.ga K "Crossed") ["other"]
  c_Step : CF K (He.ga K "Step") ["names"]
  c_Loop : CF K (He.ga K "Loop") ["word"]
  c_Cover : CF K (He.ga K "Cover") ["sheeting", "first", "second"]
  c_Closed : CF K (He.ga K "Closed") ["sheeting", "names"]

section
variable {P : Program} {w : World} {K : PySem.W.Frag} {mg : Str → Option Value} {base : Heap}
theorem pr__law_pen (T : Fx K mg) : Pr P w K mg base CX0 1 (He.ga K "_law_pen") ["script"] (spPen K) := by
  obtain ⟨fd, F⟩ := T.f__law_pen
  refine ⟨fd, F.ok sc__law_pen (fun vs H Q E h => ?_) (fun cdv A outer s H vs Q E hr h => ⟨_, PSs.nox (pss_cons (ps_set (i := 1) sc__law_pen.nd rfl (by first | exact Or.inl rfl | exact Or.inr rfl) pe_int)
      (pss_cons (ps_for PassesOwn.never rfl (pi_list (pv 0)) (pg_name (i := 2) sc__law_pen.nd rfl (by first | exact Or.inl rfl | exact Or.inr rfl)) (pss_one (ps_set (i := 1) sc__law_pen.nd rfl (by first | exact Or.inl rfl | exact Or.inr rfl) (pe_op op_mod (pe_callTy call_int1 (by rfl) T.n_int (by decide +kernel) (pa_cons (pe_op op_add (pe_op op_mul (pv 1) pe_int) (pv 2)) pa_nil)) pe_int))))
      (pss_one (ps_ret (pe_disp (pps_cons pe_str (pe_callTy call_list_of (by rfl) T.n_list (by decide +kernel) (pa_cons (pv 0) pa_nil)) (pps_cons pe_str pe_int (pps_cons pe_str pe_int (pps_cons pe_str pe_int (pps_cons pe_str (pv 1) pps_nil))))) (by rfl) (by rfl) (fun z => by cases z) (by decide)))))), ?_⟩), F.bindsN (fun _ _ _ _ _ _ us hl => match us, hl with | [_], _ => rfl), F.kp⟩
  · obtain ⟨_, _, rfl, _⟩ := h
    rfl
  obtain ⟨a, ns, rfl, hS, hl, hQ⟩ := h
  refine ⟨_, rfl, a, rfl, ⟨_, hS⟩, for_list (xs := ns.map V.int) (fun _ σ H' => H' = H ∧ ∃ (f : Int) (o : Option V), σ = [some (.ref a), some (.int f), o] ∧ 0 ≤ f ∧ f < 2147483648) ⟨rfl, 0, none, rfl, by decide, by decide⟩ (fun i σ H' _ h => by obtain ⟨rfl, _⟩ := h; exact hS) ?_ ?_⟩
  · rintro i x σ H' hx ⟨rfl, f, o, rfl, f0, f1⟩
    rw [List.getElem?_map] at hx
    obtain ⟨z, _, rfl⟩ := Option.map_eq_some_iff.mp hx
    refine ⟨_, rfl, _, _, rfl, rfl, .inl ⟨by omega, by omega⟩, _, rfl, _, _, rfl, rfl, .inl ⟨_, rfl, _, _, rfl, rfl, (by decide : (0 : Int) < 999999937), rfl, _, _, rfl, ?_, ?_⟩⟩
    · exact Int.emod_nonneg _ (by decide)
    · exact Int.lt_trans (Int.emod_lt_of_pos _ (by decide)) (by decide)
  · rintro σ H' ⟨rfl, f, o, rfl, f0, f1⟩
    intro p hp
    refine ⟨_, rfl, _, _, rfl, .inl (Same.seq (sameNew hp) hS), fun l hl' => ?_⟩
    refine ⟨_, rfl, ?_, [(.inr "cells", .ref l), (.inr "at", .int 0), (.inr "digits", .int 0), (.inr "count", .int 0), (.inr "fold", .int f)], rfl, (show 5 ≤ 15 by decide), ?_⟩
    · exact (upd_ne (ne_of_none (upd_same ..) hl')).trans (upd_same ..)
    · have hpl : p ≠ l := ne_of_none (upd_same ..) hl'
      have hl0 : H' l = none := (upd_ne hpl.symm).symm.trans hl'
      refine hQ _ p l ?_ hp hl0 ⟨0, 0, 0, f, ns, (upd_same ..).trans (congrArg some (congrArg HO.dK merge_pen)), ?_, by decide, by decide, ⟨by decide, by decide⟩, f0, f1⟩
      · intro b o e
        rw [upd_ne (ne_of_none e hp), upd_ne (ne_of_none e hl0), upd_ne (ne_of_none e hp)]
        exact e
      · rw [upd_ne hpl.symm]
        exact upd_same ..
theorem pr__law_draw (T : Fx K mg) : Pr P w K mg base CX0 1 (He.ga K "_law_draw") ["pen", "many"] spDraw := by
  obtain ⟨fd, F⟩ := T.f__law_draw
  refine ⟨fd, F.ok sc__law_draw (fun vs H Q E h => ?_) (fun cdv A outer s H vs Q E hr h => ⟨_, PSs.nox (pss_cons (ps_dput (hu_of hr) (pv 0) pe_str (pe_op op_add (pe_dget (hu_of hr) (pv 0) pe_str (fun _ _ => rfl)) pe_int) rfl)
      (C8.pss_cut (ps_if (PW.pt (pw_and (pt_cmpR op_eq (pe_dget (hu_of hr) (pv 0) pe_str (fun _ _ => rfl)) pe_int (nomark _)) (pw_and1 (pt_cmpR op_lt (pe_dget (hu_of hr) (pv 0) pe_str (fun _ _ => rfl)) (pe_callB call_len_seq (by rfl) T.n_len (by decide +kernel) (pa_cons (pe_dget (hu_of hr) (pv 0) pe_str (fun _ _ => rfl)) pa_nil)) (nomark _))))) (pss_cons (ps_set (i := 2) sc__law_draw.nd rfl (by first | exact Or.inl rfl | exact Or.inr rfl) (pe_ix ix_list (pe_dget (hu_of hr) (pv 0) pe_str (fun _ _ => rfl)) (pe_dget (hu_of hr) (pv 0) pe_str (fun _ _ => rfl)) (fun _ _ => rfl)))
      (pss_cons (ps_dput (hu_of hr) (pv 0) pe_str (pe_op op_add (pe_dget (hu_of hr) (pv 0) pe_str (fun _ _ => rfl)) pe_int) rfl)
      (pss_one (ps_if (pt_cmpR op_ge (pv 2) (pe_op op_pow pe_int pe_int) (nomark _)) (pss_one (ps_dput (hu_of hr) (pv 0) pe_str (pe_op op_sub (pv 2) (pe_op op_pow pe_int pe_int)) rfl)) (pss_one (ps_dput (hu_of hr) (pv 0) pe_str (pe_op op_mod (pe_callTy call_int1 (by rfl) T.n_int (by decide +kernel) (pa_cons (pe_op op_add (pe_op op_mul (pe_dget (hu_of hr) (pv 0) pe_str (fun _ _ => rfl)) pe_int) (pv 2)) pa_nil)) pe_int) rfl)))))) pss_nil)
      (pss_cons (ps_if (pt_cmpR op_gt (pe_dget (hu_of hr) (pv 0) pe_str (fun _ _ => rfl)) pe_int (nomark _)) (pss_cons (ps_set (i := 3) sc__law_draw.nd rfl (by first | exact Or.inl rfl | exact Or.inr rfl) (pe_op op_mod (pe_callTy call_int1 (by rfl) T.n_int (by decide +kernel) (pa_cons (pe_dget (hu_of hr) (pv 0) pe_str (fun _ _ => rfl)) pa_nil)) (pv 1)))
      (pss_cons (ps_dput (hu_of hr) (pv 0) pe_str (pe_op op_fdivN (pe_dget (hu_of hr) (pv 0) pe_str (fun _ _ => rfl)) (pv 1)) rfl)
      (pss_one (ps_ret (pv 3))))) pss_nil)
      (pss_cons (ps_set (i := 4) sc__law_draw.nd rfl (by first | exact Or.inl rfl | exact Or.inr rfl) (pe_op op_add (pe_op op_add (pe_dget (hu_of hr) (pv 0) pe_str (fun _ _ => rfl)) (pe_op op_mul (pe_dget (hu_of hr) (pv 0) pe_str (fun _ _ => rfl)) pe_int)) pe_int))
      (pss_one (ps_ret (pe_op op_mod (pe_op op_fdiv (pe_callTy call_int1 (by rfl) T.n_int (by decide +kernel) (pa_cons (pe_op op_mod (pe_op op_pow (pv 4) pe_int) pe_int) pa_nil)) pe_int) (pv 1)))))))), ?_⟩), F.bindsN (fun _ _ _ _ _ _ us hl => match us, hl with | [_, _], _ => rfl), F.kp⟩
  · obtain ⟨_, _, _, _, rfl, _⟩ := h
    rfl
  obtain ⟨p, c, m, n, rfl, m0, m1, ⟨a, d, i, f, cells, hp, hc, a0, d0, ⟨i0, i1⟩, f0, f1⟩, hn, hQ⟩ := h
  have hcp : c ≠ p := ne_of hc hp (by intro z; cases z)
  refine ⟨_, rfl, _, _, rfl, dg_count hp, _, _, rfl, rfl, _, rfl, _, _, rfl, dp_count hp, ?_⟩
  refine ⟨fun σ2 H2 => ∃ (o : Option V) (a d f : Int), σ2 = [some (.ref p), some (.int m), o, none, none] ∧ 0 ≤ a ∧ 0 ≤ d ∧ 0 ≤ f ∧ f < 2147483648 ∧ But p H H2 ∧ H2 p = some (.dK (penK c a d (i + 1) f)) ∧ H2 c = some (.lst (cells.map V.int)), ?_, ?_⟩
  · have b1 : But p H (upd H p (.dK (penK c a d (i + 1) f))) := fun b u n h => (upd_ne n).trans h
    have hp1 : (upd H p (.dK (penK c a d (i + 1) f))) p = some (.dK (penK c a d (i + 1) f)) := upd_same ..
    have hc1 : (upd H p (.dK (penK c a d (i + 1) f))) c = some (.lst (cells.map V.int)) := (upd_ne hcp).trans hc
    generalize (upd H p (.dK (penK c a d (i + 1) f))) = H1 at b1 hp1 hc1 ⊢
    refine ⟨_, rfl, _, _, rfl, dg_digits hp1, rfl, _, rfl, ite2 (fun e1 => ?_) fun e1 => ?_⟩
    · refine ⟨_, rfl, _, _, rfl, dg_at hp1, _, rfl, _, _, rfl, dg_cells hp1, _, _, rfl, .inl (SqL.of hc1), _, _, rfl, rfl, _, rfl, ?_⟩
      refine ite2 (fun e2 => ?_) fun e2 => ⟨none, a, d, f, rfl, a0, d0, f0, f1, b1, hp1, hc1⟩
      have a1 : a < (cells.map V.int).length := of_decide_eq_true e2
      obtain ⟨an, rfl⟩ := Int.eq_ofNat_of_zero_le a0
      obtain ⟨z, hz⟩ : ∃ z, cells[an]? = some z := ⟨_, List.getElem?_eq_getElem (by rw [List.length_map] at a1; omega)⟩
      refine ⟨_, rfl, _, _, rfl, dg_cells hp1, _, rfl, _, _, rfl, dg_at hp1, _, _, _, _, rfl, rfl, SqL.of hc1, atI_nat (by rw [List.getElem?_map, hz]; rfl), ?_⟩
      refine ⟨_, rfl, _, _, rfl, dg_at hp1, _, _, rfl, rfl, _, rfl, _, _, rfl, dp_at hp1, ?_⟩
      have b2 : But p H (upd H1 p (.dK (penK c ((an : Int) + 1) d (i + 1) f))) := fun b u n h => (upd_ne n).trans (b1 b u n h)
      have hp2 : (upd H1 p (.dK (penK c ((an : Int) + 1) d (i + 1) f))) p = some (.dK (penK c ((an : Int) + 1) d (i + 1) f)) := upd_same ..
      have hc2 : (upd H1 p (.dK (penK c ((an : Int) + 1) d (i + 1) f))) c = some (.lst (cells.map V.int)) := (upd_ne hcp).trans hc1
      generalize (upd H1 p (.dK (penK c ((an : Int) + 1) d (i + 1) f))) = H2 at b2 hp2 hc2 ⊢
      refine ⟨_, rfl, _, _, rfl, rfl, ⟨by decide, by decide, by decide⟩, _, _, rfl, rfl, _, rfl, ite2 (fun e3 => ?_) fun e3 => ?_⟩
      · have e3' : (10 : Int) ^ (18 : Int).toNat ≤ z := of_decide_eq_true e3
        refine ⟨_, rfl, _, _, rfl, rfl, ⟨by decide, by decide, by decide⟩, _, _, rfl, rfl, _, rfl, _, _, rfl, dp_digits hp2, ?_⟩
        exact ⟨_, _, _, _, rfl, by omega, by omega, f0, f1, fun b u n h => (upd_ne n).trans (b2 b u n h), upd_same .., (upd_ne hcp).trans hc2⟩
      · refine ⟨_, rfl, _, _, rfl, dg_fold hp2, _, _, rfl, rfl, .inl ⟨by omega, by omega⟩, _, rfl, _, _, rfl, rfl, .inl ⟨_, rfl, _, _, rfl, rfl, (by decide : (0 : Int) < 2147483423), _, rfl, _, _, rfl, dp_fold hp2, ?_⟩⟩
        refine ⟨_, _, _, _, rfl, by omega, d0, Int.emod_nonneg _ (by decide), Int.lt_trans (Int.emod_lt_of_pos _ (by decide)) (by decide), fun b u n h => (upd_ne n).trans (b2 b u n h), upd_same .., (upd_ne hcp).trans hc2⟩
    · exact iteF ⟨none, a, d, f, rfl, a0, d0, f0, f1, b1, hp1, hc1⟩
  · rintro σ2 H2 ⟨o, a, d, f, rfl, a0, d0, f0, f1, b2, hp2, hc2⟩
    refine ⟨_, rfl, _, _, rfl, dg_digits hp2, _, _, rfl, rfl, _, rfl, ite2 (fun e1 => ?_) fun e1 => ?_⟩
    · refine ⟨_, rfl, _, _, rfl, dg_digits hp2, .inl ⟨_, rfl, _, rfl, _, _, rfl, rfl, m0, ?_⟩⟩
      refine ⟨_, rfl, _, _, rfl, dg_digits hp2, _, rfl, _, _, rfl, rfl, ⟨by omega, by omega⟩, _, rfl, _, _, rfl, dp_digits hp2, _, rfl, ?_⟩
      exact hQ _ _ (Int.emod_nonneg _ (by omega)) (Int.emod_lt_of_pos _ m0) (fun b u n h => (upd_ne n).trans (b2 b u n h))
        ⟨_, _, _, _, _, upd_same .., (upd_ne hcp).trans hc2, a0, Int.fdiv_nonneg d0 (by omega), ⟨by omega, by omega⟩, f0, f1⟩
    · refine ⟨_, rfl, _, _, rfl, dg_fold hp2, _, rfl, _, _, rfl, dg_count hp2, _, _, rfl, rfl, .inl ⟨by omega, by omega⟩, _, _, rfl, rfl, _, _, rfl, rfl, ?_⟩
      refine ⟨_, rfl, _, _, rfl, rfl, ⟨by decide, by decide, by omega⟩, _, _, rfl, rfl, (by decide : (0 : Int) < 2305843009213693951), .inl ⟨_, rfl, _, _, rfl, rfl, ⟨by decide, by decide⟩, _, rfl, _, _, rfl, rfl, m0, ?_⟩⟩
      exact hQ _ _ (Int.emod_nonneg _ (by omega)) (Int.emod_lt_of_pos _ m0) b2 ⟨_, _, _, _, _, hp2, hc2, a0, d0, ⟨by omega, by omega⟩, f0, f1⟩
theorem pr__law_pick (T : Fx K mg) : Pr P w K mg base CX0 2 (He.ga K "_law_pick") ["pen", "some"] (spPick K) := by
  have C__law_draw := pr__law_draw (P := P) (w := w) (base := base) T
  obtain ⟨fd, F⟩ := T.f__law_pick
  refine ⟨fd, F.ok sc__law_pick (fun vs H Q E h => ?_) (fun cdv A outer s H vs Q E hr h => ⟨_, PSs.nox (pss_one (ps_ret (pe_ix ix_seq (pv 1) (pe_callP C__law_draw hr (by rfl) T.g__law_draw pass0 (pa_cons (pv 0) (pa_cons (pe_callB call_len_seq (by rfl) T.n_len (by decide +kernel) (pa_cons (pv 1) pa_nil)) pa_nil))) (fun _ _ => rfl)))), ?_⟩), F.bindsN (fun _ _ _ _ _ _ us hl => match us, hl with | [_, _], _ => rfl), F.kp⟩
  · obtain ⟨_, _, _, _, _, rfl, _⟩ := h
    rfl
  obtain ⟨p, c, q, xs, n, rfl, hq, ne, hl, hp, hn, hQ⟩ := h
  have l0 : 0 < xs.length := List.length_pos_iff.mpr ne
  refine ⟨_, rfl, _, rfl, _, rfl, _, _, rfl, hq, p, c, (xs.length : Int), n, rfl, by omega, by omega, hp, hn, fun r H' r0 r1 b hp' => ?_⟩
  obtain ⟨j, rfl⟩ := Int.eq_ofNat_of_zero_le r0
  obtain ⟨x, hx⟩ : ∃ x, xs[j]? = some x := ⟨_, List.getElem?_eq_getElem (by omega)⟩
  obtain ⟨kvs, hd⟩ := hp.dict
  rcases hq with hq | hq
  · exact .inl ⟨_, _, _, _, rfl, rfl, butL b hd hq, atI_nat hx, hQ j x H' hx b hp'⟩
  · exact .inr (.inl ⟨_, _, _, _, rfl, rfl, butT b hd hq, atI_nat hx, hQ j x H' hx b hp'⟩)
end
/-! ### values and their copies -/
def isL : PyData → Bool
  | .list _ => true
  | _ => false
def cp : PyData → PyData
  | .list ds => .tuple ds
  | d => d
section
variable {K : PySem.W.Frag} {pn : Addr}
inductive VIn (K : PySem.W.Frag) (pn : Addr) (H : Hp) : V → PyData → Prop
  | lst {q : Addr} {xs : List V} {ds : List PyData} : H q = some (.lst xs) → RpAll K pn H xs ds → VIn K pn H (.ref q) (.list ds)
  | oth {v : V} {d : PyData} : Rp K pn H v d → isL d = false → VIn K pn H v d
inductive VAll (K : PySem.W.Frag) (pn : Addr) (H : Hp) : List V → List PyData → Prop
  | nil : VAll K pn H [] []
  | cons {v : V} {vs : List V} {d : PyData} {ds : List PyData} : VIn K pn H v d → VAll K pn H vs ds → VAll K pn H (v :: vs) (d :: ds)
/-- u is v, a list as a tuple of its own -/
inductive Cpd (K : PySem.W.Frag) (pn : Addr) (H H' : Hp) : V → PyData → V → Prop
  | lst {q p : Addr} {xs : List V} {ds : List PyData} : H q = some (.lst xs) → RpAll K pn H xs ds → H p = none → H' p = some (.tup xs) → Cpd K pn H H' (.ref q) (.list ds) (.ref p)
  | oth {v : V} {d : PyData} : Rp K pn H v d → isL d = false → Cpd K pn H H' v d v
inductive CpAll (K : PySem.W.Frag) (pn : Addr) (H H' : Hp) : List V → List PyData → List V → Prop
  | nil : CpAll K pn H H' [] [] []
  | cons {v u : V} {vs us : List V} {d : PyData} {ds : List PyData} : Cpd K pn H H' v d u → CpAll K pn H H' vs ds us → CpAll K pn H H' (v :: vs) (d :: ds) (u :: us)
theorem VIn.same {H H' : Hp} (e : Same H H') {v : V} {d : PyData} (h : VIn K pn H v d) : VIn K pn H' v d := by
  cases h with
  | lst h1 h2 => exact .lst (e _ _ h1) (h2.same e)
  | oth h1 h2 => exact .oth (h1.same e) h2
theorem VAll.same {H H' : Hp} (e : Same H H') : ∀ {vs : List V} {ds : List PyData}, VAll K pn H vs ds → VAll K pn H' vs ds
  | _, _, .nil => .nil
  | _, _, .cons h k => .cons (h.same e) (VAll.same e k)
theorem VIn.rp {H : Hp} {v : V} {d : PyData} (h : VIn K pn H v d) : Rp K pn H v d := by
  cases h with
  | lst h1 h2 => exact .lst (SqL.of h1) h2
  | oth h1 _ => exact h1
theorem VAll.rp {H : Hp} : ∀ {vs : List V} {ds : List PyData}, VAll K pn H vs ds → RpAll K pn H vs ds
  | _, _, .nil => .nil
  | _, _, .cons h k => .cons h.rp (VAll.rp k)
theorem Cpd.mono {H H1 H2 : Hp} (e : ∀ p xs, H1 p = some (.tup xs) → H2 p = some (.tup xs)) {v u : V} {d : PyData} (h : Cpd K pn H H1 v d u) : Cpd K pn H H2 v d u := by
  cases h with
  | lst h1 h2 h3 h4 => exact .lst h1 h2 h3 (e _ _ h4)
  | oth h1 h2 => exact .oth h1 h2
theorem CpAll.mono {H H1 H2 : Hp} (e : ∀ p xs, H1 p = some (.tup xs) → H2 p = some (.tup xs)) : ∀ {vs us : List V} {ds : List PyData}, CpAll K pn H H1 vs ds us → CpAll K pn H H2 vs ds us
  | _, _, _, .nil => .nil
  | _, _, _, .cons h k => .cons (h.mono e) (CpAll.mono e k)
/-- seen from an earlier heap -/
theorem Cpd.base {H0 H H1 : Hp} (e : Same H0 H) {v u : V} {d : PyData} (i : VIn K pn H0 v d) (h : Cpd K pn H H1 v d u) : Cpd K pn H0 H1 v d u := by
  cases h with
  | lst h1 h2 h3 h4 =>
    cases i with
    | lst i1 i2 =>
      cases (e _ _ i1).symm.trans h1
      exact .lst i1 i2 (e.free h3) h4
    | oth _ i2 => cases i2
  | oth h1 h2 =>
    cases i with
    | lst i1 i2 => cases h2
    | oth i1 _ => exact .oth i1 h2
theorem CpAll.base {H0 H H1 : Hp} (e : Same H0 H) : ∀ {vs us : List V} {ds : List PyData}, VAll K pn H0 vs ds → CpAll K pn H H1 vs ds us → CpAll K pn H0 H1 vs ds us
  | _, _, _, _, .nil => .nil
  | _, _, _, .cons i j, .cons h k => .cons (h.base e i) (CpAll.base e j k)
theorem Cpd.rp {H H1 G : Hp} (e : Same H G) (t : ∀ p xs, H1 p = some (.tup xs) → G p = some (.tup xs)) {v u : V} {d : PyData} (h : Cpd K pn H H1 v d u) : Rp K pn G u (cp d) := by
  cases h with
  | lst h1 h2 h3 h4 => exact .tup (SqT.of (t _ _ h4)) (h2.same e)
  | oth h1 h2 =>
    have e1 : cp d = d := by cases d <;> first | rfl | cases h2
    rw [e1]
    exact h1.same e
theorem CpAll.rp {H H1 G : Hp} (e : Same H G) (t : ∀ p xs, H1 p = some (.tup xs) → G p = some (.tup xs)) : ∀ {vs us : List V} {ds : List PyData}, CpAll K pn H H1 vs ds us → RpAll K pn G us (ds.map cp)
  | _, _, _, .nil => .nil
  | _, _, _, .cons h k => .cons (h.rp e t) (CpAll.rp e t k)
theorem rp_ty {H : Hp} {v : V} {d : PyData} (h : Rp K pn H v d) : ∃ t, TyX K H v (.type t) ∧ kitB t "list" = some (isL d) := by
  cases h with
  | non => exact ⟨_, .base .non, by decide +kernel⟩
  | bl b => exact ⟨_, .base (.bl b), (show kitB "bool" "list" = some false by decide +kernel)⟩
  | int i => exact ⟨_, .base (.int i), (show kitB "int" "list" = some false by decide +kernel)⟩
  | str x => exact ⟨_, .base (.str x), (show kitB "str" "list" = some false by decide +kernel)⟩
  | lst h1 h2 =>
    have k : kitB "list" "list" = some true := by decide +kernel
    rcases h1 with (h1 | ⟨o, h1⟩) | ⟨o, its, n, h1, h3, _⟩
    · exact ⟨_, .base (.lst h1), k⟩
    · exact ⟨_, .base (.frz h1), k⟩
    · exact ⟨_, .kList h1 h3, k⟩
  | tup h1 h2 =>
    have k : kitB "tuple" "list" = some false := by decide +kernel
    rcases h1 with (h1 | ⟨o, h1⟩) | ⟨o, its, n, h1, h3, _⟩
    · exact ⟨_, .base (.tup h1), k⟩
    · exact ⟨_, .fTuple h1, k⟩
    · exact ⟨_, .kTuple h1 h3, k⟩
  | dic h0 h1 h2 => exact ⟨_, .base (.dK h1), (show kitB "dict" "list" = some false by decide +kernel)⟩
def spCopied (K : PySem.W.Frag) : Sp := fun vs H Q _ => ∃ (pn : Addr) (v : V) (d : PyData), vs = [v] ∧ VIn K pn H v d ∧ ∀ H' u, Same H H' → Cpd K pn H H' v d u → Q u H'
/-- the reading of: tuple(value) if isinstance(value, list) else value -/
theorem rd_copied {H : Hp} {Q : VK} {v : V} {d : PyData} (h : VIn K pn H v d) (hQ : ∀ H' u, Same H H' → Cpd K pn H H' v d u → Q u H') :
    tIf (tTest (tCB (rIsi K) (tCons (tVar 0) (tCons (tC (.ty "list")) tNil)))) (tCB (fun xs H Q => ∃ p ys, xs = [.ref p] ∧ ((SqL K H p ys ∧ ∀ l, H l = none → Q (.ref l) (upd H l (.tup ys))) ∨ (SqT K H p ys ∧ Q (.ref p) H))) (tCons (tVar 0) tNil)) (tVar 0) [some v] H Q := by
  obtain ⟨t, ty, kt⟩ := rp_ty h.rp
  refine ⟨_, rfl, _, _, _, _, _, rfl, ClsV.ty "list", ty, kit_ty kt, _, rfl, ?_⟩
  cases h with
  | lst h1 h2 => exact iteT ⟨_, rfl, _, _, rfl, .inl ⟨SqL.of h1, fun p hp => hQ _ _ (sameNew hp) (.lst h1 h2 hp (upd_same ..))⟩⟩
  | @oth v d h1 h2 =>
    show if isL d = true then _ else _
    rw [h2]
    exact iteF ⟨_, rfl, hQ _ _ (Same.refl _) (.oth h1 h2)⟩
end
section
variable {P : Program} {w : World} {K : PySem.W.Frag} {mg : Str → Option Value} {base : Heap}
theorem pr_copied (T : Fx K mg) : Pr P w K mg base CX0 1 (He.ga K "copied") ["value"] (spCopied K) := by
  obtain ⟨fd, F⟩ := T.f_copied
  refine ⟨fd, F.ok sc_copied (fun vs H Q E h => ?_) (fun cdv A outer s H vs Q E hr h => ⟨_, PSs.nox (pss_one (ps_ret (pe_ifExp (pt_val (pe_callB call_isi (by rfl) T.n_isinstance (by decide +kernel) (pa_cons (pv 0) (pa_cons (pe_bltn (v := .ty "list") (by rfl) T.n_list (by decide +kernel) rfl) pa_nil)))) (pe_callTy call_tuple_of (by rfl) T.n_tuple (by decide +kernel) (pa_cons (pv 0) pa_nil)) (pv 0)))), ?_⟩), F.bindsN (fun _ _ _ _ _ _ us hl => match us, hl with | [_], _ => rfl), F.kp⟩
  · obtain ⟨_, _, _, rfl, _⟩ := h
    rfl
  · obtain ⟨_, _, _, rfl, h1, hQ⟩ := h
    exact rd_copied h1 hQ
theorem pr__law_copy (T : Fx K mg) : Pr P w K mg base CX0 1 (He.ga K "_law_copy") ["value"] (spCopied K) := by
  obtain ⟨fd, F⟩ := T.f__law_copy
  refine ⟨fd, F.ok sc__law_copy (fun vs H Q E h => ?_) (fun cdv A outer s H vs Q E hr h => ⟨_, PSs.nox (pss_one (ps_ret (pe_ifExp (pt_val (pe_callB call_isi (by rfl) T.n_isinstance (by decide +kernel) (pa_cons (pv 0) (pa_cons (pe_bltn (v := .ty "list") (by rfl) T.n_list (by decide +kernel) rfl) pa_nil)))) (pe_callTy call_tuple_of (by rfl) T.n_tuple (by decide +kernel) (pa_cons (pv 0) pa_nil)) (pv 0)))), ?_⟩), F.bindsN (fun _ _ _ _ _ _ us hl => match us, hl with | [_], _ => rfl), F.kp⟩
  · obtain ⟨_, _, _, rfl, _⟩ := h
    rfl
  · obtain ⟨_, _, _, rfl, h1, hQ⟩ := h
    exact rd_copied h1 hQ
end
/-! ### a class's __init__ -/
structure PrK (P : Program) (w : World) (K : PySem.W.Frag) (mg : Str → Option Value) (base : Heap) (k : Nat) (f : Addr) (ps ks : List Str) (sp : Sp) : Prop where
  ex : ∃ fd, FnOk P w K mg base CX0 k f fd ps sp ∧ Binds K fd ps [] ∧ KBn K fd ps 1 ks (fun us ws => us ++ ws.reverse) (fun vs zs => vs ++ zs.reverse)
theorem rel_rev {vs zs : List V} {us ws : List Value} (h : Vals vs us) (k : Vals zs ws) : Vals (vs ++ zs.reverse) (us ++ ws.reverse) := by
  refine h.append ?_
  clear h
  induction k with
  | nil => exact .nil
  | cons r _ ih =>
    rw [List.reverse_cons, List.reverse_cons]
    exact ih.append (.cons r .nil)
section
variable {K : PySem.W.Frag} {x qual : Str} {params : Arguments} {body : List Stmt} {scope : Scope} {kws : List (Str × V)} {f : Addr} {fd : FuncData} {ps ks : List Str} {n : Nat}
theorem kbn0 (F : FunD K x qual params body scope [] kws f fd)
    (h : ∀ (kV doc pm : Value) (an : Option Addr) (cdv ct : Value) (us ws : List Value), us.length = n → ws.length = ks.length → bindArgs (PySem.W.fnOf x qual params body scope .none kV doc pm an cdv ct) ⟨us, ks.zip ws⟩ = pure (ps.zip (us ++ ws.reverse))) :
    KBn K fd ps n ks (fun us ws => us ++ ws.reverse) (fun vs zs => vs ++ zs.reverse) := by
  obtain ⟨oc, od, dV, kV, doc, pm, an, cdv, ct, osl, rfl, lk, hcd, hD, hK⟩ := F.ex
  rcases hD with ⟨_, rfl⟩ | ⟨e, _⟩
  · exact ⟨fun s us ws _ l1 l2 => .of_eq (h kV doc pm an cdv ct us ws l1 l2), fun r1 r2 => rel_rev r1 r2⟩
  · exact absurd rfl e
end
section
variable {X : Cx} {k j : Nat} {f C : Addr} {ps ks : List Str} {sp : Sp} {E : XK} {x : Str} {p pos : Pos} {kws : List Keyword} {tk : TA}
theorem pe_makeI {fi : Addr} {e : Expr} {es : List Expr} {t : TA} (M : Mk X.K C fi) (F : PrK X.prog X.w X.K X.mg X.base k fi ps ks sp) (hr : Room j X.A) (hg : Gl X x) (hm : X.mg x = some (.ref C)) (hx : Passes CX0 X E) (ha : PA X (e :: es) t) (hl : k + 1 ≤ j := by decide) (hdb : (x == ("__debug__" : Str)) = false := by decide)
    (he : starEach (e :: es) X.env = (false, eval e X.env) :: starEach es X.env := by rfl) (hpl : (backTo pos (starEach es X.env)).any (·.1) = false := by rfl) :
    PE X (.Call (.Name x p) (e :: es) [] pos) (tMake C sp [] E t) := by
  obtain ⟨fd, F, b, _⟩ := F.ex
  exact pe_make M F (hr.mono hl) hg hm b .nil hx ha hdb he hpl
theorem pe_makeKI {fi : Addr} (M : Mk X.K C fi) (F : PrK X.prog X.w X.K X.mg X.base k fi ps ks sp) (hr : Room j X.A) (hg : Gl X x) (hm : X.mg x = some (.ref C)) (hx : Passes CX0 X E) (hkw : PK X kws tk) (hl : k + 1 ≤ j := by decide)
    (hall : (backToKw pos (keywordEach kws X.env)).all (·.1.isSome) = true := by rfl) (hks : (backToKw pos (keywordEach kws X.env)).filterMap (·.1) = ks := by rfl) (hdb : (x == ("__debug__" : Str)) = false := by decide)
    (hpl : ((backTo pos (starEach [] X.env)).any (·.1) || (backToKw pos (keywordEach kws X.env)).any (·.1.isNone)) = false := by rfl) :
    PE X (.Call (.Name x p) [] kws pos) (tMakeK C 0 ks.length sp (fun vs zs => vs ++ zs.reverse) E tNil tk) := by
  obtain ⟨fd, F, _, b⟩ := F.ex
  exact pe_makeK0 M F (hr.mono hl) hg hm b hx hkw hall hks hdb hpl
end
def spInit (K : PySem.W.Frag) (C : Addr) (fs : List Str) : Sp := fun vs H Q _ => ∃ (pn a dx : Addr) (H1 : Hp) (xs : List V) (ds : List PyData), vs = .ref a :: xs ∧ xs.length = fs.length ∧ H a = some (.ins C dx []) ∧ H1 a = none ∧ Same H1 H ∧ VAll K pn H1 xs ds ∧
  ∀ H' ys, Same H1 H' → H' a = some (.ins C dx (fs.zip ys)) → CpAll K pn H1 H' xs ds ys → Q .non H'
theorem spInit_len {K : PySem.W.Frag} {C : Addr} {fs ps : List Str} (hl : ps.length = fs.length + 1) (vs : List V) (H : Hp) (Q : VK) (E : XK) (h : spInit K C fs vs H Q E) : vs.length = ps.length := by
  obtain ⟨_, _, _, _, xs, _, rfl, l, _⟩ := h
  rw [hl, ← l]
  rfl
section
variable {K : PySem.W.Frag} {pn C a dx : Addr} {H1 H : Hp} {D : Ends} {σ : L2.St} {i : Nat} {v : V} {d : PyData} {f : Str} {fs : List (Str × V)}
theorem fld_step (s : Same H1 H) (ha : H a = some (.ins C dx fs)) (na : H1 a = none) (hi : σ[i]? = some (some v)) (h0 : σ[0]? = some (some (.ref a))) (hv : VIn K pn H1 v d) (cl : Cls K C) (no : NoAttr K C f) (hl : fs.length < 1000)
    (k : ∀ H' u, Same H1 H' → Cpd K pn H1 H' v d u → H' a = some (.ins C dx (putF f u fs)) → (∀ p xs, H p = some (.tup xs) → H' p = some (.tup xs)) → D.nx σ H') :
    sFld K (tVar 0) (tCall (spCopied K) [] E0 (tCons (tVar i) tNil)) f D σ H := by
  refine ⟨_, hi, pn, v, d, rfl, hv.same s, fun H2 u e c => ⟨_, h0, a, C, dx, fs, rfl, e _ _ ha, cl, no, hl, ?_⟩⟩
  refine k _ u (sameUp (s.trans e) na) ?_ (upd_same ..) (fun p xs h => (upd_ne (ne_of h ha (fun z => nomatch z))).trans (e _ _ h))
  exact (c.base s hv).mono fun p xs h => (upd_ne (ne_of h (e _ _ ha) (fun z => nomatch z))).trans h
theorem putF2 {f g : Str} {u v : V} (h : f ≠ g) : putF g v [(f, u)] = [(f, u), (g, v)] := by
  show (if f = g then _ else _) = _
  rw [if_neg h]
  rfl
theorem putF3 {f g j : Str} {u v w : V} (h : f ≠ j) (k : g ≠ j) : putF j w [(f, u), (g, v)] = [(f, u), (g, v), (j, w)] := by
  show (if f = j then _ else _) = _
  rw [if_neg h, putF2 k]
end
section
variable {K : PySem.W.Frag} {C : Addr} {f g j : Str} {vs : List V} {H : Hp} {Q : VK} {E : XK}
theorem rd_init1 (c : CF K C [f]) (h : spInit K C [f] vs H Q E) : sFld K (tVar 0) (tCall (spCopied K) [] E0 (tCons (tVar 1) tNil)) f { nx := fun _ H' => Q .non H', rt := Q } (vs.map some) H := by
  obtain ⟨pn, a, dx, H1, xs, ds, rfl, hl, ha, na, s, hv, hQ⟩ := h
  match xs, ds, hl, hv with
  | [x], [d], _, .cons v1 .nil =>
    refine fld_step s ha na rfl rfl v1 c.cl (c.no _ (.head _)) (by decide) fun H' u s' c' ha' k => hQ H' [u] s' ha' (.cons c' .nil)
theorem rd_init2 (c : CF K C [f, g]) (hfg : f ≠ g) (h : spInit K C [f, g] vs H Q E) : tSeq (sFld K (tVar 0) (tCall (spCopied K) [] E0 (tCons (tVar 1) tNil)) f) (sFld K (tVar 0) (tCall (spCopied K) [] E0 (tCons (tVar 2) tNil)) g) { nx := fun _ H' => Q .non H', rt := Q } (vs.map some) H := by
  obtain ⟨pn, a, dx, H1, xs, ds, rfl, hl, ha, na, s, hv, hQ⟩ := h
  match xs, ds, hl, hv with
  | [x, y], [d, e], _, .cons v1 (.cons v2 .nil) =>
    refine fld_step s ha na rfl rfl v1 c.cl (c.no _ (.head _)) (by decide) fun H2 u s2 c2 ha2 k2 => ?_
    refine fld_step s2 ha2 na rfl rfl v2 c.cl (c.no _ (.tail _ (.head _))) (show 1 < 1000 by decide) fun H3 u3 s3 c3 ha3 k3 => ?_
    exact hQ H3 [u, u3] s3 (ha3.trans (congrArg (fun z => some (HO.ins C dx z)) (putF2 hfg))) (.cons (c2.mono k3) (.cons c3 .nil))
theorem rd_init3 (c : CF K C [f, g, j]) (hfg : f ≠ g) (hfj : f ≠ j) (hgj : g ≠ j) (h : spInit K C [f, g, j] vs H Q E) : tSeq (sFld K (tVar 0) (tCall (spCopied K) [] E0 (tCons (tVar 1) tNil)) f) (tSeq (sFld K (tVar 0) (tCall (spCopied K) [] E0 (tCons (tVar 2) tNil)) g)
    (sFld K (tVar 0) (tCall (spCopied K) [] E0 (tCons (tVar 3) tNil)) j)) { nx := fun _ H' => Q .non H', rt := Q } (vs.map some) H := by
  obtain ⟨pn, a, dx, H1, xs, ds, rfl, hl, ha, na, s, hv, hQ⟩ := h
  match xs, ds, hl, hv with
  | [x, y, z], [d, e, f'], _, .cons v1 (.cons v2 (.cons v3 .nil)) =>
    refine fld_step s ha na rfl rfl v1 c.cl (c.no _ (.head _)) (by decide) fun H2 u s2 c2 ha2 k2 => ?_
    refine fld_step s2 ha2 na rfl rfl v2 c.cl (c.no _ (.tail _ (.head _))) (show 1 < 1000 by decide) fun H3 u3 s3 c3 ha3 k3 => ?_
    have ha3' := ha3.trans (congrArg (fun z => some (HO.ins C dx z)) (putF2 hfg))
    refine fld_step s3 ha3' na rfl rfl v3 c.cl (c.no _ (.tail _ (.tail _ (.head _)))) (show 2 < 1000 by decide) fun H4 u4 s4 c4 ha4 k4 => ?_
    exact hQ H4 [u, u3, u4] s4 (ha4.trans (congrArg (fun z => some (HO.ins C dx z)) (putF3 hfj hgj))) (.cons (c2.mono fun p xs h => k4 _ _ (k3 _ _ h)) (.cons (c3.mono k4) (.cons c4 .nil)))
/-- an object is made: what the caller gets -/
theorem mk_of {fs : List Str} {xs : List V} {pn : Addr} {ds : List PyData} (hv : VAll K pn H xs ds) (hl : xs.length = fs.length)
    (k : ∀ r dx ys H', H r = none → Same H H' → H' r = some (.ins C dx (fs.zip ys)) → CpAll K pn H H' xs ds ys → Q (.ref r) H') :
    ∀ x dx, H x = none → H dx = none → dx ≠ x → spInit K C fs (.ref x :: xs) (upd (upd H dx (.own x)) x (.ins C dx [])) (fun v H2 => v = .non ∧ Q (.ref x) H2) E := fun x dx nx nd _ =>
  ⟨pn, x, dx, H, xs, ds, rfl, hl, upd_same .., nx, fun b o h => (upd_ne (ne_of_none h nx)).trans ((upd_ne (ne_of_none h nd)).trans h), hv, fun H' ys s ha c => ⟨rfl, k x dx ys H' nx s ha c⟩⟩
end

section
variable {P : Program} {w : World} {K : PySem.W.Frag} {mg : Str → Option Value} {base : Heap}
theorem pri_Renamed (T : Fx K mg) : PrK P w K mg base 2 (He.ma K (He.ga K "Renamed") "__init__") ["self", "turn"] ["turn"] (spInit K (He.ga K "Renamed") ["turn"]) := by
  have C_copied := pr_copied (P := P) (w := w) (base := base) T
  obtain ⟨fd, F⟩ := T.f_Renamed___init__
  exact ⟨fd, F.ok sc_Renamed___init__ (fun vs H Q E h => spInit_len rfl vs H Q E h) (fun cdv A outer s H vs Q E hr h => ⟨_, PSs.nox (pss_one (ps_fld (pv 0) (pe_callP C_copied hr (by rfl) T.g_copied pass0 (pa_cons (pv 1) pa_nil)) rfl)), by
      obtain ⟨_, _, _, _, xs, _, rfl, hl, _⟩ := id h
      match xs, hl with
      | [_], _ => exact rd_init1 T.c_Renamed h⟩), F.bindsN (fun _ _ _ _ _ _ us hl => match us, hl with | [_, _], _ => rfl),
    kbn0 F (fun _ _ _ _ _ _ us ws h1 h2 => match us, ws, h1, h2 with | [_], [_], _, _ => rfl)⟩
theorem pri_Apart (T : Fx K mg) : PrK P w K mg base 2 (He.ma K (He.ga K "Apart") "__init__") ["self", "words"] ["words"] (spInit K (He.ga K "Apart") ["words"]) := by
  have C_copied := pr_copied (P := P) (w := w) (base := base) T
  obtain ⟨fd, F⟩ := T.f_Apart___init__
  exact ⟨fd, F.ok sc_Apart___init__ (fun vs H Q E h => spInit_len rfl vs H Q E h) (fun cdv A outer s H vs Q E hr h => ⟨_, PSs.nox (pss_one (ps_fld (pv 0) (pe_callP C_copied hr (by rfl) T.g_copied pass0 (pa_cons (pv 1) pa_nil)) rfl)), by
      obtain ⟨_, _, _, _, xs, _, rfl, hl, _⟩ := id h
      match xs, hl with
      | [_], _ => exact rd_init1 T.c_Apart h⟩), F.bindsN (fun _ _ _ _ _ _ us hl => match us, hl with | [_, _], _ => rfl),
    kbn0 F (fun _ _ _ _ _ _ us ws h1 h2 => match us, ws, h1, h2 with | [_], [_], _, _ => rfl)⟩
theorem pri_Folded (T : Fx K mg) : PrK P w K mg base 2 (He.ma K (He.ga K "Folded") "__init__") ["self", "over", "places", "ways"] ["ways", "places", "over"] (spInit K (He.ga K "Folded") ["over", "places", "ways"]) := by
  have C_copied := pr_copied (P := P) (w := w) (base := base) T
  obtain ⟨fd, F⟩ := T.f_Folded___init__
  exact ⟨fd, F.ok sc_Folded___init__ (fun vs H Q E h => spInit_len rfl vs H Q E h) (fun cdv A outer s H vs Q E hr h => ⟨_, PSs.nox (pss_cons (ps_fld (pv 0) (pe_callP C_copied hr (by rfl) T.g_copied pass0 (pa_cons (pv 1) pa_nil)) rfl)
      (pss_cons (ps_fld (pv 0) (pe_callP C_copied hr (by rfl) T.g_copied pass0 (pa_cons (pv 2) pa_nil)) rfl)
      (pss_one (ps_fld (pv 0) (pe_callP C_copied hr (by rfl) T.g_copied pass0 (pa_cons (pv 3) pa_nil)) rfl)))), by
      obtain ⟨_, _, _, _, xs, _, rfl, hl, _⟩ := id h
      match xs, hl with
      | [_, _, _], _ => exact rd_init3 T.c_Folded (by decide +kernel) (by decide +kernel) (by decide +kernel) h⟩), F.bindsN (fun _ _ _ _ _ _ us hl => match us, hl with | [_, _, _, _], _ => rfl),
    kbn0 F (fun _ _ _ _ _ _ us ws h1 h2 => match us, ws, h1, h2 with | [_], [_, _, _], _, _ => rfl)⟩
theorem pri_Spelled (T : Fx K mg) : PrK P w K mg base 2 (He.ma K (He.ga K "Spelled") "__init__") ["self", "row"] ["row"] (spInit K (He.ga K "Spelled") ["row"]) := by
  have C_copied := pr_copied (P := P) (w := w) (base := base) T
  obtain ⟨fd, F⟩ := T.f_Spelled___init__
  exact ⟨fd, F.ok sc_Spelled___init__ (fun vs H Q E h => spInit_len rfl vs H Q E h) (fun cdv A outer s H vs Q E hr h => ⟨_, PSs.nox (pss_one (ps_fld (pv 0) (pe_callP C_copied hr (by rfl) T.g_copied pass0 (pa_cons (pv 1) pa_nil)) rfl)), by
      obtain ⟨_, _, _, _, xs, _, rfl, hl, _⟩ := id h
      match xs, hl with
      | [_], _ => exact rd_init1 T.c_Spelled h⟩), F.bindsN (fun _ _ _ _ _ _ us hl => match us, hl with | [_, _], _ => rfl),
    kbn0 F (fun _ _ _ _ _ _ us ws h1 h2 => match us, ws, h1, h2 with | [_], [_], _, _ => rfl)⟩
theorem pri_Parted (T : Fx K mg) : PrK P w K mg base 2 (He.ma K (He.ga K "Parted") "__init__") ["self", "sheeting"] ["sheeting"] (spInit K (He.ga K "Parted") ["sheeting"]) := by
  have C_copied := pr_copied (P := P) (w := w) (base := base) T
  obtain ⟨fd, F⟩ := T.f_Parted___init__
  exact ⟨fd, F.ok sc_Parted___init__ (fun vs H Q E h => spInit_len rfl vs H Q E h) (fun cdv A outer s H vs Q E hr h => ⟨_, PSs.nox (pss_one (ps_fld (pv 0) (pe_callP C_copied hr (by rfl) T.g_copied pass0 (pa_cons (pv 1) pa_nil)) rfl)), by
      obtain ⟨_, _, _, _, xs, _, rfl, hl, _⟩ := id h
      match xs, hl with
      | [_], _ => exact rd_init1 T.c_Parted h⟩), F.bindsN (fun _ _ _ _ _ _ us hl => match us, hl with | [_, _], _ => rfl),
    kbn0 F (fun _ _ _ _ _ _ us ws h1 h2 => match us, ws, h1, h2 with | [_], [_], _, _ => rfl)⟩
theorem pri_Within (T : Fx K mg) : PrK P w K mg base 2 (He.ma K (He.ga K "Within") "__init__") ["self", "rows"] ["rows"] (spInit K (He.ga K "Within") ["rows"]) := by
  have C_copied := pr_copied (P := P) (w := w) (base := base) T
  obtain ⟨fd, F⟩ := T.f_Within___init__
  exact ⟨fd, F.ok sc_Within___init__ (fun vs H Q E h => spInit_len rfl vs H Q E h) (fun cdv A outer s H vs Q E hr h => ⟨_, PSs.nox (pss_one (ps_fld (pv 0) (pe_callP C_copied hr (by rfl) T.g_copied pass0 (pa_cons (pv 1) pa_nil)) rfl)), by
      obtain ⟨_, _, _, _, xs, _, rfl, hl, _⟩ := id h
      match xs, hl with
      | [_], _ => exact rd_init1 T.c_Within h⟩), F.bindsN (fun _ _ _ _ _ _ us hl => match us, hl with | [_, _], _ => rfl),
    kbn0 F (fun _ _ _ _ _ _ us ws h1 h2 => match us, ws, h1, h2 with | [_], [_], _, _ => rfl)⟩
theorem pri_Beyond (T : Fx K mg) : PrK P w K mg base 2 (He.ma K (He.ga K "Beyond") "__init__") ["self", "number", "sheeting"] ["sheeting", "number"] (spInit K (He.ga K "Beyond") ["number", "sheeting"]) := by
  have C_copied := pr_copied (P := P) (w := w) (base := base) T
  obtain ⟨fd, F⟩ := T.f_Beyond___init__
  exact ⟨fd, F.ok sc_Beyond___init__ (fun vs H Q E h => spInit_len rfl vs H Q E h) (fun cdv A outer s H vs Q E hr h => ⟨_, PSs.nox (pss_cons (ps_fld (pv 0) (pe_callP C_copied hr (by rfl) T.g_copied pass0 (pa_cons (pv 1) pa_nil)) rfl)
      (pss_one (ps_fld (pv 0) (pe_callP C_copied hr (by rfl) T.g_copied pass0 (pa_cons (pv 2) pa_nil)) rfl))), by
      obtain ⟨_, _, _, _, xs, _, rfl, hl, _⟩ := id h
      match xs, hl with
      | [_, _], _ => exact rd_init2 T.c_Beyond (by decide +kernel) h⟩), F.bindsN (fun _ _ _ _ _ _ us hl => match us, hl with | [_, _, _], _ => rfl),
    kbn0 F (fun _ _ _ _ _ _ us ws h1 h2 => match us, ws, h1, h2 with | [_], [_, _], _, _ => rfl)⟩
theorem pri_Short (T : Fx K mg) : PrK P w K mg base 2 (He.ma K (He.ga K "Short") "__init__") ["self", "changes", "row"] ["row", "changes"] (spInit K (He.ga K "Short") ["changes", "row"]) := by
  have C_copied := pr_copied (P := P) (w := w) (base := base) T
  obtain ⟨fd, F⟩ := T.f_Short___init__
  exact ⟨fd, F.ok sc_Short___init__ (fun vs H Q E h => spInit_len rfl vs H Q E h) (fun cdv A outer s H vs Q E hr h => ⟨_, PSs.nox (pss_cons (ps_fld (pv 0) (pe_callP C_copied hr (by rfl) T.g_copied pass0 (pa_cons (pv 1) pa_nil)) rfl)
      (pss_one (ps_fld (pv 0) (pe_callP C_copied hr (by rfl) T.g_copied pass0 (pa_cons (pv 2) pa_nil)) rfl))), by
      obtain ⟨_, _, _, _, xs, _, rfl, hl, _⟩ := id h
      match xs, hl with
      | [_, _], _ => exact rd_init2 T.c_Short (by decide +kernel) h⟩), F.bindsN (fun _ _ _ _ _ _ us hl => match us, hl with | [_, _, _], _ => rfl),
    kbn0 F (fun _ _ _ _ _ _ us ws h1 h2 => match us, ws, h1, h2 with | [_], [_, _], _, _ => rfl)⟩
theorem pri_Changes (T : Fx K mg) : PrK P w K mg base 2 (He.ma K (He.ga K "Changes") "__init__") ["self", "row"] ["row"] (spInit K (He.ga K "Changes") ["row"]) := by
  have C_copied := pr_copied (P := P) (w := w) (base := base) T
  obtain ⟨fd, F⟩ := T.f_Changes___init__
  exact ⟨fd, F.ok sc_Changes___init__ (fun vs H Q E h => spInit_len rfl vs H Q E h) (fun cdv A outer s H vs Q E hr h => ⟨_, PSs.nox (pss_one (ps_fld (pv 0) (pe_callP C_copied hr (by rfl) T.g_copied pass0 (pa_cons (pv 1) pa_nil)) rfl)), by
      obtain ⟨_, _, _, _, xs, _, rfl, hl, _⟩ := id h
      match xs, hl with
      | [_], _ => exact rd_init1 T.c_Changes h⟩), F.bindsN (fun _ _ _ _ _ _ us hl => match us, hl with | [_, _], _ => rfl),
    kbn0 F (fun _ _ _ _ _ _ us ws h1 h2 => match us, ws, h1, h2 with | [_], [_], _, _ => rfl)⟩
theorem pri_Lacking (T : Fx K mg) : PrK P w K mg base 2 (He.ma K (He.ga K "Lacking") "__init__") ["self", "letter", "sheeting"] ["sheeting", "letter"] (spInit K (He.ga K "Lacking") ["letter", "sheeting"]) := by
  have C_copied := pr_copied (P := P) (w := w) (base := base) T
  obtain ⟨fd, F⟩ := T.f_Lacking___init__
  exact ⟨fd, F.ok sc_Lacking___init__ (fun vs H Q E h => spInit_len rfl vs H Q E h) (fun cdv A outer s H vs Q E hr h => ⟨_, PSs.nox (pss_cons (ps_fld (pv 0) (pe_callP C_copied hr (by rfl) T.g_copied pass0 (pa_cons (pv 1) pa_nil)) rfl)
      (pss_one (ps_fld (pv 0) (pe_callP C_copied hr (by rfl) T.g_copied pass0 (pa_cons (pv 2) pa_nil)) rfl))), by
      obtain ⟨_, _, _, _, xs, _, rfl, hl, _⟩ := id h
      match xs, hl with
      | [_, _], _ => exact rd_init2 T.c_Lacking (by decide +kernel) h⟩), F.bindsN (fun _ _ _ _ _ _ us hl => match us, hl with | [_, _, _], _ => rfl),
    kbn0 F (fun _ _ _ _ _ _ us ws h1 h2 => match us, ws, h1, h2 with | [_], [_, _], _, _ => rfl)⟩
theorem pri_Lessened (T : Fx K mg) : PrK P w K mg base 2 (He.ma K (He.ga K "Lessened") "__init__") ["self", "rows", "ring"] ["ring", "rows"] (spInit K (He.ga K "Lessened") ["rows", "ring"]) := by
  have C_copied := pr_copied (P := P) (w := w) (base := base) T
  obtain ⟨fd, F⟩ := T.f_Lessened___init__
  exact ⟨fd, F.ok sc_Lessened___init__ (fun vs H Q E h => spInit_len rfl vs H Q E h) (fun cdv A outer s H vs Q E hr h => ⟨_, PSs.nox (pss_cons (ps_fld (pv 0) (pe_callP C_copied hr (by rfl) T.g_copied pass0 (pa_cons (pv 1) pa_nil)) rfl)
      (pss_one (ps_fld (pv 0) (pe_callP C_copied hr (by rfl) T.g_copied pass0 (pa_cons (pv 2) pa_nil)) rfl))), by
      obtain ⟨_, _, _, _, xs, _, rfl, hl, _⟩ := id h
      match xs, hl with
      | [_, _], _ => exact rd_init2 T.c_Lessened (by decide +kernel) h⟩), F.bindsN (fun _ _ _ _ _ _ us hl => match us, hl with | [_, _, _], _ => rfl),
    kbn0 F (fun _ _ _ _ _ _ us ws h1 h2 => match us, ws, h1, h2 with | [_], [_, _], _, _ => rfl)⟩
theorem pri_Had (T : Fx K mg) : PrK P w K mg base 2 (He.ma K (He.ga K "Had") "__init__") ["self", "turns"] ["turns"] (spInit K (He.ga K "Had") ["turns"]) := by
  have C_copied := pr_copied (P := P) (w := w) (base := base) T
  obtain ⟨fd, F⟩ := T.f_Had___init__
  exact ⟨fd, F.ok sc_Had___init__ (fun vs H Q E h => spInit_len rfl vs H Q E h) (fun cdv A outer s H vs Q E hr h => ⟨_, PSs.nox (pss_one (ps_fld (pv 0) (pe_callP C_copied hr (by rfl) T.g_copied pass0 (pa_cons (pv 1) pa_nil)) rfl)), by
      obtain ⟨_, _, _, _, xs, _, rfl, hl, _⟩ := id h
      match xs, hl with
      | [_], _ => exact rd_init1 T.c_Had h⟩), F.bindsN (fun _ _ _ _ _ _ us hl => match us, hl with | [_, _], _ => rfl),
    kbn0 F (fun _ _ _ _ _ _ us ws h1 h2 => match us, ws, h1, h2 with | [_], [_], _, _ => rfl)⟩
theorem pri_Never (T : Fx K mg) : PrK P w K mg base 2 (He.ma K (He.ga K "Never") "__init__") ["self", "reason"] ["reason"] (spInit K (He.ga K "Never") ["reason"]) := by
  have C_copied := pr_copied (P := P) (w := w) (base := base) T
  obtain ⟨fd, F⟩ := T.f_Never___init__
  exact ⟨fd, F.ok sc_Never___init__ (fun vs H Q E h => spInit_len rfl vs H Q E h) (fun cdv A outer s H vs Q E hr h => ⟨_, PSs.nox (pss_one (ps_fld (pv 0) (pe_callP C_copied hr (by rfl) T.g_copied pass0 (pa_cons (pv 1) pa_nil)) rfl)), by
      obtain ⟨_, _, _, _, xs, _, rfl, hl, _⟩ := id h
      match xs, hl with
      | [_], _ => exact rd_init1 T.c_Never h⟩), F.bindsN (fun _ _ _ _ _ _ us hl => match us, hl with | [_, _], _ => rfl),
    kbn0 F (fun _ _ _ _ _ _ us ws h1 h2 => match us, ws, h1, h2 with | [_], [_], _, _ => rfl)⟩
theorem pri_Full (T : Fx K mg) : PrK P w K mg base 2 (He.ma K (He.ga K "Full") "__init__") ["self", "turns"] ["turns"] (spInit K (He.ga K "Full") ["turns"]) := by
  have C_copied := pr_copied (P := P) (w := w) (base := base) T
  obtain ⟨fd, F⟩ := T.f_Full___init__
  exact ⟨fd, F.ok sc_Full___init__ (fun vs H Q E h => spInit_len rfl vs H Q E h) (fun cdv A outer s H vs Q E hr h => ⟨_, PSs.nox (pss_one (ps_fld (pv 0) (pe_callP C_copied hr (by rfl) T.g_copied pass0 (pa_cons (pv 1) pa_nil)) rfl)), by
      obtain ⟨_, _, _, _, xs, _, rfl, hl, _⟩ := id h
      match xs, hl with
      | [_], _ => exact rd_init1 T.c_Full h⟩), F.bindsN (fun _ _ _ _ _ _ us hl => match us, hl with | [_, _], _ => rfl),
    kbn0 F (fun _ _ _ _ _ _ us ws h1 h2 => match us, ws, h1, h2 with | [_], [_], _, _ => rfl)⟩
theorem pri_Colours (T : Fx K mg) : PrK P w K mg base 2 (He.ma K (He.ga K "Colours") "__init__") ["self", "row"] ["row"] (spInit K (He.ga K "Colours") ["row"]) := by
  have C_copied := pr_copied (P := P) (w := w) (base := base) T
  obtain ⟨fd, F⟩ := T.f_Colours___init__
  exact ⟨fd, F.ok sc_Colours___init__ (fun vs H Q E h => spInit_len rfl vs H Q E h) (fun cdv A outer s H vs Q E hr h => ⟨_, PSs.nox (pss_one (ps_fld (pv 0) (pe_callP C_copied hr (by rfl) T.g_copied pass0 (pa_cons (pv 1) pa_nil)) rfl)), by
      obtain ⟨_, _, _, _, xs, _, rfl, hl, _⟩ := id h
      match xs, hl with
      | [_], _ => exact rd_init1 T.c_Colours h⟩), F.bindsN (fun _ _ _ _ _ _ us hl => match us, hl with | [_, _], _ => rfl),
    kbn0 F (fun _ _ _ _ _ _ us ws h1 h2 => match us, ws, h1, h2 with | [_], [_], _, _ => rfl)⟩
theorem pri_OddWay (T : Fx K mg) : PrK P w K mg base 2 (He.ma K (He.ga K "OddWay") "__init__") ["self", "darts"] ["darts"] (spInit K (He.ga K "OddWay") ["darts"]) := by
  have C_copied := pr_copied (P := P) (w := w) (base := base) T
  obtain ⟨fd, F⟩ := T.f_OddWay___init__
  exact ⟨fd, F.ok sc_OddWay___init__ (fun vs H Q E h => spInit_len rfl vs H Q E h) (fun cdv A outer s H vs Q E hr h => ⟨_, PSs.nox (pss_one (ps_fld (pv 0) (pe_callP C_copied hr (by rfl) T.g_copied pass0 (pa_cons (pv 1) pa_nil)) rfl)), by
      obtain ⟨_, _, _, _, xs, _, rfl, hl, _⟩ := id h
      match xs, hl with
      | [_], _ => exact rd_init1 T.c_OddWay h⟩), F.bindsN (fun _ _ _ _ _ _ us hl => match us, hl with | [_, _], _ => rfl),
    kbn0 F (fun _ _ _ _ _ _ us ws h1 h2 => match us, ws, h1, h2 with | [_], [_], _, _ => rfl)⟩
theorem pri_Ladder (T : Fx K mg) : PrK P w K mg base 2 (He.ma K (He.ga K "Ladder") "__init__") ["self", "base", "levels"] ["levels", "base"] (spInit K (He.ga K "Ladder") ["base", "levels"]) := by
  have C_copied := pr_copied (P := P) (w := w) (base := base) T
  obtain ⟨fd, F⟩ := T.f_Ladder___init__
  exact ⟨fd, F.ok sc_Ladder___init__ (fun vs H Q E h => spInit_len rfl vs H Q E h) (fun cdv A outer s H vs Q E hr h => ⟨_, PSs.nox (pss_cons (ps_fld (pv 0) (pe_callP C_copied hr (by rfl) T.g_copied pass0 (pa_cons (pv 1) pa_nil)) rfl)
      (pss_one (ps_fld (pv 0) (pe_callP C_copied hr (by rfl) T.g_copied pass0 (pa_cons (pv 2) pa_nil)) rfl))), by
      obtain ⟨_, _, _, _, xs, _, rfl, hl, _⟩ := id h
      match xs, hl with
      | [_, _], _ => exact rd_init2 T.c_Ladder (by decide +kernel) h⟩), F.bindsN (fun _ _ _ _ _ _ us hl => match us, hl with | [_, _, _], _ => rfl),
    kbn0 F (fun _ _ _ _ _ _ us ws h1 h2 => match us, ws, h1, h2 with | [_], [_, _], _, _ => rfl)⟩
theorem pri_Made (T : Fx K mg) : PrK P w K mg base 2 (He.ma K (He.ga K "Made") "__init__") ["self", "word"] ["word"] (spInit K (He.ga K "Made") ["word"]) := by
  have C_copied := pr_copied (P := P) (w := w) (base := base) T
  obtain ⟨fd, F⟩ := T.f_Made___init__
  exact ⟨fd, F.ok sc_Made___init__ (fun vs H Q E h => spInit_len rfl vs H Q E h) (fun cdv A outer s H vs Q E hr h => ⟨_, PSs.nox (pss_one (ps_fld (pv 0) (pe_callP C_copied hr (by rfl) T.g_copied pass0 (pa_cons (pv 1) pa_nil)) rfl)), by
      obtain ⟨_, _, _, _, xs, _, rfl, hl, _⟩ := id h
      match xs, hl with
      | [_], _ => exact rd_init1 T.c_Made h⟩), F.bindsN (fun _ _ _ _ _ _ us hl => match us, hl with | [_, _], _ => rfl),
    kbn0 F (fun _ _ _ _ _ _ us ws h1 h2 => match us, ws, h1, h2 with | [_], [_], _, _ => rfl)⟩
theorem pri_Outside (T : Fx K mg) : PrK P w K mg base 2 (He.ma K (He.ga K "Outside") "__init__") ["self", "ladder", "level", "rest"] ["rest", "level", "ladder"] (spInit K (He.ga K "Outside") ["ladder", "level", "rest"]) := by
  have C_copied := pr_copied (P := P) (w := w) (base := base) T
  obtain ⟨fd, F⟩ := T.f_Outside___init__
  exact ⟨fd, F.ok sc_Outside___init__ (fun vs H Q E h => spInit_len rfl vs H Q E h) (fun cdv A outer s H vs Q E hr h => ⟨_, PSs.nox (pss_cons (ps_fld (pv 0) (pe_callP C_copied hr (by rfl) T.g_copied pass0 (pa_cons (pv 1) pa_nil)) rfl)
      (pss_cons (ps_fld (pv 0) (pe_callP C_copied hr (by rfl) T.g_copied pass0 (pa_cons (pv 2) pa_nil)) rfl)
      (pss_one (ps_fld (pv 0) (pe_callP C_copied hr (by rfl) T.g_copied pass0 (pa_cons (pv 3) pa_nil)) rfl)))), by
      obtain ⟨_, _, _, _, xs, _, rfl, hl, _⟩ := id h
      match xs, hl with
      | [_, _, _], _ => exact rd_init3 T.c_Outside (by decide +kernel) (by decide +kernel) (by decide +kernel) h⟩), F.bindsN (fun _ _ _ _ _ _ us hl => match us, hl with | [_, _, _, _], _ => rfl),
    kbn0 F (fun _ _ _ _ _ _ us ws h1 h2 => match us, ws, h1, h2 with | [_], [_, _, _], _, _ => rfl)⟩
theorem pri_Great (T : Fx K mg) : PrK P w K mg base 2 (He.ma K (He.ga K "Great") "__init__") ["self", "odd", "word"] ["word", "odd"] (spInit K (He.ga K "Great") ["odd", "word"]) := by
  have C_copied := pr_copied (P := P) (w := w) (base := base) T
  obtain ⟨fd, F⟩ := T.f_Great___init__
  exact ⟨fd, F.ok sc_Great___init__ (fun vs H Q E h => spInit_len rfl vs H Q E h) (fun cdv A outer s H vs Q E hr h => ⟨_, PSs.nox (pss_cons (ps_fld (pv 0) (pe_callP C_copied hr (by rfl) T.g_copied pass0 (pa_cons (pv 1) pa_nil)) rfl)
      (pss_one (ps_fld (pv 0) (pe_callP C_copied hr (by rfl) T.g_copied pass0 (pa_cons (pv 2) pa_nil)) rfl))), by
      obtain ⟨_, _, _, _, xs, _, rfl, hl, _⟩ := id h
      match xs, hl with
      | [_, _], _ => exact rd_init2 T.c_Great (by decide +kernel) h⟩), F.bindsN (fun _ _ _ _ _ _ us hl => match us, hl with | [_, _, _], _ => rfl),
    kbn0 F (fun _ _ _ _ _ _ us ws h1 h2 => match us, ws, h1, h2 with | [_], [_, _], _, _ => rfl)⟩
theorem pri_Small (T : Fx K mg) : PrK P w K mg base 2 (He.ma K (He.ga K "Small") "__init__") ["self", "ladder"] ["ladder"] (spInit K (He.ga K "Small") ["ladder"]) := by
  have C_copied := pr_copied (P := P) (w := w) (base := base) T
  obtain ⟨fd, F⟩ := T.f_Small___init__
  exact ⟨fd, F.ok sc_Small___init__ (fun vs H Q E h => spInit_len rfl vs H Q E h) (fun cdv A outer s H vs Q E hr h => ⟨_, PSs.nox (pss_one (ps_fld (pv 0) (pe_callP C_copied hr (by rfl) T.g_copied pass0 (pa_cons (pv 1) pa_nil)) rfl)), by
      obtain ⟨_, _, _, _, xs, _, rfl, hl, _⟩ := id h
      match xs, hl with
      | [_], _ => exact rd_init1 T.c_Small h⟩), F.bindsN (fun _ _ _ _ _ _ us hl => match us, hl with | [_, _], _ => rfl),
    kbn0 F (fun _ _ _ _ _ _ us ws h1 h2 => match us, ws, h1, h2 with | [_], [_], _, _ => rfl)⟩
theorem pri_TieParts (T : Fx K mg) : PrK P w K mg base 2 (He.ma K (He.ga K "TieParts") "__init__") ["self", "tree", "far", "rest"] ["rest", "far", "tree"] (spInit K (He.ga K "TieParts") ["tree", "far", "rest"]) := by
  have C_copied := pr_copied (P := P) (w := w) (base := base) T
  obtain ⟨fd, F⟩ := T.f_TieParts___init__
  exact ⟨fd, F.ok sc_TieParts___init__ (fun vs H Q E h => spInit_len rfl vs H Q E h) (fun cdv A outer s H vs Q E hr h => ⟨_, PSs.nox (pss_cons (ps_fld (pv 0) (pe_callP C_copied hr (by rfl) T.g_copied pass0 (pa_cons (pv 1) pa_nil)) rfl)
      (pss_cons (ps_fld (pv 0) (pe_callP C_copied hr (by rfl) T.g_copied pass0 (pa_cons (pv 2) pa_nil)) rfl)
      (pss_one (ps_fld (pv 0) (pe_callP C_copied hr (by rfl) T.g_copied pass0 (pa_cons (pv 3) pa_nil)) rfl)))), by
      obtain ⟨_, _, _, _, xs, _, rfl, hl, _⟩ := id h
      match xs, hl with
      | [_, _, _], _ => exact rd_init3 T.c_TieParts (by decide +kernel) (by decide +kernel) (by decide +kernel) h⟩), F.bindsN (fun _ _ _ _ _ _ us hl => match us, hl with | [_, _, _, _], _ => rfl),
    kbn0 F (fun _ _ _ _ _ _ us ws h1 h2 => match us, ws, h1, h2 with | [_], [_, _, _], _, _ => rfl)⟩
theorem pri_Moves (T : Fx K mg) : PrK P w K mg base 2 (He.ma K (He.ga K "Moves") "__init__") ["self", "moves"] ["moves"] (spInit K (He.ga K "Moves") ["moves"]) := by
  have C_copied := pr_copied (P := P) (w := w) (base := base) T
  obtain ⟨fd, F⟩ := T.f_Moves___init__
  exact ⟨fd, F.ok sc_Moves___init__ (fun vs H Q E h => spInit_len rfl vs H Q E h) (fun cdv A outer s H vs Q E hr h => ⟨_, PSs.nox (pss_one (ps_fld (pv 0) (pe_callP C_copied hr (by rfl) T.g_copied pass0 (pa_cons (pv 1) pa_nil)) rfl)), by
      obtain ⟨_, _, _, _, xs, _, rfl, hl, _⟩ := id h
      match xs, hl with
      | [_], _ => exact rd_init1 T.c_Moves h⟩), F.bindsN (fun _ _ _ _ _ _ us hl => match us, hl with | [_, _], _ => rfl),
    kbn0 F (fun _ _ _ _ _ _ us ws h1 h2 => match us, ws, h1, h2 with | [_], [_], _, _ => rfl)⟩
theorem pri_Kept (T : Fx K mg) : PrK P w K mg base 2 (He.ma K (He.ga K "Kept") "__init__") ["self", "what"] ["what"] (spInit K (He.ga K "Kept") ["what"]) := by
  have C_copied := pr_copied (P := P) (w := w) (base := base) T
  obtain ⟨fd, F⟩ := T.f_Kept___init__
  exact ⟨fd, F.ok sc_Kept___init__ (fun vs H Q E h => spInit_len rfl vs H Q E h) (fun cdv A outer s H vs Q E hr h => ⟨_, PSs.nox (pss_one (ps_fld (pv 0) (pe_callP C_copied hr (by rfl) T.g_copied pass0 (pa_cons (pv 1) pa_nil)) rfl)), by
      obtain ⟨_, _, _, _, xs, _, rfl, hl, _⟩ := id h
      match xs, hl with
      | [_], _ => exact rd_init1 T.c_Kept h⟩), F.bindsN (fun _ _ _ _ _ _ us hl => match us, hl with | [_, _], _ => rfl),
    kbn0 F (fun _ _ _ _ _ _ us ws h1 h2 => match us, ws, h1, h2 with | [_], [_], _, _ => rfl)⟩
theorem pri_Bounded (T : Fx K mg) : PrK P w K mg base 2 (He.ma K (He.ga K "Bounded") "__init__") ["self", "numbers"] ["numbers"] (spInit K (He.ga K "Bounded") ["numbers"]) := by
  have C_copied := pr_copied (P := P) (w := w) (base := base) T
  obtain ⟨fd, F⟩ := T.f_Bounded___init__
  exact ⟨fd, F.ok sc_Bounded___init__ (fun vs H Q E h => spInit_len rfl vs H Q E h) (fun cdv A outer s H vs Q E hr h => ⟨_, PSs.nox (pss_one (ps_fld (pv 0) (pe_callP C_copied hr (by rfl) T.g_copied pass0 (pa_cons (pv 1) pa_nil)) rfl)), by
      obtain ⟨_, _, _, _, xs, _, rfl, hl, _⟩ := id h
      match xs, hl with
      | [_], _ => exact rd_init1 T.c_Bounded h⟩), F.bindsN (fun _ _ _ _ _ _ us hl => match us, hl with | [_, _], _ => rfl),
    kbn0 F (fun _ _ _ _ _ _ us ws h1 h2 => match us, ws, h1, h2 with | [_], [_], _, _ => rfl)⟩
theorem pri_Crossed (T : Fx K mg) : PrK P w K mg base 2 (He.ma K (He.ga K "Crossed") "__init__") ["self", "other"] ["other"] (spInit K (He.ga K "Crossed") ["other"]) := by
  have C_copied := pr_copied (P := P) (w := w) (base := base) T
  obtain ⟨fd, F⟩ := T.f_Crossed___init__
  exact ⟨fd, F.ok sc_Crossed___init__ (fun vs H Q E h => spInit_len rfl vs H Q E h) (fun cdv A outer s H vs Q E hr h => ⟨_, PSs.nox (pss_one (ps_fld (pv 0) (pe_callP C_copied hr (by rfl) T.g_copied pass0 (pa_cons (pv 1) pa_nil)) rfl)), by
      obtain ⟨_, _, _, _, xs, _, rfl, hl, _⟩ := id h
      match xs, hl with
      | [_], _ => exact rd_init1 T.c_Crossed h⟩), F.bindsN (fun _ _ _ _ _ _ us hl => match us, hl with | [_, _], _ => rfl),
    kbn0 F (fun _ _ _ _ _ _ us ws h1 h2 => match us, ws, h1, h2 with | [_], [_], _, _ => rfl)⟩
theorem pri_Step (T : Fx K mg) : PrK P w K mg base 2 (He.ma K (He.ga K "Step") "__init__") ["self", "names"] ["names"] (spInit K (He.ga K "Step") ["names"]) := by
  have C_copied := pr_copied (P := P) (w := w) (base := base) T
  obtain ⟨fd, F⟩ := T.f_Step___init__
  exact ⟨fd, F.ok sc_Step___init__ (fun vs H Q E h => spInit_len rfl vs H Q E h) (fun cdv A outer s H vs Q E hr h => ⟨_, PSs.nox (pss_one (ps_fld (pv 0) (pe_callP C_copied hr (by rfl) T.g_copied pass0 (pa_cons (pv 1) pa_nil)) rfl)), by
      obtain ⟨_, _, _, _, xs, _, rfl, hl, _⟩ := id h
      match xs, hl with
      | [_], _ => exact rd_init1 T.c_Step h⟩), F.bindsN (fun _ _ _ _ _ _ us hl => match us, hl with | [_, _], _ => rfl),
    kbn0 F (fun _ _ _ _ _ _ us ws h1 h2 => match us, ws, h1, h2 with | [_], [_], _, _ => rfl)⟩
theorem pri_Loop (T : Fx K mg) : PrK P w K mg base 2 (He.ma K (He.ga K "Loop") "__init__") ["self", "word"] ["word"] (spInit K (He.ga K "Loop") ["word"]) := by
  have C_copied := pr_copied (P := P) (w := w) (base := base) T
  obtain ⟨fd, F⟩ := T.f_Loop___init__
  exact ⟨fd, F.ok sc_Loop___init__ (fun vs H Q E h => spInit_len rfl vs H Q E h) (fun cdv A outer s H vs Q E hr h => ⟨_, PSs.nox (pss_one (ps_fld (pv 0) (pe_callP C_copied hr (by rfl) T.g_copied pass0 (pa_cons (pv 1) pa_nil)) rfl)), by
      obtain ⟨_, _, _, _, xs, _, rfl, hl, _⟩ := id h
      match xs, hl with
      | [_], _ => exact rd_init1 T.c_Loop h⟩), F.bindsN (fun _ _ _ _ _ _ us hl => match us, hl with | [_, _], _ => rfl),
    kbn0 F (fun _ _ _ _ _ _ us ws h1 h2 => match us, ws, h1, h2 with | [_], [_], _, _ => rfl)⟩
theorem pri_Cover (T : Fx K mg) : PrK P w K mg base 2 (He.ma K (He.ga K "Cover") "__init__") ["self", "sheeting", "first", "second"] ["second", "first", "sheeting"] (spInit K (He.ga K "Cover") ["sheeting", "first", "second"]) := by
  have C_copied := pr_copied (P := P) (w := w) (base := base) T
  obtain ⟨fd, F⟩ := T.f_Cover___init__
  exact ⟨fd, F.ok sc_Cover___init__ (fun vs H Q E h => spInit_len rfl vs H Q E h) (fun cdv A outer s H vs Q E hr h => ⟨_, PSs.nox (pss_cons (ps_fld (pv 0) (pe_callP C_copied hr (by rfl) T.g_copied pass0 (pa_cons (pv 1) pa_nil)) rfl)
      (pss_cons (ps_fld (pv 0) (pe_callP C_copied hr (by rfl) T.g_copied pass0 (pa_cons (pv 2) pa_nil)) rfl)
      (pss_one (ps_fld (pv 0) (pe_callP C_copied hr (by rfl) T.g_copied pass0 (pa_cons (pv 3) pa_nil)) rfl)))), by
      obtain ⟨_, _, _, _, xs, _, rfl, hl, _⟩ := id h
      match xs, hl with
      | [_, _, _], _ => exact rd_init3 T.c_Cover (by decide +kernel) (by decide +kernel) (by decide +kernel) h⟩), F.bindsN (fun _ _ _ _ _ _ us hl => match us, hl with | [_, _, _, _], _ => rfl),
    kbn0 F (fun _ _ _ _ _ _ us ws h1 h2 => match us, ws, h1, h2 with | [_], [_, _, _], _, _ => rfl)⟩
theorem pri_Closed (T : Fx K mg) : PrK P w K mg base 2 (He.ma K (He.ga K "Closed") "__init__") ["self", "sheeting", "names"] ["names", "sheeting"] (spInit K (He.ga K "Closed") ["sheeting", "names"]) := by
  have C_copied := pr_copied (P := P) (w := w) (base := base) T
  obtain ⟨fd, F⟩ := T.f_Closed___init__
  exact ⟨fd, F.ok sc_Closed___init__ (fun vs H Q E h => spInit_len rfl vs H Q E h) (fun cdv A outer s H vs Q E hr h => ⟨_, PSs.nox (pss_cons (ps_fld (pv 0) (pe_callP C_copied hr (by rfl) T.g_copied pass0 (pa_cons (pv 1) pa_nil)) rfl)
      (pss_one (ps_fld (pv 0) (pe_callP C_copied hr (by rfl) T.g_copied pass0 (pa_cons (pv 2) pa_nil)) rfl))), by
      obtain ⟨_, _, _, _, xs, _, rfl, hl, _⟩ := id h
      match xs, hl with
      | [_, _], _ => exact rd_init2 T.c_Closed (by decide +kernel) h⟩), F.bindsN (fun _ _ _ _ _ _ us hl => match us, hl with | [_, _, _], _ => rfl),
    kbn0 F (fun _ _ _ _ _ _ us ws h1 h2 => match us, ws, h1, h2 with | [_], [_, _], _, _ => rfl)⟩
end
end K83

namespace K83
open PySem PySem.Spec PyProof.Rows L2 Bs
/-! ### the rows of made objects -/
def hide (l : Addr) (H : Hp) : Hp := fun b => if b = l then none else H b
theorem hide_ne {l b : Addr} {H : Hp} (h : b ≠ l) : hide l H b = H b := if_neg h
theorem hide_at {l : Addr} {H : Hp} : hide l H l = none := if_pos rfl
theorem hide_some {l b : Addr} {H : Hp} {o : HO} (h : hide l H b = some o) : H b = some o ∧ b ≠ l := by
  by_cases e : b = l
  · rw [e, hide_at] at h; cases h
  · exact ⟨(hide_ne e).symm.trans h, e⟩
theorem hide_le {l : Addr} {H : Hp} : Same (hide l H) H := fun _ _ h => (hide_some h).1
theorem hide_same {l : Addr} {H H' : Hp} (e : Same H H') : Same (hide l H) (hide l H') := fun b o h => (hide_ne (hide_some h).2).trans (e _ _ (hide_some h).1)
theorem hide_upd {l : Addr} {H : Hp} {o : HO} : hide l (upd H l o) = hide l H := by
  funext b
  by_cases e : b = l
  · rw [e, hide_at, hide_at]
  · rw [hide_ne e, hide_ne e, upd_ne e]
theorem to_hide {l b : Addr} {H : Hp} {o u : HO} (h : H b = some o) (hl : H l = some u) (n : o ≠ u) : hide l H b = some o := (hide_ne (fun e => n (by rw [e, hl] at h; exact (Option.some.inj h).symm))).trans h
/-- repr can tell its copy -/
structure Sm (d : PyData) : Prop where
  sm : smD (cp d) = true
  dep : (cp d).depth ≤ 8
  wei : (cp d).weight ≤ 1000
section
variable {K : PySem.W.Frag} {pn : Addr}
def RowR (K : PySem.W.Frag) (pn : Addr) (H : Hp) (r : V) (o : Addr) : Prop :=
  ∃ (t two fi se ha C1 C2 d1 d2 : Addr) (g1 g2 : List (Str × V)) (xs1 xs2 hs : List V) (ds : List PyData), r = .ref t ∧ H t = some (.tup [.ref o, .ref two, .bl true, .ref fi, .ref se, .ref ha]) ∧ H o = some (.ins C1 d1 g1) ∧ H two = some (.ins C2 d2 g2) ∧
    (cmpB K C1 = true ∧ cmpB K C2 = true ∧ o ≠ two) ∧ (H fi = some (.lst xs1) ∧ RpAll K pn H xs1 (ds.map cp)) ∧ (H se = some (.lst xs2) ∧ RpAll K pn H xs2 (ds.map cp)) ∧ (H ha = some (.lst hs) ∧ VAll K pn H hs ds) ∧ (∀ d ∈ ds, Sm d) ∧ ds.length ≤ 3
inductive RowsR (K : PySem.W.Frag) (pn : Addr) (H : Hp) : List V → List Addr → Prop
  | nil : RowsR K pn H [] []
  | cons {r : V} {rs : List V} {o : Addr} {os : List Addr} : RowR K pn H r o → RowsR K pn H rs os → RowsR K pn H (r :: rs) (o :: os)
theorem RowR.same {H H' : Hp} (e : Same H H') {r : V} {o : Addr} (h : RowR K pn H r o) : RowR K pn H' r o := by
  obtain ⟨t, two, fi, se, ha, C1, C2, d1, d2, g1, g2, xs1, xs2, hs, ds, h1, h2, h3, h4, h5, ⟨h6, h7⟩, ⟨h8, h9⟩, ⟨h10, h11⟩, h12⟩ := h
  exact ⟨t, two, fi, se, ha, C1, C2, d1, d2, g1, g2, xs1, xs2, hs, ds, h1, e _ _ h2, e _ _ h3, e _ _ h4, h5, ⟨e _ _ h6, h7.same e⟩, ⟨e _ _ h8, h9.same e⟩, ⟨e _ _ h10, h11.same e⟩, h12⟩
theorem RowsR.same {H H' : Hp} (e : Same H H') : ∀ {rs : List V} {os : List Addr}, RowsR K pn H rs os → RowsR K pn H' rs os
  | _, _, .nil => .nil
  | _, _, .cons h k => .cons (h.same e) (RowsR.same e k)
theorem RowsR.append {H : Hp} : ∀ {rs ts : List V} {os us : List Addr}, RowsR K pn H rs os → RowsR K pn H ts us → RowsR K pn H (rs ++ ts) (os ++ us)
  | _, _, _, _, .nil, k => k
  | _, _, _, _, .cons h j, k => .cons h (RowsR.append j k)
theorem RowsR.length {H : Hp} : ∀ {rs : List V} {os : List Addr}, RowsR K pn H rs os → rs.length = os.length
  | _, _, .nil => rfl
  | _, _, .cons _ k => congrArg Nat.succ (RowsR.length k)
theorem RowsR.known {H : Hp} : ∀ {rs : List V} {os : List Addr}, RowsR K pn H rs os → ∀ o ∈ os, ∃ u, H o = some u
  | _, _, .nil => fun _ h => absurd h (List.not_mem_nil)
  | _, _, .cons h k => fun o m => by
    rcases List.mem_cons.mp m with rfl | m
    · obtain ⟨_, _, _, _, _, _, _, _, _, _, _, _, _, _, _, _, _, h3, _⟩ := h
      exact ⟨_, h3⟩
    · exact RowsR.known k o m
theorem RowsR.get {H : Hp} : ∀ {rs : List V} {os : List Addr} {i : Nat} {r : V}, RowsR K pn H rs os → rs[i]? = some r → ∃ o, os[i]? = some o ∧ RowR K pn H r o
  | _, _, i, _, .nil, e => by cases i <;> cases e
  | _, _, 0, _, .cons h _, e => by cases e; exact ⟨_, rfl, h⟩
  | _, _, i + 1, _, .cons _ k, e => RowsR.get (i := i) k e
structure RInv (K : PySem.W.Frag) (pn : Addr) (H0 G : Hp) (l : Addr) (rs : List V) (os : List Addr) : Prop where
  at_ : G l = some (.lst rs)
  fresh : H0 l = none
  same : Same H0 (hide l G)
  rows : RowsR K pn (hide l G) rs os
  new : ∀ o ∈ os, H0 o = none
  nd : os.Nodup
theorem RInv.start {H0 : Hp} {l : Addr} (h : H0 l = none) : RInv K pn H0 (upd H0 l (.lst [])) l [] [] :=
  ⟨upd_same .., h, by rw [hide_upd]; exact fun b o e => (hide_ne (ne_of_none e h)).trans e, .nil, fun _ z => absurd z (List.not_mem_nil), .nil⟩
/-! readings of rows of names, of fields -/
def vars : List Nat → TA
  | [] => tNil
  | i :: is => tCons (tVar i) (vars is)
def flds (K : PySem.W.Frag) (i : Nat) : List Str → TA
  | [] => tNil
  | f :: fs => tCons (tFld K (tVar i) f) (flds K i fs)
inductive VS (σ : L2.St) : List Nat → List V → Prop
  | nil : VS σ [] []
  | cons {i : Nat} {is : List Nat} {v : V} {vs : List V} : σ[i]? = some (some v) → VS σ is vs → VS σ (i :: is) (v :: vs)
theorem VS.append {σ : L2.St} : ∀ {is js : List Nat} {vs us : List V}, VS σ is vs → VS σ js us → VS σ (is ++ js) (vs ++ us)
  | _, _, _, _, .nil, k => k
  | _, _, _, _, .cons h j, k => .cons h (VS.append j k)
theorem VS.reverse {σ : L2.St} : ∀ {is : List Nat} {vs : List V}, VS σ is vs → VS σ is.reverse vs.reverse
  | _, _, .nil => .nil
  | _, _, .cons h j => by
    rw [List.reverse_cons, List.reverse_cons]
    exact (VS.reverse j).append (.cons h .nil)
theorem ta_vars {σ : L2.St} {H : Hp} {Q : List V → Hp → Prop} : ∀ {is : List Nat} {vs : List V}, VS σ is vs → Q vs H → vars is σ H Q
  | _, _, .nil, q => q
  | _, _, .cons h j, q => ⟨_, h, ta_vars (Q := fun us H' => Q (_ :: us) H') j q⟩
theorem ta_flds {σ : L2.St} {H : Hp} {i : Nat} {a C dx : Addr} {all : List (Str × V)} (hi : σ[i]? = some (some (.ref a))) (ha : H a = some (.ins C dx all)) (cl : Cls K C) :
    ∀ {fs : List Str} {ys : List V} {Q : List V → Hp → Prop}, fs.length = ys.length → (∀ p ∈ fs.zip ys, all.lookup p.1 = some p.2) → (∀ f ∈ fs, NoAttr K C f) → Q ys H → flds K i fs σ H Q
  | [], [], _, _, _, _, q => q
  | f :: fs, y :: ys, Q, hl, h, no, q => ⟨_, hi, a, C, dx, all, y, rfl, ha, cl, no f (.head _), h (f, y) (.head _),
      ta_flds hi ha cl (Q := fun us H' => Q (y :: us) H') (Nat.succ.inj hl) (fun p hp => h p (.tail _ hp)) (fun g hg => no g (.tail _ hg)) q⟩
theorem lookup_zip : ∀ {fs : List Str} {ys : List V}, fs.Nodup → ∀ p ∈ fs.zip ys, (fs.zip ys).lookup p.1 = some p.2
  | [], _, _, p, h => by cases h
  | _ :: _, [], _, p, h => by cases h
  | f :: fs, y :: ys, nd, p, h => by
    rcases List.mem_cons.mp (show p ∈ (f, y) :: fs.zip ys from h) with rfl | h
    · show List.lookup f ((f, y) :: fs.zip ys) = some y
      rw [List.lookup_cons, beq_self_eq_true]
    · have n : p.1 ≠ f := fun e => (List.nodup_cons.mp nd).1 (e ▸ (List.of_mem_zip h).1)
      show List.lookup p.1 ((f, y) :: fs.zip ys) = some p.2
      rw [List.lookup_cons, beq_eq_false_iff_ne.mpr n]
      exact lookup_zip (List.nodup_cons.mp nd).2 p h
theorem q_lst {H1 : Hp} {xs : List V} {Q : VK} (hl : xs.length ≤ sizeLine) (h : ∀ p H2, H1 p = none → Same H1 H2 → H2 p = some (.lst xs) → Q (.ref p) H2) : xs.length ≤ sizeLine ∧ ∀ p, H1 p = none → Q (.ref p) (upd H1 p (.lst xs)) :=
  ⟨hl, fun p n => h p _ n (sameNew n) (upd_same ..)⟩
theorem q_tup {H1 : Hp} {xs : List V} {Q : VK} (hl : xs.length ≤ sizeLine) (h : ∀ p H2, H1 p = none → Same H1 H2 → H2 p = some (.tup xs) → Q (.ref p) H2) : xs.length ≤ sizeLine ∧ ∀ p, H1 p = none → Q (.ref p) (upd H1 p (.tup xs)) :=
  ⟨hl, fun p n => h p _ n (sameNew n) (upd_same ..)⟩
theorem t_lst {σ : L2.St} {H : Hp} {Q : VK} {t : TA} {xs : List V} (ht : ∀ R : List V → Hp → Prop, R xs H → t σ H R) (hl : xs.length ≤ sizeLine) (h : ∀ p H2, H p = none → Same H H2 → H2 p = some (.lst xs) → Q (.ref p) H2) : tLst t σ H Q :=
  ht _ ⟨hl, fun p n => h p _ n (sameNew n) (upd_same ..)⟩
theorem CpAll.length {H H' : Hp} : ∀ {vs us : List V} {ds : List PyData}, CpAll K pn H H' vs ds us → us.length = vs.length ∧ ds.length = vs.length
  | _, _, _, .nil => ⟨rfl, rfl⟩
  | _, _, _, .cons _ k => ⟨congrArg Nat.succ (CpAll.length k).1, congrArg Nat.succ (CpAll.length k).2⟩
section
variable {H : Hp} {Q : VK} {C : Addr} {fs : List Str} {σ : L2.St} {is : List Nat} {xs : List V} {ds : List PyData}
theorem t_make (hs : VS σ is xs) (hv : VAll K pn H xs ds) (hl : xs.length = fs.length)
    (k : ∀ r dx ys H', H r = none → Same H H' → H' r = some (.ins C dx (fs.zip ys)) → CpAll K pn H H' xs ds ys → Q (.ref r) H') : tMake C (spInit K C fs) [] E0 (vars is) σ H Q := by
  refine ta_vars hs ?_
  rw [List.append_nil]
  intro x dx nx nd ne
  exact mk_of (Q := Q) hv hl k x dx nx nd ne
theorem t_makeK (hs : VS σ is xs) (hv : VAll K pn H xs ds) (hl : xs.length = fs.length)
    (k : ∀ r dx ys H', H r = none → Same H H' → H' r = some (.ins C dx (fs.zip ys)) → CpAll K pn H H' xs ds ys → Q (.ref r) H') :
    tMakeK C 0 fs.reverse.length (spInit K C fs) (fun vs zs => vs ++ zs.reverse) E0 tNil (vars is.reverse) σ H Q := by
  refine ta_vars hs.reverse ⟨rfl, by rw [List.length_reverse, List.length_reverse, hl], ?_⟩
  intro x dx nx nd ne
  show spInit K C fs ([.ref x] ++ xs.reverse.reverse) _ _ _
  rw [List.reverse_reverse]
  exact mk_of (Q := Q) hv hl k x dx nx nd ne
end
def rIsC (C : Addr) : List V → Hp → VK → Prop := fun xs H Q => ∃ a dx fs, xs = [.ref a, .ref C] ∧ H a = some (.ins C dx fs) ∧ Q (.bl true) H
theorem row_ok {R : TS} {D : Ends} {H0 G : Hp} {l C : Addr} {rs : List V} {os : List Addr} {fs : List Str} {is : List Nat} {vs : List V} {ds : List PyData} {va vb vc : V} {o4 o5 o6 o7 : Option V}
    (c : CF K C fs) (nd : fs.Nodup) (h3 : fs.length ≤ 3) (inv : RInv K pn H0 G l rs os) (hr : rs.length < 100) (hv : VAll K pn H0 vs ds) (ok : ∀ d ∈ ds, Sm d) (hl : vs.length = fs.length)
    (hvs : ∀ o4 o5 o6 o7, VS [some va, some vb, some vc, some (.ref l), o4, o5, o6, o7] is vs)
    (k : ∀ G' rs' o p4 p5 p6 p7, RInv K pn H0 G' l rs' (os ++ [o]) → rs'.length = rs.length + 1 → R D [some va, some vb, some vc, some (.ref l), p4, p5, p6, p7] G') :
    tSeq (tPar 4 5 (tCons (tMake C (spInit K C fs) [] E0 (vars is)) (tCons (tMakeK C 0 fs.reverse.length (spInit K C fs) (fun vs zs => vs ++ zs.reverse) E0 tNil (vars is.reverse)) tNil)))
      (tSeq (tPar 6 7 (tCons (tAndV (tCB (rIsC C) (tCons (tVar 4) (tCons (tC (.ref C)) tNil))) (tCB (rIsC C) (tCons (tVar 5) (tCons (tC (.ref C)) tNil)))) (tCons (tLst (flds K 4 fs)) tNil)))
        (tSeq (tDrop (tBM K "list" rAppend (tVar 3) (tCons (tTup (tCons (tVar 4) (tCons (tVar 5) (tCons (tVar 6) (tCons (tVar 7) (tCons (tLst (flds K 5 fs)) (tCons (tLst (vars is)) tNil))))))) tNil))) R)) D
      [some va, some vb, some vc, some (.ref l), o4, o5, o6, o7] G := by
  have s0 : Same H0 G := inv.same.trans hide_le
  simp only [tSeq, tPar, tCons]
  refine t_make (hvs _ _ _ _) (hv.same s0) hl fun r1 x1 ys1 G1 n1 e1 a1 c1 => ?_
  refine t_makeK (hvs _ _ _ _) (hv.same (s0.trans e1)) hl fun r2 x2 ys2 G2 n2 e2 a2 c2 => ?_
  obtain ⟨l1, l2⟩ := c1.length
  obtain ⟨l3, _⟩ := c2.length
  refine ⟨_, _, rfl, ?_⟩
  refine ⟨_, rfl, _, _, _, rfl, e2 _ _ a1, _, rfl, iteT ⟨_, rfl, _, _, _, rfl, a2, ?_⟩⟩
  refine t_lst (xs := ys1) (fun R => ta_flds (i := 4) rfl (e2 _ _ a1) c.cl (by omega) (lookup_zip nd) c.no) (Nat.le_trans (show ys1.length ≤ 3 by omega) (by decide)) fun p1 G3 f3 e3 b3 => ?_
  refine ⟨_, _, rfl, ?_⟩
  refine ⟨_, rfl, .inl ⟨rfl, _, SqL.of (e3 _ _ (e2 _ _ (e1 _ _ inv.at_)))⟩, ?_⟩
  refine ⟨_, rfl, _, rfl, _, rfl, _, rfl, ?_⟩
  refine t_lst (xs := ys2) (fun R => ta_flds (i := 5) rfl (e3 _ _ a2) c.cl (by omega) (lookup_zip nd) c.no) (Nat.le_trans (show ys2.length ≤ 3 by omega) (by decide)) fun p2 G4 f4 e4 b4 => ?_
  refine t_lst (xs := vs) (fun R => ta_vars (hvs _ _ _ _)) (Nat.le_trans (show vs.length ≤ 3 by omega) (by decide)) fun p3 G5 f5 e5 b5 => ?_
  refine ⟨(show 6 ≤ sizeLine by decide), fun t f6 => ?_⟩
  have b6 : (upd G5 t (.tup [.ref r1, .ref r2, .bl true, .ref p1, .ref p2, .ref p3])) t = some (.tup [.ref r1, .ref r2, .bl true, .ref p1, .ref p2, .ref p3]) := upd_same ..
  have e6 : Same G5 (upd G5 t (.tup [.ref r1, .ref r2, .bl true, .ref p1, .ref p2, .ref p3])) := sameNew f6
  generalize (upd G5 t (.tup [.ref r1, .ref r2, .bl true, .ref p1, .ref p2, .ref p3])) = G6 at b6 e6 ⊢
  have E5 : Same G5 G6 := e6
  have E4 : Same G4 G6 := e5.trans E5
  have E3 : Same G3 G6 := e4.trans E4
  have E2 : Same G2 G6 := e3.trans E3
  have E1 : Same G1 G6 := e2.trans E2
  have E0' : Same G G6 := e1.trans E1
  have al : G6 l = some (.lst rs) := E0' _ _ inv.at_
  refine ⟨_, _, _, rfl, rfl, al, Nat.lt_trans hr (by decide), ?_⟩
  have ne3 : ∀ {p : Addr} {H : Hp}, Same G H → H p = none → p ≠ l := fun s h z => by
    rw [z, s _ _ inv.at_] at h; cases h
  have hh : Same (hide l G) (hide l G6) := hide_same E0'
  have hb : Same H0 (hide l G6) := inv.same.trans hh
  have tu : ∀ {H : Hp}, Same H G6 → ∀ p xs, H p = some (.tup xs) → hide l G6 p = some (.tup xs) := fun s p xs h => to_hide (s _ _ h) al (fun z => nomatch z)
  have w1 := (c1.base s0 hv).rp hb (tu E1)
  have w2 := (c2.base (s0.trans e1) hv).rp hb (tu E2)
  have at6 : ∀ {p : Addr} {o : HO}, G6 p = some o → p ≠ l → hide l G6 p = some o := fun h n => (hide_ne n).trans h
  refine k _ _ r1 _ _ _ _ ⟨upd_same .., inv.fresh, by rw [hide_upd]; exact hb, ?_, ?_, ?_⟩ (by rw [List.length_append]; rfl)
  · rw [hide_upd]
    refine (inv.rows.same hh).append (.cons ?_ .nil)
    refine ⟨t, r2, p1, p2, p3, C, C, x1, x2, _, _, ys1, ys2, vs, ds, rfl, to_hide b6 al (fun z => nomatch z), to_hide (E1 _ _ a1) al (fun z => nomatch z), to_hide (E2 _ _ a2) al (fun z => nomatch z), ⟨c.cmp, c.cmp, fun z => ?_⟩, ⟨?_, w1⟩, ⟨?_, w2⟩, ⟨?_, hv.same hb⟩, ok, by omega⟩
    · rw [← z, a1] at n2; cases n2
    · exact at6 (E3 _ _ b3) (ne3 (e1.trans e2) f3)
    · exact at6 (E4 _ _ b4) (ne3 (e1.trans (e2.trans e3)) f4)
    · exact at6 (E5 _ _ b5) (ne3 (e1.trans (e2.trans (e3.trans e4))) f5)
  · intro o ho
    rcases List.mem_append.mp ho with ho | ho
    · exact inv.new o ho
    · rw [List.mem_singleton.mp ho]
      exact s0.free n1
  · refine List.nodup_append.mpr ⟨inv.nd, List.nodup_cons.mpr ⟨List.not_mem_nil, .nil⟩, fun x hx y hy z => ?_⟩
    rw [List.mem_singleton.mp hy] at z
    obtain ⟨u, hu⟩ := inv.rows.known x hx
    rw [z] at hu
    have := hide_le _ _ hu
    rw [n1] at this
    cases this
def spMade (K : PySem.W.Frag) : Sp := fun vs H Q _ => ∃ (pn : Addr) (a b c : V) (d e f : PyData), vs = [a, b, c] ∧ VAll K pn H [a, b, c] [d, e, f] ∧ (Sm d ∧ Sm e ∧ Sm f) ∧
  ∀ H' l rs os, Same H H' → H' l = some (.lst rs) → RowsR K pn H' rs os → os.Nodup → (∀ o ∈ os, H o = none) → rs.length = 10 → Q (.ref l) H'
end
section
variable {P : Program} {w : World} {K : PySem.W.Frag} {mg : Str → Option Value} {base : Heap}
theorem pr__law_made_a (T : Fx K mg) : Pr P w K mg base CX0 4 (He.ga K "_law_made_a") ["a", "b", "c"] (spMade K) := by
  have I_Short := pri_Short (P := P) (w := w) (base := base) T
  have I_Changes := pri_Changes (P := P) (w := w) (base := base) T
  have I_Lacking := pri_Lacking (P := P) (w := w) (base := base) T
  have I_Lessened := pri_Lessened (P := P) (w := w) (base := base) T
  have I_Full := pri_Full (P := P) (w := w) (base := base) T
  have I_Folded := pri_Folded (P := P) (w := w) (base := base) T
  have I_Spelled := pri_Spelled (P := P) (w := w) (base := base) T
  have I_Parted := pri_Parted (P := P) (w := w) (base := base) T
  have I_Within := pri_Within (P := P) (w := w) (base := base) T
  have I_Beyond := pri_Beyond (P := P) (w := w) (base := base) T
  obtain ⟨fd, F⟩ := T.f__law_made_a
  refine ⟨fd, F.ok sc__law_made_a (fun vs H Q E h => ?_) (fun cdv A outer s H vs Q E hr h => ⟨_, PSs.nox (pss_cons (ps_set (i := 3) sc__law_made_a.nd rfl (by first | exact Or.inl rfl | exact Or.inr rfl) (pe_lst pa_nil))
      (pss_cons (ps_par (i := 4) (j := 5) rfl sc__law_made_a.nd rfl rfl (by decide) rfl rfl (pa_cons (pe_makeI T.c_Short.mkr I_Short hr (by rfl) T.g_Short pass0 (pa_cons (pv 0) (pa_cons (pv 1) pa_nil))) (pa_cons (pe_makeKI T.c_Short.mkr I_Short hr (by rfl) T.g_Short pass0 (pk_cons (pv 1) (pk_cons (pv 0) pk_nil))) pa_nil)) (by rfl))
      (pss_cons (ps_par (i := 6) (j := 7) rfl sc__law_made_a.nd rfl rfl (by decide) rfl rfl (pa_cons (pe_and (pe_callB (C8.call_isC T.c_Short.isc) (by rfl) T.n_isinstance (by decide +kernel) (pa_cons (pv 4) (pa_cons (pe_glob (v := .ref (He.ga K "Short")) (by rfl) T.g_Short rfl) pa_nil))) (pe_one (pe_callB (C8.call_isC T.c_Short.isc) (by rfl) T.n_isinstance (by decide +kernel) (pa_cons (pv 5) (pa_cons (pe_glob (v := .ref (He.ga K "Short")) (by rfl) T.g_Short rfl) pa_nil))))) (pa_cons (pe_lst (pa_cons (pe_fld (pv 4) rfl) (pa_cons (pe_fld (pv 4) rfl) pa_nil))) pa_nil)) (by rfl))
      (pss_cons (ps_expr (pe_bm PySem.F.plainAttrs_list PySem.F.slot_list_append PySem.F.type_list_append mt_append (pv 3) (pa_cons (pe_tup (pa_cons (pv 4) (pa_cons (pv 5) (pa_cons (pv 6) (pa_cons (pv 7) (pa_cons (pe_lst (pa_cons (pe_fld (pv 5) rfl) (pa_cons (pe_fld (pv 5) rfl) pa_nil))) (pa_cons (pe_lst (pa_cons (pv 0) (pa_cons (pv 1) pa_nil))) pa_nil))))))) pa_nil)))
      (pss_cons (ps_par (i := 4) (j := 5) rfl sc__law_made_a.nd rfl rfl (by decide) rfl rfl (pa_cons (pe_makeI T.c_Changes.mkr I_Changes hr (by rfl) T.g_Changes pass0 (pa_cons (pv 0) pa_nil)) (pa_cons (pe_makeKI T.c_Changes.mkr I_Changes hr (by rfl) T.g_Changes pass0 (pk_cons (pv 0) pk_nil)) pa_nil)) (by rfl))
      (pss_cons (ps_par (i := 6) (j := 7) rfl sc__law_made_a.nd rfl rfl (by decide) rfl rfl (pa_cons (pe_and (pe_callB (C8.call_isC T.c_Changes.isc) (by rfl) T.n_isinstance (by decide +kernel) (pa_cons (pv 4) (pa_cons (pe_glob (v := .ref (He.ga K "Changes")) (by rfl) T.g_Changes rfl) pa_nil))) (pe_one (pe_callB (C8.call_isC T.c_Changes.isc) (by rfl) T.n_isinstance (by decide +kernel) (pa_cons (pv 5) (pa_cons (pe_glob (v := .ref (He.ga K "Changes")) (by rfl) T.g_Changes rfl) pa_nil))))) (pa_cons (pe_lst (pa_cons (pe_fld (pv 4) rfl) pa_nil)) pa_nil)) (by rfl))
      (pss_cons (ps_expr (pe_bm PySem.F.plainAttrs_list PySem.F.slot_list_append PySem.F.type_list_append mt_append (pv 3) (pa_cons (pe_tup (pa_cons (pv 4) (pa_cons (pv 5) (pa_cons (pv 6) (pa_cons (pv 7) (pa_cons (pe_lst (pa_cons (pe_fld (pv 5) rfl) pa_nil)) (pa_cons (pe_lst (pa_cons (pv 0) pa_nil)) pa_nil))))))) pa_nil)))
      (pss_cons (ps_par (i := 4) (j := 5) rfl sc__law_made_a.nd rfl rfl (by decide) rfl rfl (pa_cons (pe_makeI T.c_Lacking.mkr I_Lacking hr (by rfl) T.g_Lacking pass0 (pa_cons (pv 0) (pa_cons (pv 1) pa_nil))) (pa_cons (pe_makeKI T.c_Lacking.mkr I_Lacking hr (by rfl) T.g_Lacking pass0 (pk_cons (pv 1) (pk_cons (pv 0) pk_nil))) pa_nil)) (by rfl))
      (pss_cons (ps_par (i := 6) (j := 7) rfl sc__law_made_a.nd rfl rfl (by decide) rfl rfl (pa_cons (pe_and (pe_callB (C8.call_isC T.c_Lacking.isc) (by rfl) T.n_isinstance (by decide +kernel) (pa_cons (pv 4) (pa_cons (pe_glob (v := .ref (He.ga K "Lacking")) (by rfl) T.g_Lacking rfl) pa_nil))) (pe_one (pe_callB (C8.call_isC T.c_Lacking.isc) (by rfl) T.n_isinstance (by decide +kernel) (pa_cons (pv 5) (pa_cons (pe_glob (v := .ref (He.ga K "Lacking")) (by rfl) T.g_Lacking rfl) pa_nil))))) (pa_cons (pe_lst (pa_cons (pe_fld (pv 4) rfl) (pa_cons (pe_fld (pv 4) rfl) pa_nil))) pa_nil)) (by rfl))
      (pss_cons (ps_expr (pe_bm PySem.F.plainAttrs_list PySem.F.slot_list_append PySem.F.type_list_append mt_append (pv 3) (pa_cons (pe_tup (pa_cons (pv 4) (pa_cons (pv 5) (pa_cons (pv 6) (pa_cons (pv 7) (pa_cons (pe_lst (pa_cons (pe_fld (pv 5) rfl) (pa_cons (pe_fld (pv 5) rfl) pa_nil))) (pa_cons (pe_lst (pa_cons (pv 0) (pa_cons (pv 1) pa_nil))) pa_nil))))))) pa_nil)))
      (pss_cons (ps_par (i := 4) (j := 5) rfl sc__law_made_a.nd rfl rfl (by decide) rfl rfl (pa_cons (pe_makeI T.c_Lessened.mkr I_Lessened hr (by rfl) T.g_Lessened pass0 (pa_cons (pv 0) (pa_cons (pv 1) pa_nil))) (pa_cons (pe_makeKI T.c_Lessened.mkr I_Lessened hr (by rfl) T.g_Lessened pass0 (pk_cons (pv 1) (pk_cons (pv 0) pk_nil))) pa_nil)) (by rfl))
      (pss_cons (ps_par (i := 6) (j := 7) rfl sc__law_made_a.nd rfl rfl (by decide) rfl rfl (pa_cons (pe_and (pe_callB (C8.call_isC T.c_Lessened.isc) (by rfl) T.n_isinstance (by decide +kernel) (pa_cons (pv 4) (pa_cons (pe_glob (v := .ref (He.ga K "Lessened")) (by rfl) T.g_Lessened rfl) pa_nil))) (pe_one (pe_callB (C8.call_isC T.c_Lessened.isc) (by rfl) T.n_isinstance (by decide +kernel) (pa_cons (pv 5) (pa_cons (pe_glob (v := .ref (He.ga K "Lessened")) (by rfl) T.g_Lessened rfl) pa_nil))))) (pa_cons (pe_lst (pa_cons (pe_fld (pv 4) rfl) (pa_cons (pe_fld (pv 4) rfl) pa_nil))) pa_nil)) (by rfl))
      (pss_cons (ps_expr (pe_bm PySem.F.plainAttrs_list PySem.F.slot_list_append PySem.F.type_list_append mt_append (pv 3) (pa_cons (pe_tup (pa_cons (pv 4) (pa_cons (pv 5) (pa_cons (pv 6) (pa_cons (pv 7) (pa_cons (pe_lst (pa_cons (pe_fld (pv 5) rfl) (pa_cons (pe_fld (pv 5) rfl) pa_nil))) (pa_cons (pe_lst (pa_cons (pv 0) (pa_cons (pv 1) pa_nil))) pa_nil))))))) pa_nil)))
      (pss_cons (ps_par (i := 4) (j := 5) rfl sc__law_made_a.nd rfl rfl (by decide) rfl rfl (pa_cons (pe_makeI T.c_Full.mkr I_Full hr (by rfl) T.g_Full pass0 (pa_cons (pv 0) pa_nil)) (pa_cons (pe_makeKI T.c_Full.mkr I_Full hr (by rfl) T.g_Full pass0 (pk_cons (pv 0) pk_nil)) pa_nil)) (by rfl))
      (pss_cons (ps_par (i := 6) (j := 7) rfl sc__law_made_a.nd rfl rfl (by decide) rfl rfl (pa_cons (pe_and (pe_callB (C8.call_isC T.c_Full.isc) (by rfl) T.n_isinstance (by decide +kernel) (pa_cons (pv 4) (pa_cons (pe_glob (v := .ref (He.ga K "Full")) (by rfl) T.g_Full rfl) pa_nil))) (pe_one (pe_callB (C8.call_isC T.c_Full.isc) (by rfl) T.n_isinstance (by decide +kernel) (pa_cons (pv 5) (pa_cons (pe_glob (v := .ref (He.ga K "Full")) (by rfl) T.g_Full rfl) pa_nil))))) (pa_cons (pe_lst (pa_cons (pe_fld (pv 4) rfl) pa_nil)) pa_nil)) (by rfl))
      (pss_cons (ps_expr (pe_bm PySem.F.plainAttrs_list PySem.F.slot_list_append PySem.F.type_list_append mt_append (pv 3) (pa_cons (pe_tup (pa_cons (pv 4) (pa_cons (pv 5) (pa_cons (pv 6) (pa_cons (pv 7) (pa_cons (pe_lst (pa_cons (pe_fld (pv 5) rfl) pa_nil)) (pa_cons (pe_lst (pa_cons (pv 0) pa_nil)) pa_nil))))))) pa_nil)))
      (pss_cons (ps_par (i := 4) (j := 5) rfl sc__law_made_a.nd rfl rfl (by decide) rfl rfl (pa_cons (pe_makeI T.c_Folded.mkr I_Folded hr (by rfl) T.g_Folded pass0 (pa_cons (pv 0) (pa_cons (pv 1) (pa_cons (pv 2) pa_nil)))) (pa_cons (pe_makeKI T.c_Folded.mkr I_Folded hr (by rfl) T.g_Folded pass0 (pk_cons (pv 2) (pk_cons (pv 1) (pk_cons (pv 0) pk_nil)))) pa_nil)) (by rfl))
      (pss_cons (ps_par (i := 6) (j := 7) rfl sc__law_made_a.nd rfl rfl (by decide) rfl rfl (pa_cons (pe_and (pe_callB (C8.call_isC T.c_Folded.isc) (by rfl) T.n_isinstance (by decide +kernel) (pa_cons (pv 4) (pa_cons (pe_glob (v := .ref (He.ga K "Folded")) (by rfl) T.g_Folded rfl) pa_nil))) (pe_one (pe_callB (C8.call_isC T.c_Folded.isc) (by rfl) T.n_isinstance (by decide +kernel) (pa_cons (pv 5) (pa_cons (pe_glob (v := .ref (He.ga K "Folded")) (by rfl) T.g_Folded rfl) pa_nil))))) (pa_cons (pe_lst (pa_cons (pe_fld (pv 4) rfl) (pa_cons (pe_fld (pv 4) rfl) (pa_cons (pe_fld (pv 4) rfl) pa_nil)))) pa_nil)) (by rfl))
      (pss_cons (ps_expr (pe_bm PySem.F.plainAttrs_list PySem.F.slot_list_append PySem.F.type_list_append mt_append (pv 3) (pa_cons (pe_tup (pa_cons (pv 4) (pa_cons (pv 5) (pa_cons (pv 6) (pa_cons (pv 7) (pa_cons (pe_lst (pa_cons (pe_fld (pv 5) rfl) (pa_cons (pe_fld (pv 5) rfl) (pa_cons (pe_fld (pv 5) rfl) pa_nil)))) (pa_cons (pe_lst (pa_cons (pv 0) (pa_cons (pv 1) (pa_cons (pv 2) pa_nil)))) pa_nil))))))) pa_nil)))
      (pss_cons (ps_par (i := 4) (j := 5) rfl sc__law_made_a.nd rfl rfl (by decide) rfl rfl (pa_cons (pe_makeI T.c_Spelled.mkr I_Spelled hr (by rfl) T.g_Spelled pass0 (pa_cons (pv 0) pa_nil)) (pa_cons (pe_makeKI T.c_Spelled.mkr I_Spelled hr (by rfl) T.g_Spelled pass0 (pk_cons (pv 0) pk_nil)) pa_nil)) (by rfl))
      (pss_cons (ps_par (i := 6) (j := 7) rfl sc__law_made_a.nd rfl rfl (by decide) rfl rfl (pa_cons (pe_and (pe_callB (C8.call_isC T.c_Spelled.isc) (by rfl) T.n_isinstance (by decide +kernel) (pa_cons (pv 4) (pa_cons (pe_glob (v := .ref (He.ga K "Spelled")) (by rfl) T.g_Spelled rfl) pa_nil))) (pe_one (pe_callB (C8.call_isC T.c_Spelled.isc) (by rfl) T.n_isinstance (by decide +kernel) (pa_cons (pv 5) (pa_cons (pe_glob (v := .ref (He.ga K "Spelled")) (by rfl) T.g_Spelled rfl) pa_nil))))) (pa_cons (pe_lst (pa_cons (pe_fld (pv 4) rfl) pa_nil)) pa_nil)) (by rfl))
      (pss_cons (ps_expr (pe_bm PySem.F.plainAttrs_list PySem.F.slot_list_append PySem.F.type_list_append mt_append (pv 3) (pa_cons (pe_tup (pa_cons (pv 4) (pa_cons (pv 5) (pa_cons (pv 6) (pa_cons (pv 7) (pa_cons (pe_lst (pa_cons (pe_fld (pv 5) rfl) pa_nil)) (pa_cons (pe_lst (pa_cons (pv 0) pa_nil)) pa_nil))))))) pa_nil)))
      (pss_cons (ps_par (i := 4) (j := 5) rfl sc__law_made_a.nd rfl rfl (by decide) rfl rfl (pa_cons (pe_makeI T.c_Parted.mkr I_Parted hr (by rfl) T.g_Parted pass0 (pa_cons (pv 0) pa_nil)) (pa_cons (pe_makeKI T.c_Parted.mkr I_Parted hr (by rfl) T.g_Parted pass0 (pk_cons (pv 0) pk_nil)) pa_nil)) (by rfl))
      (pss_cons (ps_par (i := 6) (j := 7) rfl sc__law_made_a.nd rfl rfl (by decide) rfl rfl (pa_cons (pe_and (pe_callB (C8.call_isC T.c_Parted.isc) (by rfl) T.n_isinstance (by decide +kernel) (pa_cons (pv 4) (pa_cons (pe_glob (v := .ref (He.ga K "Parted")) (by rfl) T.g_Parted rfl) pa_nil))) (pe_one (pe_callB (C8.call_isC T.c_Parted.isc) (by rfl) T.n_isinstance (by decide +kernel) (pa_cons (pv 5) (pa_cons (pe_glob (v := .ref (He.ga K "Parted")) (by rfl) T.g_Parted rfl) pa_nil))))) (pa_cons (pe_lst (pa_cons (pe_fld (pv 4) rfl) pa_nil)) pa_nil)) (by rfl))
      (pss_cons (ps_expr (pe_bm PySem.F.plainAttrs_list PySem.F.slot_list_append PySem.F.type_list_append mt_append (pv 3) (pa_cons (pe_tup (pa_cons (pv 4) (pa_cons (pv 5) (pa_cons (pv 6) (pa_cons (pv 7) (pa_cons (pe_lst (pa_cons (pe_fld (pv 5) rfl) pa_nil)) (pa_cons (pe_lst (pa_cons (pv 0) pa_nil)) pa_nil))))))) pa_nil)))
      (pss_cons (ps_par (i := 4) (j := 5) rfl sc__law_made_a.nd rfl rfl (by decide) rfl rfl (pa_cons (pe_makeI T.c_Within.mkr I_Within hr (by rfl) T.g_Within pass0 (pa_cons (pv 0) pa_nil)) (pa_cons (pe_makeKI T.c_Within.mkr I_Within hr (by rfl) T.g_Within pass0 (pk_cons (pv 0) pk_nil)) pa_nil)) (by rfl))
      (pss_cons (ps_par (i := 6) (j := 7) rfl sc__law_made_a.nd rfl rfl (by decide) rfl rfl (pa_cons (pe_and (pe_callB (C8.call_isC T.c_Within.isc) (by rfl) T.n_isinstance (by decide +kernel) (pa_cons (pv 4) (pa_cons (pe_glob (v := .ref (He.ga K "Within")) (by rfl) T.g_Within rfl) pa_nil))) (pe_one (pe_callB (C8.call_isC T.c_Within.isc) (by rfl) T.n_isinstance (by decide +kernel) (pa_cons (pv 5) (pa_cons (pe_glob (v := .ref (He.ga K "Within")) (by rfl) T.g_Within rfl) pa_nil))))) (pa_cons (pe_lst (pa_cons (pe_fld (pv 4) rfl) pa_nil)) pa_nil)) (by rfl))
      (pss_cons (ps_expr (pe_bm PySem.F.plainAttrs_list PySem.F.slot_list_append PySem.F.type_list_append mt_append (pv 3) (pa_cons (pe_tup (pa_cons (pv 4) (pa_cons (pv 5) (pa_cons (pv 6) (pa_cons (pv 7) (pa_cons (pe_lst (pa_cons (pe_fld (pv 5) rfl) pa_nil)) (pa_cons (pe_lst (pa_cons (pv 0) pa_nil)) pa_nil))))))) pa_nil)))
      (pss_cons (ps_par (i := 4) (j := 5) rfl sc__law_made_a.nd rfl rfl (by decide) rfl rfl (pa_cons (pe_makeI T.c_Beyond.mkr I_Beyond hr (by rfl) T.g_Beyond pass0 (pa_cons (pv 0) (pa_cons (pv 1) pa_nil))) (pa_cons (pe_makeKI T.c_Beyond.mkr I_Beyond hr (by rfl) T.g_Beyond pass0 (pk_cons (pv 1) (pk_cons (pv 0) pk_nil))) pa_nil)) (by rfl))
      (pss_cons (ps_par (i := 6) (j := 7) rfl sc__law_made_a.nd rfl rfl (by decide) rfl rfl (pa_cons (pe_and (pe_callB (C8.call_isC T.c_Beyond.isc) (by rfl) T.n_isinstance (by decide +kernel) (pa_cons (pv 4) (pa_cons (pe_glob (v := .ref (He.ga K "Beyond")) (by rfl) T.g_Beyond rfl) pa_nil))) (pe_one (pe_callB (C8.call_isC T.c_Beyond.isc) (by rfl) T.n_isinstance (by decide +kernel) (pa_cons (pv 5) (pa_cons (pe_glob (v := .ref (He.ga K "Beyond")) (by rfl) T.g_Beyond rfl) pa_nil))))) (pa_cons (pe_lst (pa_cons (pe_fld (pv 4) rfl) (pa_cons (pe_fld (pv 4) rfl) pa_nil))) pa_nil)) (by rfl))
      (pss_cons (ps_expr (pe_bm PySem.F.plainAttrs_list PySem.F.slot_list_append PySem.F.type_list_append mt_append (pv 3) (pa_cons (pe_tup (pa_cons (pv 4) (pa_cons (pv 5) (pa_cons (pv 6) (pa_cons (pv 7) (pa_cons (pe_lst (pa_cons (pe_fld (pv 5) rfl) (pa_cons (pe_fld (pv 5) rfl) pa_nil))) (pa_cons (pe_lst (pa_cons (pv 0) (pa_cons (pv 1) pa_nil))) pa_nil))))))) pa_nil)))
      (pss_one (ps_ret (pv 3)))))))))))))))))))))))))))))))))), ?_⟩), F.bindsN (fun _ _ _ _ _ _ us hl => match us, hl with | [_, _, _], _ => rfl), F.kp⟩
  · obtain ⟨_, _, _, _, _, _, _, rfl, _⟩ := h
    rfl
  obtain ⟨pn, a, b, c, d, e, f, rfl, hv3, ⟨sd, se, sf⟩, hQ⟩ := h
  obtain ⟨hv1, hv2⟩ : VAll K pn H [a] [d] ∧ VAll K pn H [a, b] [d, e] := by
    cases hv3 with
    | cons h1 h2 => cases h2 with
      | cons h3 h4 => exact ⟨.cons h1 .nil, .cons h1 (.cons h3 .nil)⟩
  have ok1 : ∀ x ∈ [d], Sm x := fun x hx => by rw [List.mem_singleton.mp hx]; exact sd
  have ok2 : ∀ x ∈ [d, e], Sm x := fun x hx => by
    rcases List.mem_cons.mp hx with rfl | hx
    · exact sd
    · rw [List.mem_singleton.mp hx]; exact se
  have ok3 : ∀ x ∈ [d, e, f], Sm x := fun x hx => by
    rcases List.mem_cons.mp hx with rfl | hx
    · exact sd
    rcases List.mem_cons.mp hx with rfl | hx
    · exact se
    · rw [List.mem_singleton.mp hx]; exact sf
  refine ⟨by decide, fun l nl => ?_⟩
  have i0 := RInv.start (K := K) (pn := pn) nl
  have l0 : ([] : List V).length = 0 := rfl
  refine row_ok (fs := ["changes", "row"]) (is := [0, 1]) T.c_Short (by decide +kernel) (by decide) i0 (by omega) hv2 ok2 rfl (fun _ _ _ _ => .cons rfl (.cons rfl .nil)) fun G1 rs1 o1 p4 p5 p6 p7 i1 l1 => ?_
  refine row_ok (fs := ["row"]) (is := [0]) T.c_Changes (by decide +kernel) (by decide) i1 (by omega) hv1 ok1 rfl (fun _ _ _ _ => .cons rfl .nil) fun G2 rs2 o2 p4 p5 p6 p7 i2 l2 => ?_
  refine row_ok (fs := ["letter", "sheeting"]) (is := [0, 1]) T.c_Lacking (by decide +kernel) (by decide) i2 (by omega) hv2 ok2 rfl (fun _ _ _ _ => .cons rfl (.cons rfl .nil)) fun G3 rs3 o3 p4 p5 p6 p7 i3 l3 => ?_
  refine row_ok (fs := ["rows", "ring"]) (is := [0, 1]) T.c_Lessened (by decide +kernel) (by decide) i3 (by omega) hv2 ok2 rfl (fun _ _ _ _ => .cons rfl (.cons rfl .nil)) fun G4 rs4 o4 p4 p5 p6 p7 i4 l4 => ?_
  refine row_ok (fs := ["turns"]) (is := [0]) T.c_Full (by decide +kernel) (by decide) i4 (by omega) hv1 ok1 rfl (fun _ _ _ _ => .cons rfl .nil) fun G5 rs5 o5 p4 p5 p6 p7 i5 l5 => ?_
  refine row_ok (fs := ["over", "places", "ways"]) (is := [0, 1, 2]) T.c_Folded (by decide +kernel) (by decide) i5 (by omega) hv3 ok3 rfl (fun _ _ _ _ => .cons rfl (.cons rfl (.cons rfl .nil))) fun G6 rs6 o6 p4 p5 p6 p7 i6 l6 => ?_
  refine row_ok (fs := ["row"]) (is := [0]) T.c_Spelled (by decide +kernel) (by decide) i6 (by omega) hv1 ok1 rfl (fun _ _ _ _ => .cons rfl .nil) fun G7 rs7 o7 p4 p5 p6 p7 i7 l7 => ?_
  refine row_ok (fs := ["sheeting"]) (is := [0]) T.c_Parted (by decide +kernel) (by decide) i7 (by omega) hv1 ok1 rfl (fun _ _ _ _ => .cons rfl .nil) fun G8 rs8 o8 p4 p5 p6 p7 i8 l8 => ?_
  refine row_ok (fs := ["rows"]) (is := [0]) T.c_Within (by decide +kernel) (by decide) i8 (by omega) hv1 ok1 rfl (fun _ _ _ _ => .cons rfl .nil) fun G9 rs9 o9 p4 p5 p6 p7 i9 l9 => ?_
  refine row_ok (fs := ["number", "sheeting"]) (is := [0, 1]) T.c_Beyond (by decide +kernel) (by decide) i9 (by omega) hv2 ok2 rfl (fun _ _ _ _ => .cons rfl (.cons rfl .nil)) fun G10 rs10 o10 p4 p5 p6 p7 i10 l10 => ?_
  refine ⟨_, rfl, ?_⟩
  exact hQ _ _ _ _ (i10.same.trans hide_le) i10.at_ (i10.rows.same hide_le) i10.nd i10.new (by omega)
theorem pr__law_made_b (T : Fx K mg) : Pr P w K mg base CX0 4 (He.ga K "_law_made_b") ["a", "b", "c"] (spMade K) := by
  have I_Colours := pri_Colours (P := P) (w := w) (base := base) T
  have I_OddWay := pri_OddWay (P := P) (w := w) (base := base) T
  have I_Ladder := pri_Ladder (P := P) (w := w) (base := base) T
  have I_Made := pri_Made (P := P) (w := w) (base := base) T
  have I_Outside := pri_Outside (P := P) (w := w) (base := base) T
  have I_Great := pri_Great (P := P) (w := w) (base := base) T
  have I_Small := pri_Small (P := P) (w := w) (base := base) T
  have I_TieParts := pri_TieParts (P := P) (w := w) (base := base) T
  have I_Had := pri_Had (P := P) (w := w) (base := base) T
  have I_Never := pri_Never (P := P) (w := w) (base := base) T
  obtain ⟨fd, F⟩ := T.f__law_made_b
  refine ⟨fd, F.ok sc__law_made_b (fun vs H Q E h => ?_) (fun cdv A outer s H vs Q E hr h => ⟨_, PSs.nox (pss_cons (ps_set (i := 3) sc__law_made_b.nd rfl (by first | exact Or.inl rfl | exact Or.inr rfl) (pe_lst pa_nil))
      (pss_cons (ps_par (i := 4) (j := 5) rfl sc__law_made_b.nd rfl rfl (by decide) rfl rfl (pa_cons (pe_makeI T.c_Colours.mkr I_Colours hr (by rfl) T.g_Colours pass0 (pa_cons (pv 0) pa_nil)) (pa_cons (pe_makeKI T.c_Colours.mkr I_Colours hr (by rfl) T.g_Colours pass0 (pk_cons (pv 0) pk_nil)) pa_nil)) (by rfl))
      (pss_cons (ps_par (i := 6) (j := 7) rfl sc__law_made_b.nd rfl rfl (by decide) rfl rfl (pa_cons (pe_and (pe_callB (C8.call_isC T.c_Colours.isc) (by rfl) T.n_isinstance (by decide +kernel) (pa_cons (pv 4) (pa_cons (pe_glob (v := .ref (He.ga K "Colours")) (by rfl) T.g_Colours rfl) pa_nil))) (pe_one (pe_callB (C8.call_isC T.c_Colours.isc) (by rfl) T.n_isinstance (by decide +kernel) (pa_cons (pv 5) (pa_cons (pe_glob (v := .ref (He.ga K "Colours")) (by rfl) T.g_Colours rfl) pa_nil))))) (pa_cons (pe_lst (pa_cons (pe_fld (pv 4) rfl) pa_nil)) pa_nil)) (by rfl))
      (pss_cons (ps_expr (pe_bm PySem.F.plainAttrs_list PySem.F.slot_list_append PySem.F.type_list_append mt_append (pv 3) (pa_cons (pe_tup (pa_cons (pv 4) (pa_cons (pv 5) (pa_cons (pv 6) (pa_cons (pv 7) (pa_cons (pe_lst (pa_cons (pe_fld (pv 5) rfl) pa_nil)) (pa_cons (pe_lst (pa_cons (pv 0) pa_nil)) pa_nil))))))) pa_nil)))
      (pss_cons (ps_par (i := 4) (j := 5) rfl sc__law_made_b.nd rfl rfl (by decide) rfl rfl (pa_cons (pe_makeI T.c_OddWay.mkr I_OddWay hr (by rfl) T.g_OddWay pass0 (pa_cons (pv 0) pa_nil)) (pa_cons (pe_makeKI T.c_OddWay.mkr I_OddWay hr (by rfl) T.g_OddWay pass0 (pk_cons (pv 0) pk_nil)) pa_nil)) (by rfl))
      (pss_cons (ps_par (i := 6) (j := 7) rfl sc__law_made_b.nd rfl rfl (by decide) rfl rfl (pa_cons (pe_and (pe_callB (C8.call_isC T.c_OddWay.isc) (by rfl) T.n_isinstance (by decide +kernel) (pa_cons (pv 4) (pa_cons (pe_glob (v := .ref (He.ga K "OddWay")) (by rfl) T.g_OddWay rfl) pa_nil))) (pe_one (pe_callB (C8.call_isC T.c_OddWay.isc) (by rfl) T.n_isinstance (by decide +kernel) (pa_cons (pv 5) (pa_cons (pe_glob (v := .ref (He.ga K "OddWay")) (by rfl) T.g_OddWay rfl) pa_nil))))) (pa_cons (pe_lst (pa_cons (pe_fld (pv 4) rfl) pa_nil)) pa_nil)) (by rfl))
      (pss_cons (ps_expr (pe_bm PySem.F.plainAttrs_list PySem.F.slot_list_append PySem.F.type_list_append mt_append (pv 3) (pa_cons (pe_tup (pa_cons (pv 4) (pa_cons (pv 5) (pa_cons (pv 6) (pa_cons (pv 7) (pa_cons (pe_lst (pa_cons (pe_fld (pv 5) rfl) pa_nil)) (pa_cons (pe_lst (pa_cons (pv 0) pa_nil)) pa_nil))))))) pa_nil)))
      (pss_cons (ps_par (i := 4) (j := 5) rfl sc__law_made_b.nd rfl rfl (by decide) rfl rfl (pa_cons (pe_makeI T.c_Ladder.mkr I_Ladder hr (by rfl) T.g_Ladder pass0 (pa_cons (pv 0) (pa_cons (pv 1) pa_nil))) (pa_cons (pe_makeKI T.c_Ladder.mkr I_Ladder hr (by rfl) T.g_Ladder pass0 (pk_cons (pv 1) (pk_cons (pv 0) pk_nil))) pa_nil)) (by rfl))
      (pss_cons (ps_par (i := 6) (j := 7) rfl sc__law_made_b.nd rfl rfl (by decide) rfl rfl (pa_cons (pe_and (pe_callB (C8.call_isC T.c_Ladder.isc) (by rfl) T.n_isinstance (by decide +kernel) (pa_cons (pv 4) (pa_cons (pe_glob (v := .ref (He.ga K "Ladder")) (by rfl) T.g_Ladder rfl) pa_nil))) (pe_one (pe_callB (C8.call_isC T.c_Ladder.isc) (by rfl) T.n_isinstance (by decide +kernel) (pa_cons (pv 5) (pa_cons (pe_glob (v := .ref (He.ga K "Ladder")) (by rfl) T.g_Ladder rfl) pa_nil))))) (pa_cons (pe_lst (pa_cons (pe_fld (pv 4) rfl) (pa_cons (pe_fld (pv 4) rfl) pa_nil))) pa_nil)) (by rfl))
      (pss_cons (ps_expr (pe_bm PySem.F.plainAttrs_list PySem.F.slot_list_append PySem.F.type_list_append mt_append (pv 3) (pa_cons (pe_tup (pa_cons (pv 4) (pa_cons (pv 5) (pa_cons (pv 6) (pa_cons (pv 7) (pa_cons (pe_lst (pa_cons (pe_fld (pv 5) rfl) (pa_cons (pe_fld (pv 5) rfl) pa_nil))) (pa_cons (pe_lst (pa_cons (pv 0) (pa_cons (pv 1) pa_nil))) pa_nil))))))) pa_nil)))
      (pss_cons (ps_par (i := 4) (j := 5) rfl sc__law_made_b.nd rfl rfl (by decide) rfl rfl (pa_cons (pe_makeI T.c_Made.mkr I_Made hr (by rfl) T.g_Made pass0 (pa_cons (pv 0) pa_nil)) (pa_cons (pe_makeKI T.c_Made.mkr I_Made hr (by rfl) T.g_Made pass0 (pk_cons (pv 0) pk_nil)) pa_nil)) (by rfl))
      (pss_cons (ps_par (i := 6) (j := 7) rfl sc__law_made_b.nd rfl rfl (by decide) rfl rfl (pa_cons (pe_and (pe_callB (C8.call_isC T.c_Made.isc) (by rfl) T.n_isinstance (by decide +kernel) (pa_cons (pv 4) (pa_cons (pe_glob (v := .ref (He.ga K "Made")) (by rfl) T.g_Made rfl) pa_nil))) (pe_one (pe_callB (C8.call_isC T.c_Made.isc) (by rfl) T.n_isinstance (by decide +kernel) (pa_cons (pv 5) (pa_cons (pe_glob (v := .ref (He.ga K "Made")) (by rfl) T.g_Made rfl) pa_nil))))) (pa_cons (pe_lst (pa_cons (pe_fld (pv 4) rfl) pa_nil)) pa_nil)) (by rfl))
      (pss_cons (ps_expr (pe_bm PySem.F.plainAttrs_list PySem.F.slot_list_append PySem.F.type_list_append mt_append (pv 3) (pa_cons (pe_tup (pa_cons (pv 4) (pa_cons (pv 5) (pa_cons (pv 6) (pa_cons (pv 7) (pa_cons (pe_lst (pa_cons (pe_fld (pv 5) rfl) pa_nil)) (pa_cons (pe_lst (pa_cons (pv 0) pa_nil)) pa_nil))))))) pa_nil)))
      (pss_cons (ps_par (i := 4) (j := 5) rfl sc__law_made_b.nd rfl rfl (by decide) rfl rfl (pa_cons (pe_makeI T.c_Outside.mkr I_Outside hr (by rfl) T.g_Outside pass0 (pa_cons (pv 0) (pa_cons (pv 1) (pa_cons (pv 2) pa_nil)))) (pa_cons (pe_makeKI T.c_Outside.mkr I_Outside hr (by rfl) T.g_Outside pass0 (pk_cons (pv 2) (pk_cons (pv 1) (pk_cons (pv 0) pk_nil)))) pa_nil)) (by rfl))
      (pss_cons (ps_par (i := 6) (j := 7) rfl sc__law_made_b.nd rfl rfl (by decide) rfl rfl (pa_cons (pe_and (pe_callB (C8.call_isC T.c_Outside.isc) (by rfl) T.n_isinstance (by decide +kernel) (pa_cons (pv 4) (pa_cons (pe_glob (v := .ref (He.ga K "Outside")) (by rfl) T.g_Outside rfl) pa_nil))) (pe_one (pe_callB (C8.call_isC T.c_Outside.isc) (by rfl) T.n_isinstance (by decide +kernel) (pa_cons (pv 5) (pa_cons (pe_glob (v := .ref (He.ga K "Outside")) (by rfl) T.g_Outside rfl) pa_nil))))) (pa_cons (pe_lst (pa_cons (pe_fld (pv 4) rfl) (pa_cons (pe_fld (pv 4) rfl) (pa_cons (pe_fld (pv 4) rfl) pa_nil)))) pa_nil)) (by rfl))
      (pss_cons (ps_expr (pe_bm PySem.F.plainAttrs_list PySem.F.slot_list_append PySem.F.type_list_append mt_append (pv 3) (pa_cons (pe_tup (pa_cons (pv 4) (pa_cons (pv 5) (pa_cons (pv 6) (pa_cons (pv 7) (pa_cons (pe_lst (pa_cons (pe_fld (pv 5) rfl) (pa_cons (pe_fld (pv 5) rfl) (pa_cons (pe_fld (pv 5) rfl) pa_nil)))) (pa_cons (pe_lst (pa_cons (pv 0) (pa_cons (pv 1) (pa_cons (pv 2) pa_nil)))) pa_nil))))))) pa_nil)))
      (pss_cons (ps_par (i := 4) (j := 5) rfl sc__law_made_b.nd rfl rfl (by decide) rfl rfl (pa_cons (pe_makeI T.c_Great.mkr I_Great hr (by rfl) T.g_Great pass0 (pa_cons (pv 0) (pa_cons (pv 1) pa_nil))) (pa_cons (pe_makeKI T.c_Great.mkr I_Great hr (by rfl) T.g_Great pass0 (pk_cons (pv 1) (pk_cons (pv 0) pk_nil))) pa_nil)) (by rfl))
      (pss_cons (ps_par (i := 6) (j := 7) rfl sc__law_made_b.nd rfl rfl (by decide) rfl rfl (pa_cons (pe_and (pe_callB (C8.call_isC T.c_Great.isc) (by rfl) T.n_isinstance (by decide +kernel) (pa_cons (pv 4) (pa_cons (pe_glob (v := .ref (He.ga K "Great")) (by rfl) T.g_Great rfl) pa_nil))) (pe_one (pe_callB (C8.call_isC T.c_Great.isc) (by rfl) T.n_isinstance (by decide +kernel) (pa_cons (pv 5) (pa_cons (pe_glob (v := .ref (He.ga K "Great")) (by rfl) T.g_Great rfl) pa_nil))))) (pa_cons (pe_lst (pa_cons (pe_fld (pv 4) rfl) (pa_cons (pe_fld (pv 4) rfl) pa_nil))) pa_nil)) (by rfl))
      (pss_cons (ps_expr (pe_bm PySem.F.plainAttrs_list PySem.F.slot_list_append PySem.F.type_list_append mt_append (pv 3) (pa_cons (pe_tup (pa_cons (pv 4) (pa_cons (pv 5) (pa_cons (pv 6) (pa_cons (pv 7) (pa_cons (pe_lst (pa_cons (pe_fld (pv 5) rfl) (pa_cons (pe_fld (pv 5) rfl) pa_nil))) (pa_cons (pe_lst (pa_cons (pv 0) (pa_cons (pv 1) pa_nil))) pa_nil))))))) pa_nil)))
      (pss_cons (ps_par (i := 4) (j := 5) rfl sc__law_made_b.nd rfl rfl (by decide) rfl rfl (pa_cons (pe_makeI T.c_Small.mkr I_Small hr (by rfl) T.g_Small pass0 (pa_cons (pv 0) pa_nil)) (pa_cons (pe_makeKI T.c_Small.mkr I_Small hr (by rfl) T.g_Small pass0 (pk_cons (pv 0) pk_nil)) pa_nil)) (by rfl))
      (pss_cons (ps_par (i := 6) (j := 7) rfl sc__law_made_b.nd rfl rfl (by decide) rfl rfl (pa_cons (pe_and (pe_callB (C8.call_isC T.c_Small.isc) (by rfl) T.n_isinstance (by decide +kernel) (pa_cons (pv 4) (pa_cons (pe_glob (v := .ref (He.ga K "Small")) (by rfl) T.g_Small rfl) pa_nil))) (pe_one (pe_callB (C8.call_isC T.c_Small.isc) (by rfl) T.n_isinstance (by decide +kernel) (pa_cons (pv 5) (pa_cons (pe_glob (v := .ref (He.ga K "Small")) (by rfl) T.g_Small rfl) pa_nil))))) (pa_cons (pe_lst (pa_cons (pe_fld (pv 4) rfl) pa_nil)) pa_nil)) (by rfl))
      (pss_cons (ps_expr (pe_bm PySem.F.plainAttrs_list PySem.F.slot_list_append PySem.F.type_list_append mt_append (pv 3) (pa_cons (pe_tup (pa_cons (pv 4) (pa_cons (pv 5) (pa_cons (pv 6) (pa_cons (pv 7) (pa_cons (pe_lst (pa_cons (pe_fld (pv 5) rfl) pa_nil)) (pa_cons (pe_lst (pa_cons (pv 0) pa_nil)) pa_nil))))))) pa_nil)))
      (pss_cons (ps_par (i := 4) (j := 5) rfl sc__law_made_b.nd rfl rfl (by decide) rfl rfl (pa_cons (pe_makeI T.c_TieParts.mkr I_TieParts hr (by rfl) T.g_TieParts pass0 (pa_cons (pv 0) (pa_cons (pv 1) (pa_cons (pv 2) pa_nil)))) (pa_cons (pe_makeKI T.c_TieParts.mkr I_TieParts hr (by rfl) T.g_TieParts pass0 (pk_cons (pv 2) (pk_cons (pv 1) (pk_cons (pv 0) pk_nil)))) pa_nil)) (by rfl))
      (pss_cons (ps_par (i := 6) (j := 7) rfl sc__law_made_b.nd rfl rfl (by decide) rfl rfl (pa_cons (pe_and (pe_callB (C8.call_isC T.c_TieParts.isc) (by rfl) T.n_isinstance (by decide +kernel) (pa_cons (pv 4) (pa_cons (pe_glob (v := .ref (He.ga K "TieParts")) (by rfl) T.g_TieParts rfl) pa_nil))) (pe_one (pe_callB (C8.call_isC T.c_TieParts.isc) (by rfl) T.n_isinstance (by decide +kernel) (pa_cons (pv 5) (pa_cons (pe_glob (v := .ref (He.ga K "TieParts")) (by rfl) T.g_TieParts rfl) pa_nil))))) (pa_cons (pe_lst (pa_cons (pe_fld (pv 4) rfl) (pa_cons (pe_fld (pv 4) rfl) (pa_cons (pe_fld (pv 4) rfl) pa_nil)))) pa_nil)) (by rfl))
      (pss_cons (ps_expr (pe_bm PySem.F.plainAttrs_list PySem.F.slot_list_append PySem.F.type_list_append mt_append (pv 3) (pa_cons (pe_tup (pa_cons (pv 4) (pa_cons (pv 5) (pa_cons (pv 6) (pa_cons (pv 7) (pa_cons (pe_lst (pa_cons (pe_fld (pv 5) rfl) (pa_cons (pe_fld (pv 5) rfl) (pa_cons (pe_fld (pv 5) rfl) pa_nil)))) (pa_cons (pe_lst (pa_cons (pv 0) (pa_cons (pv 1) (pa_cons (pv 2) pa_nil)))) pa_nil))))))) pa_nil)))
      (pss_cons (ps_par (i := 4) (j := 5) rfl sc__law_made_b.nd rfl rfl (by decide) rfl rfl (pa_cons (pe_makeI T.c_Had.mkr I_Had hr (by rfl) T.g_Had pass0 (pa_cons (pv 0) pa_nil)) (pa_cons (pe_makeKI T.c_Had.mkr I_Had hr (by rfl) T.g_Had pass0 (pk_cons (pv 0) pk_nil)) pa_nil)) (by rfl))
      (pss_cons (ps_par (i := 6) (j := 7) rfl sc__law_made_b.nd rfl rfl (by decide) rfl rfl (pa_cons (pe_and (pe_callB (C8.call_isC T.c_Had.isc) (by rfl) T.n_isinstance (by decide +kernel) (pa_cons (pv 4) (pa_cons (pe_glob (v := .ref (He.ga K "Had")) (by rfl) T.g_Had rfl) pa_nil))) (pe_one (pe_callB (C8.call_isC T.c_Had.isc) (by rfl) T.n_isinstance (by decide +kernel) (pa_cons (pv 5) (pa_cons (pe_glob (v := .ref (He.ga K "Had")) (by rfl) T.g_Had rfl) pa_nil))))) (pa_cons (pe_lst (pa_cons (pe_fld (pv 4) rfl) pa_nil)) pa_nil)) (by rfl))
      (pss_cons (ps_expr (pe_bm PySem.F.plainAttrs_list PySem.F.slot_list_append PySem.F.type_list_append mt_append (pv 3) (pa_cons (pe_tup (pa_cons (pv 4) (pa_cons (pv 5) (pa_cons (pv 6) (pa_cons (pv 7) (pa_cons (pe_lst (pa_cons (pe_fld (pv 5) rfl) pa_nil)) (pa_cons (pe_lst (pa_cons (pv 0) pa_nil)) pa_nil))))))) pa_nil)))
      (pss_cons (ps_par (i := 4) (j := 5) rfl sc__law_made_b.nd rfl rfl (by decide) rfl rfl (pa_cons (pe_makeI T.c_Never.mkr I_Never hr (by rfl) T.g_Never pass0 (pa_cons (pv 0) pa_nil)) (pa_cons (pe_makeKI T.c_Never.mkr I_Never hr (by rfl) T.g_Never pass0 (pk_cons (pv 0) pk_nil)) pa_nil)) (by rfl))
      (pss_cons (ps_par (i := 6) (j := 7) rfl sc__law_made_b.nd rfl rfl (by decide) rfl rfl (pa_cons (pe_and (pe_callB (C8.call_isC T.c_Never.isc) (by rfl) T.n_isinstance (by decide +kernel) (pa_cons (pv 4) (pa_cons (pe_glob (v := .ref (He.ga K "Never")) (by rfl) T.g_Never rfl) pa_nil))) (pe_one (pe_callB (C8.call_isC T.c_Never.isc) (by rfl) T.n_isinstance (by decide +kernel) (pa_cons (pv 5) (pa_cons (pe_glob (v := .ref (He.ga K "Never")) (by rfl) T.g_Never rfl) pa_nil))))) (pa_cons (pe_lst (pa_cons (pe_fld (pv 4) rfl) pa_nil)) pa_nil)) (by rfl))
      (pss_cons (ps_expr (pe_bm PySem.F.plainAttrs_list PySem.F.slot_list_append PySem.F.type_list_append mt_append (pv 3) (pa_cons (pe_tup (pa_cons (pv 4) (pa_cons (pv 5) (pa_cons (pv 6) (pa_cons (pv 7) (pa_cons (pe_lst (pa_cons (pe_fld (pv 5) rfl) pa_nil)) (pa_cons (pe_lst (pa_cons (pv 0) pa_nil)) pa_nil))))))) pa_nil)))
      (pss_one (ps_ret (pv 3)))))))))))))))))))))))))))))))))), ?_⟩), F.bindsN (fun _ _ _ _ _ _ us hl => match us, hl with | [_, _, _], _ => rfl), F.kp⟩
  · obtain ⟨_, _, _, _, _, _, _, rfl, _⟩ := h
    rfl
  obtain ⟨pn, a, b, c, d, e, f, rfl, hv3, ⟨sd, se, sf⟩, hQ⟩ := h
  obtain ⟨hv1, hv2⟩ : VAll K pn H [a] [d] ∧ VAll K pn H [a, b] [d, e] := by
    cases hv3 with
    | cons h1 h2 => cases h2 with
      | cons h3 h4 => exact ⟨.cons h1 .nil, .cons h1 (.cons h3 .nil)⟩
  have ok1 : ∀ x ∈ [d], Sm x := fun x hx => by rw [List.mem_singleton.mp hx]; exact sd
  have ok2 : ∀ x ∈ [d, e], Sm x := fun x hx => by
    rcases List.mem_cons.mp hx with rfl | hx
    · exact sd
    · rw [List.mem_singleton.mp hx]; exact se
  have ok3 : ∀ x ∈ [d, e, f], Sm x := fun x hx => by
    rcases List.mem_cons.mp hx with rfl | hx
    · exact sd
    rcases List.mem_cons.mp hx with rfl | hx
    · exact se
    · rw [List.mem_singleton.mp hx]; exact sf
  refine ⟨by decide, fun l nl => ?_⟩
  have i0 := RInv.start (K := K) (pn := pn) nl
  have l0 : ([] : List V).length = 0 := rfl
  refine row_ok (fs := ["row"]) (is := [0]) T.c_Colours (by decide +kernel) (by decide) i0 (by omega) hv1 ok1 rfl (fun _ _ _ _ => .cons rfl .nil) fun G1 rs1 o1 p4 p5 p6 p7 i1 l1 => ?_
  refine row_ok (fs := ["darts"]) (is := [0]) T.c_OddWay (by decide +kernel) (by decide) i1 (by omega) hv1 ok1 rfl (fun _ _ _ _ => .cons rfl .nil) fun G2 rs2 o2 p4 p5 p6 p7 i2 l2 => ?_
  refine row_ok (fs := ["base", "levels"]) (is := [0, 1]) T.c_Ladder (by decide +kernel) (by decide) i2 (by omega) hv2 ok2 rfl (fun _ _ _ _ => .cons rfl (.cons rfl .nil)) fun G3 rs3 o3 p4 p5 p6 p7 i3 l3 => ?_
  refine row_ok (fs := ["word"]) (is := [0]) T.c_Made (by decide +kernel) (by decide) i3 (by omega) hv1 ok1 rfl (fun _ _ _ _ => .cons rfl .nil) fun G4 rs4 o4 p4 p5 p6 p7 i4 l4 => ?_
  refine row_ok (fs := ["ladder", "level", "rest"]) (is := [0, 1, 2]) T.c_Outside (by decide +kernel) (by decide) i4 (by omega) hv3 ok3 rfl (fun _ _ _ _ => .cons rfl (.cons rfl (.cons rfl .nil))) fun G5 rs5 o5 p4 p5 p6 p7 i5 l5 => ?_
  refine row_ok (fs := ["odd", "word"]) (is := [0, 1]) T.c_Great (by decide +kernel) (by decide) i5 (by omega) hv2 ok2 rfl (fun _ _ _ _ => .cons rfl (.cons rfl .nil)) fun G6 rs6 o6 p4 p5 p6 p7 i6 l6 => ?_
  refine row_ok (fs := ["ladder"]) (is := [0]) T.c_Small (by decide +kernel) (by decide) i6 (by omega) hv1 ok1 rfl (fun _ _ _ _ => .cons rfl .nil) fun G7 rs7 o7 p4 p5 p6 p7 i7 l7 => ?_
  refine row_ok (fs := ["tree", "far", "rest"]) (is := [0, 1, 2]) T.c_TieParts (by decide +kernel) (by decide) i7 (by omega) hv3 ok3 rfl (fun _ _ _ _ => .cons rfl (.cons rfl (.cons rfl .nil))) fun G8 rs8 o8 p4 p5 p6 p7 i8 l8 => ?_
  refine row_ok (fs := ["turns"]) (is := [0]) T.c_Had (by decide +kernel) (by decide) i8 (by omega) hv1 ok1 rfl (fun _ _ _ _ => .cons rfl .nil) fun G9 rs9 o9 p4 p5 p6 p7 i9 l9 => ?_
  refine row_ok (fs := ["reason"]) (is := [0]) T.c_Never (by decide +kernel) (by decide) i9 (by omega) hv1 ok1 rfl (fun _ _ _ _ => .cons rfl .nil) fun G10 rs10 o10 p4 p5 p6 p7 i10 l10 => ?_
  refine ⟨_, rfl, ?_⟩
  exact hQ _ _ _ _ (i10.same.trans hide_le) i10.at_ (i10.rows.same hide_le) i10.nd i10.new (by omega)
theorem pr__law_made_c (T : Fx K mg) : Pr P w K mg base CX0 4 (He.ga K "_law_made_c") ["a", "b", "c"] (spMade K) := by
  have I_Moves := pri_Moves (P := P) (w := w) (base := base) T
  have I_Kept := pri_Kept (P := P) (w := w) (base := base) T
  have I_Bounded := pri_Bounded (P := P) (w := w) (base := base) T
  have I_Crossed := pri_Crossed (P := P) (w := w) (base := base) T
  have I_Renamed := pri_Renamed (P := P) (w := w) (base := base) T
  have I_Apart := pri_Apart (P := P) (w := w) (base := base) T
  have I_Step := pri_Step (P := P) (w := w) (base := base) T
  have I_Loop := pri_Loop (P := P) (w := w) (base := base) T
  have I_Cover := pri_Cover (P := P) (w := w) (base := base) T
  have I_Closed := pri_Closed (P := P) (w := w) (base := base) T
  obtain ⟨fd, F⟩ := T.f__law_made_c
  refine ⟨fd, F.ok sc__law_made_c (fun vs H Q E h => ?_) (fun cdv A outer s H vs Q E hr h => ⟨_, PSs.nox (pss_cons (ps_set (i := 3) sc__law_made_c.nd rfl (by first | exact Or.inl rfl | exact Or.inr rfl) (pe_lst pa_nil))
      (pss_cons (ps_par (i := 4) (j := 5) rfl sc__law_made_c.nd rfl rfl (by decide) rfl rfl (pa_cons (pe_makeI T.c_Moves.mkr I_Moves hr (by rfl) T.g_Moves pass0 (pa_cons (pv 0) pa_nil)) (pa_cons (pe_makeKI T.c_Moves.mkr I_Moves hr (by rfl) T.g_Moves pass0 (pk_cons (pv 0) pk_nil)) pa_nil)) (by rfl))
      (pss_cons (ps_par (i := 6) (j := 7) rfl sc__law_made_c.nd rfl rfl (by decide) rfl rfl (pa_cons (pe_and (pe_callB (C8.call_isC T.c_Moves.isc) (by rfl) T.n_isinstance (by decide +kernel) (pa_cons (pv 4) (pa_cons (pe_glob (v := .ref (He.ga K "Moves")) (by rfl) T.g_Moves rfl) pa_nil))) (pe_one (pe_callB (C8.call_isC T.c_Moves.isc) (by rfl) T.n_isinstance (by decide +kernel) (pa_cons (pv 5) (pa_cons (pe_glob (v := .ref (He.ga K "Moves")) (by rfl) T.g_Moves rfl) pa_nil))))) (pa_cons (pe_lst (pa_cons (pe_fld (pv 4) rfl) pa_nil)) pa_nil)) (by rfl))
      (pss_cons (ps_expr (pe_bm PySem.F.plainAttrs_list PySem.F.slot_list_append PySem.F.type_list_append mt_append (pv 3) (pa_cons (pe_tup (pa_cons (pv 4) (pa_cons (pv 5) (pa_cons (pv 6) (pa_cons (pv 7) (pa_cons (pe_lst (pa_cons (pe_fld (pv 5) rfl) pa_nil)) (pa_cons (pe_lst (pa_cons (pv 0) pa_nil)) pa_nil))))))) pa_nil)))
      (pss_cons (ps_par (i := 4) (j := 5) rfl sc__law_made_c.nd rfl rfl (by decide) rfl rfl (pa_cons (pe_makeI T.c_Kept.mkr I_Kept hr (by rfl) T.g_Kept pass0 (pa_cons (pv 0) pa_nil)) (pa_cons (pe_makeKI T.c_Kept.mkr I_Kept hr (by rfl) T.g_Kept pass0 (pk_cons (pv 0) pk_nil)) pa_nil)) (by rfl))
      (pss_cons (ps_par (i := 6) (j := 7) rfl sc__law_made_c.nd rfl rfl (by decide) rfl rfl (pa_cons (pe_and (pe_callB (C8.call_isC T.c_Kept.isc) (by rfl) T.n_isinstance (by decide +kernel) (pa_cons (pv 4) (pa_cons (pe_glob (v := .ref (He.ga K "Kept")) (by rfl) T.g_Kept rfl) pa_nil))) (pe_one (pe_callB (C8.call_isC T.c_Kept.isc) (by rfl) T.n_isinstance (by decide +kernel) (pa_cons (pv 5) (pa_cons (pe_glob (v := .ref (He.ga K "Kept")) (by rfl) T.g_Kept rfl) pa_nil))))) (pa_cons (pe_lst (pa_cons (pe_fld (pv 4) rfl) pa_nil)) pa_nil)) (by rfl))
      (pss_cons (ps_expr (pe_bm PySem.F.plainAttrs_list PySem.F.slot_list_append PySem.F.type_list_append mt_append (pv 3) (pa_cons (pe_tup (pa_cons (pv 4) (pa_cons (pv 5) (pa_cons (pv 6) (pa_cons (pv 7) (pa_cons (pe_lst (pa_cons (pe_fld (pv 5) rfl) pa_nil)) (pa_cons (pe_lst (pa_cons (pv 0) pa_nil)) pa_nil))))))) pa_nil)))
      (pss_cons (ps_par (i := 4) (j := 5) rfl sc__law_made_c.nd rfl rfl (by decide) rfl rfl (pa_cons (pe_makeI T.c_Bounded.mkr I_Bounded hr (by rfl) T.g_Bounded pass0 (pa_cons (pv 0) pa_nil)) (pa_cons (pe_makeKI T.c_Bounded.mkr I_Bounded hr (by rfl) T.g_Bounded pass0 (pk_cons (pv 0) pk_nil)) pa_nil)) (by rfl))
      (pss_cons (ps_par (i := 6) (j := 7) rfl sc__law_made_c.nd rfl rfl (by decide) rfl rfl (pa_cons (pe_and (pe_callB (C8.call_isC T.c_Bounded.isc) (by rfl) T.n_isinstance (by decide +kernel) (pa_cons (pv 4) (pa_cons (pe_glob (v := .ref (He.ga K "Bounded")) (by rfl) T.g_Bounded rfl) pa_nil))) (pe_one (pe_callB (C8.call_isC T.c_Bounded.isc) (by rfl) T.n_isinstance (by decide +kernel) (pa_cons (pv 5) (pa_cons (pe_glob (v := .ref (He.ga K "Bounded")) (by rfl) T.g_Bounded rfl) pa_nil))))) (pa_cons (pe_lst (pa_cons (pe_fld (pv 4) rfl) pa_nil)) pa_nil)) (by rfl))
      (pss_cons (ps_expr (pe_bm PySem.F.plainAttrs_list PySem.F.slot_list_append PySem.F.type_list_append mt_append (pv 3) (pa_cons (pe_tup (pa_cons (pv 4) (pa_cons (pv 5) (pa_cons (pv 6) (pa_cons (pv 7) (pa_cons (pe_lst (pa_cons (pe_fld (pv 5) rfl) pa_nil)) (pa_cons (pe_lst (pa_cons (pv 0) pa_nil)) pa_nil))))))) pa_nil)))
      (pss_cons (ps_par (i := 4) (j := 5) rfl sc__law_made_c.nd rfl rfl (by decide) rfl rfl (pa_cons (pe_makeI T.c_Crossed.mkr I_Crossed hr (by rfl) T.g_Crossed pass0 (pa_cons (pv 0) pa_nil)) (pa_cons (pe_makeKI T.c_Crossed.mkr I_Crossed hr (by rfl) T.g_Crossed pass0 (pk_cons (pv 0) pk_nil)) pa_nil)) (by rfl))
      (pss_cons (ps_par (i := 6) (j := 7) rfl sc__law_made_c.nd rfl rfl (by decide) rfl rfl (pa_cons (pe_and (pe_callB (C8.call_isC T.c_Crossed.isc) (by rfl) T.n_isinstance (by decide +kernel) (pa_cons (pv 4) (pa_cons (pe_glob (v := .ref (He.ga K "Crossed")) (by rfl) T.g_Crossed rfl) pa_nil))) (pe_one (pe_callB (C8.call_isC T.c_Crossed.isc) (by rfl) T.n_isinstance (by decide +kernel) (pa_cons (pv 5) (pa_cons (pe_glob (v := .ref (He.ga K "Crossed")) (by rfl) T.g_Crossed rfl) pa_nil))))) (pa_cons (pe_lst (pa_cons (pe_fld (pv 4) rfl) pa_nil)) pa_nil)) (by rfl))
      (pss_cons (ps_expr (pe_bm PySem.F.plainAttrs_list PySem.F.slot_list_append PySem.F.type_list_append mt_append (pv 3) (pa_cons (pe_tup (pa_cons (pv 4) (pa_cons (pv 5) (pa_cons (pv 6) (pa_cons (pv 7) (pa_cons (pe_lst (pa_cons (pe_fld (pv 5) rfl) pa_nil)) (pa_cons (pe_lst (pa_cons (pv 0) pa_nil)) pa_nil))))))) pa_nil)))
      (pss_cons (ps_par (i := 4) (j := 5) rfl sc__law_made_c.nd rfl rfl (by decide) rfl rfl (pa_cons (pe_makeI T.c_Renamed.mkr I_Renamed hr (by rfl) T.g_Renamed pass0 (pa_cons (pv 0) pa_nil)) (pa_cons (pe_makeKI T.c_Renamed.mkr I_Renamed hr (by rfl) T.g_Renamed pass0 (pk_cons (pv 0) pk_nil)) pa_nil)) (by rfl))
      (pss_cons (ps_par (i := 6) (j := 7) rfl sc__law_made_c.nd rfl rfl (by decide) rfl rfl (pa_cons (pe_and (pe_callB (C8.call_isC T.c_Renamed.isc) (by rfl) T.n_isinstance (by decide +kernel) (pa_cons (pv 4) (pa_cons (pe_glob (v := .ref (He.ga K "Renamed")) (by rfl) T.g_Renamed rfl) pa_nil))) (pe_one (pe_callB (C8.call_isC T.c_Renamed.isc) (by rfl) T.n_isinstance (by decide +kernel) (pa_cons (pv 5) (pa_cons (pe_glob (v := .ref (He.ga K "Renamed")) (by rfl) T.g_Renamed rfl) pa_nil))))) (pa_cons (pe_lst (pa_cons (pe_fld (pv 4) rfl) pa_nil)) pa_nil)) (by rfl))
      (pss_cons (ps_expr (pe_bm PySem.F.plainAttrs_list PySem.F.slot_list_append PySem.F.type_list_append mt_append (pv 3) (pa_cons (pe_tup (pa_cons (pv 4) (pa_cons (pv 5) (pa_cons (pv 6) (pa_cons (pv 7) (pa_cons (pe_lst (pa_cons (pe_fld (pv 5) rfl) pa_nil)) (pa_cons (pe_lst (pa_cons (pv 0) pa_nil)) pa_nil))))))) pa_nil)))
      (pss_cons (ps_par (i := 4) (j := 5) rfl sc__law_made_c.nd rfl rfl (by decide) rfl rfl (pa_cons (pe_makeI T.c_Apart.mkr I_Apart hr (by rfl) T.g_Apart pass0 (pa_cons (pv 0) pa_nil)) (pa_cons (pe_makeKI T.c_Apart.mkr I_Apart hr (by rfl) T.g_Apart pass0 (pk_cons (pv 0) pk_nil)) pa_nil)) (by rfl))
      (pss_cons (ps_par (i := 6) (j := 7) rfl sc__law_made_c.nd rfl rfl (by decide) rfl rfl (pa_cons (pe_and (pe_callB (C8.call_isC T.c_Apart.isc) (by rfl) T.n_isinstance (by decide +kernel) (pa_cons (pv 4) (pa_cons (pe_glob (v := .ref (He.ga K "Apart")) (by rfl) T.g_Apart rfl) pa_nil))) (pe_one (pe_callB (C8.call_isC T.c_Apart.isc) (by rfl) T.n_isinstance (by decide +kernel) (pa_cons (pv 5) (pa_cons (pe_glob (v := .ref (He.ga K "Apart")) (by rfl) T.g_Apart rfl) pa_nil))))) (pa_cons (pe_lst (pa_cons (pe_fld (pv 4) rfl) pa_nil)) pa_nil)) (by rfl))
      (pss_cons (ps_expr (pe_bm PySem.F.plainAttrs_list PySem.F.slot_list_append PySem.F.type_list_append mt_append (pv 3) (pa_cons (pe_tup (pa_cons (pv 4) (pa_cons (pv 5) (pa_cons (pv 6) (pa_cons (pv 7) (pa_cons (pe_lst (pa_cons (pe_fld (pv 5) rfl) pa_nil)) (pa_cons (pe_lst (pa_cons (pv 0) pa_nil)) pa_nil))))))) pa_nil)))
      (pss_cons (ps_par (i := 4) (j := 5) rfl sc__law_made_c.nd rfl rfl (by decide) rfl rfl (pa_cons (pe_makeI T.c_Step.mkr I_Step hr (by rfl) T.g_Step pass0 (pa_cons (pv 0) pa_nil)) (pa_cons (pe_makeKI T.c_Step.mkr I_Step hr (by rfl) T.g_Step pass0 (pk_cons (pv 0) pk_nil)) pa_nil)) (by rfl))
      (pss_cons (ps_par (i := 6) (j := 7) rfl sc__law_made_c.nd rfl rfl (by decide) rfl rfl (pa_cons (pe_and (pe_callB (C8.call_isC T.c_Step.isc) (by rfl) T.n_isinstance (by decide +kernel) (pa_cons (pv 4) (pa_cons (pe_glob (v := .ref (He.ga K "Step")) (by rfl) T.g_Step rfl) pa_nil))) (pe_one (pe_callB (C8.call_isC T.c_Step.isc) (by rfl) T.n_isinstance (by decide +kernel) (pa_cons (pv 5) (pa_cons (pe_glob (v := .ref (He.ga K "Step")) (by rfl) T.g_Step rfl) pa_nil))))) (pa_cons (pe_lst (pa_cons (pe_fld (pv 4) rfl) pa_nil)) pa_nil)) (by rfl))
      (pss_cons (ps_expr (pe_bm PySem.F.plainAttrs_list PySem.F.slot_list_append PySem.F.type_list_append mt_append (pv 3) (pa_cons (pe_tup (pa_cons (pv 4) (pa_cons (pv 5) (pa_cons (pv 6) (pa_cons (pv 7) (pa_cons (pe_lst (pa_cons (pe_fld (pv 5) rfl) pa_nil)) (pa_cons (pe_lst (pa_cons (pv 0) pa_nil)) pa_nil))))))) pa_nil)))
      (pss_cons (ps_par (i := 4) (j := 5) rfl sc__law_made_c.nd rfl rfl (by decide) rfl rfl (pa_cons (pe_makeI T.c_Loop.mkr I_Loop hr (by rfl) T.g_Loop pass0 (pa_cons (pv 0) pa_nil)) (pa_cons (pe_makeKI T.c_Loop.mkr I_Loop hr (by rfl) T.g_Loop pass0 (pk_cons (pv 0) pk_nil)) pa_nil)) (by rfl))
      (pss_cons (ps_par (i := 6) (j := 7) rfl sc__law_made_c.nd rfl rfl (by decide) rfl rfl (pa_cons (pe_and (pe_callB (C8.call_isC T.c_Loop.isc) (by rfl) T.n_isinstance (by decide +kernel) (pa_cons (pv 4) (pa_cons (pe_glob (v := .ref (He.ga K "Loop")) (by rfl) T.g_Loop rfl) pa_nil))) (pe_one (pe_callB (C8.call_isC T.c_Loop.isc) (by rfl) T.n_isinstance (by decide +kernel) (pa_cons (pv 5) (pa_cons (pe_glob (v := .ref (He.ga K "Loop")) (by rfl) T.g_Loop rfl) pa_nil))))) (pa_cons (pe_lst (pa_cons (pe_fld (pv 4) rfl) pa_nil)) pa_nil)) (by rfl))
      (pss_cons (ps_expr (pe_bm PySem.F.plainAttrs_list PySem.F.slot_list_append PySem.F.type_list_append mt_append (pv 3) (pa_cons (pe_tup (pa_cons (pv 4) (pa_cons (pv 5) (pa_cons (pv 6) (pa_cons (pv 7) (pa_cons (pe_lst (pa_cons (pe_fld (pv 5) rfl) pa_nil)) (pa_cons (pe_lst (pa_cons (pv 0) pa_nil)) pa_nil))))))) pa_nil)))
      (pss_cons (ps_par (i := 4) (j := 5) rfl sc__law_made_c.nd rfl rfl (by decide) rfl rfl (pa_cons (pe_makeI T.c_Cover.mkr I_Cover hr (by rfl) T.g_Cover pass0 (pa_cons (pv 0) (pa_cons (pv 1) (pa_cons (pv 2) pa_nil)))) (pa_cons (pe_makeKI T.c_Cover.mkr I_Cover hr (by rfl) T.g_Cover pass0 (pk_cons (pv 2) (pk_cons (pv 1) (pk_cons (pv 0) pk_nil)))) pa_nil)) (by rfl))
      (pss_cons (ps_par (i := 6) (j := 7) rfl sc__law_made_c.nd rfl rfl (by decide) rfl rfl (pa_cons (pe_and (pe_callB (C8.call_isC T.c_Cover.isc) (by rfl) T.n_isinstance (by decide +kernel) (pa_cons (pv 4) (pa_cons (pe_glob (v := .ref (He.ga K "Cover")) (by rfl) T.g_Cover rfl) pa_nil))) (pe_one (pe_callB (C8.call_isC T.c_Cover.isc) (by rfl) T.n_isinstance (by decide +kernel) (pa_cons (pv 5) (pa_cons (pe_glob (v := .ref (He.ga K "Cover")) (by rfl) T.g_Cover rfl) pa_nil))))) (pa_cons (pe_lst (pa_cons (pe_fld (pv 4) rfl) (pa_cons (pe_fld (pv 4) rfl) (pa_cons (pe_fld (pv 4) rfl) pa_nil)))) pa_nil)) (by rfl))
      (pss_cons (ps_expr (pe_bm PySem.F.plainAttrs_list PySem.F.slot_list_append PySem.F.type_list_append mt_append (pv 3) (pa_cons (pe_tup (pa_cons (pv 4) (pa_cons (pv 5) (pa_cons (pv 6) (pa_cons (pv 7) (pa_cons (pe_lst (pa_cons (pe_fld (pv 5) rfl) (pa_cons (pe_fld (pv 5) rfl) (pa_cons (pe_fld (pv 5) rfl) pa_nil)))) (pa_cons (pe_lst (pa_cons (pv 0) (pa_cons (pv 1) (pa_cons (pv 2) pa_nil)))) pa_nil))))))) pa_nil)))
      (pss_cons (ps_par (i := 4) (j := 5) rfl sc__law_made_c.nd rfl rfl (by decide) rfl rfl (pa_cons (pe_makeI T.c_Closed.mkr I_Closed hr (by rfl) T.g_Closed pass0 (pa_cons (pv 0) (pa_cons (pv 1) pa_nil))) (pa_cons (pe_makeKI T.c_Closed.mkr I_Closed hr (by rfl) T.g_Closed pass0 (pk_cons (pv 1) (pk_cons (pv 0) pk_nil))) pa_nil)) (by rfl))
      (pss_cons (ps_par (i := 6) (j := 7) rfl sc__law_made_c.nd rfl rfl (by decide) rfl rfl (pa_cons (pe_and (pe_callB (C8.call_isC T.c_Closed.isc) (by rfl) T.n_isinstance (by decide +kernel) (pa_cons (pv 4) (pa_cons (pe_glob (v := .ref (He.ga K "Closed")) (by rfl) T.g_Closed rfl) pa_nil))) (pe_one (pe_callB (C8.call_isC T.c_Closed.isc) (by rfl) T.n_isinstance (by decide +kernel) (pa_cons (pv 5) (pa_cons (pe_glob (v := .ref (He.ga K "Closed")) (by rfl) T.g_Closed rfl) pa_nil))))) (pa_cons (pe_lst (pa_cons (pe_fld (pv 4) rfl) (pa_cons (pe_fld (pv 4) rfl) pa_nil))) pa_nil)) (by rfl))
      (pss_cons (ps_expr (pe_bm PySem.F.plainAttrs_list PySem.F.slot_list_append PySem.F.type_list_append mt_append (pv 3) (pa_cons (pe_tup (pa_cons (pv 4) (pa_cons (pv 5) (pa_cons (pv 6) (pa_cons (pv 7) (pa_cons (pe_lst (pa_cons (pe_fld (pv 5) rfl) (pa_cons (pe_fld (pv 5) rfl) pa_nil))) (pa_cons (pe_lst (pa_cons (pv 0) (pa_cons (pv 1) pa_nil))) pa_nil))))))) pa_nil)))
      (pss_one (ps_ret (pv 3)))))))))))))))))))))))))))))))))), ?_⟩), F.bindsN (fun _ _ _ _ _ _ us hl => match us, hl with | [_, _, _], _ => rfl), F.kp⟩
  · obtain ⟨_, _, _, _, _, _, _, rfl, _⟩ := h
    rfl
  obtain ⟨pn, a, b, c, d, e, f, rfl, hv3, ⟨sd, se, sf⟩, hQ⟩ := h
  obtain ⟨hv1, hv2⟩ : VAll K pn H [a] [d] ∧ VAll K pn H [a, b] [d, e] := by
    cases hv3 with
    | cons h1 h2 => cases h2 with
      | cons h3 h4 => exact ⟨.cons h1 .nil, .cons h1 (.cons h3 .nil)⟩
  have ok1 : ∀ x ∈ [d], Sm x := fun x hx => by rw [List.mem_singleton.mp hx]; exact sd
  have ok2 : ∀ x ∈ [d, e], Sm x := fun x hx => by
    rcases List.mem_cons.mp hx with rfl | hx
    · exact sd
    · rw [List.mem_singleton.mp hx]; exact se
  have ok3 : ∀ x ∈ [d, e, f], Sm x := fun x hx => by
    rcases List.mem_cons.mp hx with rfl | hx
    · exact sd
    rcases List.mem_cons.mp hx with rfl | hx
    · exact se
    · rw [List.mem_singleton.mp hx]; exact sf
  refine ⟨by decide, fun l nl => ?_⟩
  have i0 := RInv.start (K := K) (pn := pn) nl
  have l0 : ([] : List V).length = 0 := rfl
  refine row_ok (fs := ["moves"]) (is := [0]) T.c_Moves (by decide +kernel) (by decide) i0 (by omega) hv1 ok1 rfl (fun _ _ _ _ => .cons rfl .nil) fun G1 rs1 o1 p4 p5 p6 p7 i1 l1 => ?_
  refine row_ok (fs := ["what"]) (is := [0]) T.c_Kept (by decide +kernel) (by decide) i1 (by omega) hv1 ok1 rfl (fun _ _ _ _ => .cons rfl .nil) fun G2 rs2 o2 p4 p5 p6 p7 i2 l2 => ?_
  refine row_ok (fs := ["numbers"]) (is := [0]) T.c_Bounded (by decide +kernel) (by decide) i2 (by omega) hv1 ok1 rfl (fun _ _ _ _ => .cons rfl .nil) fun G3 rs3 o3 p4 p5 p6 p7 i3 l3 => ?_
  refine row_ok (fs := ["other"]) (is := [0]) T.c_Crossed (by decide +kernel) (by decide) i3 (by omega) hv1 ok1 rfl (fun _ _ _ _ => .cons rfl .nil) fun G4 rs4 o4 p4 p5 p6 p7 i4 l4 => ?_
  refine row_ok (fs := ["turn"]) (is := [0]) T.c_Renamed (by decide +kernel) (by decide) i4 (by omega) hv1 ok1 rfl (fun _ _ _ _ => .cons rfl .nil) fun G5 rs5 o5 p4 p5 p6 p7 i5 l5 => ?_
  refine row_ok (fs := ["words"]) (is := [0]) T.c_Apart (by decide +kernel) (by decide) i5 (by omega) hv1 ok1 rfl (fun _ _ _ _ => .cons rfl .nil) fun G6 rs6 o6 p4 p5 p6 p7 i6 l6 => ?_
  refine row_ok (fs := ["names"]) (is := [0]) T.c_Step (by decide +kernel) (by decide) i6 (by omega) hv1 ok1 rfl (fun _ _ _ _ => .cons rfl .nil) fun G7 rs7 o7 p4 p5 p6 p7 i7 l7 => ?_
  refine row_ok (fs := ["word"]) (is := [0]) T.c_Loop (by decide +kernel) (by decide) i7 (by omega) hv1 ok1 rfl (fun _ _ _ _ => .cons rfl .nil) fun G8 rs8 o8 p4 p5 p6 p7 i8 l8 => ?_
  refine row_ok (fs := ["sheeting", "first", "second"]) (is := [0, 1, 2]) T.c_Cover (by decide +kernel) (by decide) i8 (by omega) hv3 ok3 rfl (fun _ _ _ _ => .cons rfl (.cons rfl (.cons rfl .nil))) fun G9 rs9 o9 p4 p5 p6 p7 i9 l9 => ?_
  refine row_ok (fs := ["sheeting", "names"]) (is := [0, 1]) T.c_Closed (by decide +kernel) (by decide) i9 (by omega) hv2 ok2 rfl (fun _ _ _ _ => .cons rfl (.cons rfl .nil)) fun G10 rs10 o10 p4 p5 p6 p7 i10 l10 => ?_
  refine ⟨_, rfl, ?_⟩
  exact hQ _ _ _ _ (i10.same.trans hide_le) i10.at_ (i10.rows.same hide_le) i10.nd i10.new (by omega)
end
end K83

namespace K83
open PySem PySem.Spec PyProof.Rows L2 Bs
/-! ### a drawn value -/
/-- what of G was not there in H -/
def newer (H G : Hp) : Hp := fun b => match H b with
  | none => G b
  | some _ => none
theorem newer_at {H G : Hp} {b : Addr} {o : HO} (h : H b = none) (e : G b = some o) : newer H G b = some o := by
  unfold newer
  rw [h]
  exact e
theorem newer_none {H G : Hp} {b : Addr} (e : G b = none) : newer H G b = none := by
  unfold newer
  cases H b with
  | none => exact e
  | some _ => rfl
theorem newer_old {H G : Hp} {b : Addr} {o : HO} (e : H b = some o) : newer H G b = none := by
  unfold newer
  rw [e]
theorem newer_some {H G : Hp} {b : Addr} {o : HO} (h : newer H G b = some o) : H b = none ∧ G b = some o := by
  unfold newer at h
  cases q : H b with
  | none => rw [q] at h; exact ⟨rfl, h⟩
  | some _ => rw [q] at h; cases h
theorem newer_le {H G : Hp} : Same (newer H G) G := fun _ _ h => (newer_some h).2
theorem newer_but {H G G' : Hp} {pn : Addr} {o : HO} (hp : H pn = some o) (e : But pn G G') : Same (newer H G) (newer H G') := fun b u h => by
  obtain ⟨h1, h2⟩ := newer_some h
  exact newer_at h1 (e b u (fun z => by rw [z, hp] at h1; cases h1) h2)
theorem same_but {N H H' : Hp} {pn : Addr} (s : Same N H) (n : N pn = none) (e : But pn H H') : Same N H' := fun b o h => e b o (ne_of_none h n) (s b o h)
inductive Val (K : PySem.W.Frag) (pn : Addr) (N : Hp) : V → PyData → Prop
  | lst {q : Addr} {xs : List V} {ds : List PyData} {H0 : Hp} : N q = some (.lst xs) → RpAll K pn H0 xs ds → H0 q = none → Same H0 N → Val K pn N (.ref q) (.list ds)
  | oth {v : V} {d : PyData} : Rp K pn N v d → isL d = false → Val K pn N v d
def spValue (K : PySem.W.Frag) : Sp := fun vs H Q _ => ∃ (pn cn : Addr) (n : Nat), vs = [.ref pn] ∧ PenAt H pn cn n ∧ n < 100000 ∧ ∀ H' v d, But pn H H' → PenAt H' pn cn (n + 4) → Val K pn (newer H H') v d → Sm d → Q v H'
theorem sm3 {a b c : Int} (ha : 0 ≤ a ∧ a < 9) (hb : 0 ≤ b ∧ b < 9) (hc : 0 ≤ c ∧ c < 9) : Sm (.list [.int a, .int b, .int c]) := by
  have w : ∀ i : Int, 0 ≤ i ∧ i < 9 → (PyData.int i).weight ≤ 4 := fun i hi => by
    show (if i == 0 then 0 else i.natAbs.log2 + 1) ≤ 4
    split
    · decide
    · rename_i h
      have h0 : i.natAbs ≠ 0 := fun z => h (by rw [Int.natAbs_eq_zero.mp z]; rfl)
      have : i.natAbs.log2 < 4 := (Nat.log2_lt h0).mpr (by show i.natAbs < 16; omega)
      omega
  have s : ∀ i : Int, 0 ≤ i ∧ i < 9 → smD (.int i) = true := fun i hi => by
    show decide (i.natAbs < 10 ^ 12) = true
    exact decide_eq_true (by omega)
  refine ⟨?_, ?_, ?_⟩
  · show (smD (.int a) && (smD (.int b) && (smD (.int c) && true))) = true
    rw [s a ha, s b hb, s c hc]
    rfl
  · show max 0 (max 0 (max 0 0)) + 1 ≤ 8
    decide
  · show (PyData.int a).weight + 1 + ((PyData.int b).weight + 1 + ((PyData.int c).weight + 1 + 0)) ≤ 1000
    have := w a ha
    have := w b hb
    have := w c hc
    omega
section
variable {P : Program} {w : World} {K : PySem.W.Frag} {mg : Str → Option Value} {base : Heap}
theorem pr__law_value (T : Fx K mg) : Pr P w K mg base CX0 3 (He.ga K "_law_value") ["pen"] (spValue K) := by
  have C__law_draw := pr__law_draw (P := P) (w := w) (base := base) T
  have C__law_pick := pr__law_pick (P := P) (w := w) (base := base) T
  obtain ⟨fd, F⟩ := T.f__law_value
  refine ⟨fd, F.ok sc__law_value (fun vs H Q E h => ?_) (fun cdv A outer s H vs Q E hr h => ⟨_, PSs.nox (pss_cons (ps_set (i := 1) sc__law_value.nd rfl (by first | exact Or.inl rfl | exact Or.inr rfl) (pe_lst (pa_cons (pe_tup (pa_cons pe_int (pa_cons pe_int pa_nil))) (pa_cons (pe_lst (pa_cons pe_int (pa_cons (pe_lst (pa_cons pe_int pa_nil)) pa_nil))) (pa_cons (pe_lst pa_nil) (pa_cons (pe_tup pa_nil) (pa_cons pe_str (pa_cons pe_int (pa_cons pe_non (pa_cons pe_bl (pa_cons (pe_tup (pa_cons (pe_tup (pa_cons pe_int (pa_cons pe_int pa_nil))) pa_nil)) (pa_cons (pe_lst (pa_cons (pe_lst (pa_cons pe_int pa_nil)) (pa_cons (pe_lst (pa_cons pe_int pa_nil)) pa_nil))) (pa_cons (pe_disp (pps_cons pe_str pe_int pps_nil) (by rfl) (by rfl) (fun z => by cases z) (by decide)) (pa_cons (pe_un un_neg pe_int) (pa_cons pe_str (pa_cons (pe_lst (pa_cons pe_non pa_nil)) pa_nil))))))))))))))))
      (pss_one (ps_ret (pe_callP C__law_pick hr (by rfl) T.g__law_pick pass0 (pa_cons (pv 0) (pa_cons (pe_op op_cat (pv 1) (pe_lst (pa_cons (pe_lc (own := [("k", 2)]) (g := gName 2) (tt := tYes) rfl sc__law_value.nd (pi_range1 (by rfl) T.n_range (pa_cons pe_int pa_nil)) (blkOk_by (N := N__law_value) (sc := defScope s__law_value) (by decide +kernel)) (fun _ _ _ _ _ => (pg_name (i := 2) sc__law_value.nd rfl (by first | exact Or.inl rfl | exact Or.inr rfl))) (fun _ _ _ _ _ => pts_nil) (fun _ _ _ _ _ => (pe_callP C__law_draw hr (by rfl) T.g__law_draw pass0 (pa_cons (pv 0) (pa_cons pe_int pa_nil))))) pa_nil))) pa_nil)))))), ?_⟩), F.bindsN (fun _ _ _ _ _ _ us hl => match us, hl with | [_], _ => rfl), F.kp⟩
  · obtain ⟨_, _, _, rfl, _⟩ := h
    rfl
  obtain ⟨pn, cn, n, rfl, hp, hn, hQ⟩ := h
  obtain ⟨kv0, hd⟩ := hp.dict
  obtain ⟨G0, hG0⟩ : ∃ G, G = H := ⟨_, rfl⟩
  rw [← hG0] at hp hd hQ ⊢
  refine ⟨(show 2 ≤ sizeLine by decide), fun p1 f1 => ?_⟩
  have b1 : (upd G0 p1 (.tup [.int (1), .int (2)])) p1 = some (.tup [.int (1), .int (2)]) := upd_same ..
  have e1 : Same G0 (upd G0 p1 (.tup [.int (1), .int (2)])) := sameNew f1
  generalize (upd G0 p1 (.tup [.int (1), .int (2)])) = G1 at b1 e1 ⊢
  refine ⟨(show 1 ≤ sizeLine by decide), fun p2 f2 => ?_⟩
  have b2 : (upd G1 p2 (.lst [.int (2)])) p2 = some (.lst [.int (2)]) := upd_same ..
  have e2 : Same G1 (upd G1 p2 (.lst [.int (2)])) := sameNew f2
  generalize (upd G1 p2 (.lst [.int (2)])) = G2 at b2 e2 ⊢
  refine ⟨(show 2 ≤ sizeLine by decide), fun p3 f3 => ?_⟩
  have b3 : (upd G2 p3 (.lst [.int (1), .ref p2])) p3 = some (.lst [.int (1), .ref p2]) := upd_same ..
  have e3 : Same G2 (upd G2 p3 (.lst [.int (1), .ref p2])) := sameNew f3
  generalize (upd G2 p3 (.lst [.int (1), .ref p2])) = G3 at b3 e3 ⊢
  refine ⟨(show 0 ≤ sizeLine by decide), fun p4 f4 => ?_⟩
  have b4 : (upd G3 p4 (.lst [])) p4 = some (.lst []) := upd_same ..
  have e4 : Same G3 (upd G3 p4 (.lst [])) := sameNew f4
  generalize (upd G3 p4 (.lst [])) = G4 at b4 e4 ⊢
  refine ⟨(show 0 ≤ sizeLine by decide), fun p5 f5 => ?_⟩
  have b5 : (upd G4 p5 (.tup [])) p5 = some (.tup []) := upd_same ..
  have e5 : Same G4 (upd G4 p5 (.tup [])) := sameNew f5
  generalize (upd G4 p5 (.tup [])) = G5 at b5 e5 ⊢
  refine ⟨(show 2 ≤ sizeLine by decide), fun p6 f6 => ?_⟩
  have b6 : (upd G5 p6 (.tup [.int (0), .int (1)])) p6 = some (.tup [.int (0), .int (1)]) := upd_same ..
  have e6 : Same G5 (upd G5 p6 (.tup [.int (0), .int (1)])) := sameNew f6
  generalize (upd G5 p6 (.tup [.int (0), .int (1)])) = G6 at b6 e6 ⊢
  refine ⟨(show 1 ≤ sizeLine by decide), fun p7 f7 => ?_⟩
  have b7 : (upd G6 p7 (.tup [.ref p6])) p7 = some (.tup [.ref p6]) := upd_same ..
  have e7 : Same G6 (upd G6 p7 (.tup [.ref p6])) := sameNew f7
  generalize (upd G6 p7 (.tup [.ref p6])) = G7 at b7 e7 ⊢
  refine ⟨(show 1 ≤ sizeLine by decide), fun p8 f8 => ?_⟩
  have b8 : (upd G7 p8 (.lst [.int (0)])) p8 = some (.lst [.int (0)]) := upd_same ..
  have e8 : Same G7 (upd G7 p8 (.lst [.int (0)])) := sameNew f8
  generalize (upd G7 p8 (.lst [.int (0)])) = G8 at b8 e8 ⊢
  refine ⟨(show 1 ≤ sizeLine by decide), fun p9 f9 => ?_⟩
  have b9 : (upd G8 p9 (.lst [.int (1)])) p9 = some (.lst [.int (1)]) := upd_same ..
  have e9 : Same G8 (upd G8 p9 (.lst [.int (1)])) := sameNew f9
  generalize (upd G8 p9 (.lst [.int (1)])) = G9 at b9 e9 ⊢
  refine ⟨(show 2 ≤ sizeLine by decide), fun p10 f10 => ?_⟩
  have b10 : (upd G9 p10 (.lst [.ref p8, .ref p9])) p10 = some (.lst [.ref p8, .ref p9]) := upd_same ..
  have e10 : Same G9 (upd G9 p10 (.lst [.ref p8, .ref p9])) := sameNew f10
  generalize (upd G9 p10 (.lst [.ref p8, .ref p9])) = G10 at b10 e10 ⊢
  refine fun p11 f11 => ⟨upd_same .., [(.inr "a", .int 1)], rfl, (show 1 ≤ 15 by decide), ?_⟩
  have b11 : (upd (upd G10 p11 (.dK [])) p11 (.dK (mergeK [] [((.inr "a" : Key), V.int 1)]))) p11 = some (.dK [(.inr "a", .int 1)]) := upd_same ..
  have e11 : Same G10 (upd (upd G10 p11 (.dK [])) p11 (.dK (mergeK [] [((.inr "a" : Key), V.int 1)]))) := sameUp (sameNew f11) f11
  generalize (upd (upd G10 p11 (.dK [])) p11 (.dK (mergeK [] [((.inr "a" : Key), V.int 1)]))) = G11 at b11 e11 ⊢
  refine ⟨_, rfl, (show 1 ≤ sizeLine by decide), fun p12 f12 => ?_⟩
  have b12 : (upd G11 p12 (.lst [.non])) p12 = some (.lst [.non]) := upd_same ..
  have e12 : Same G11 (upd G11 p12 (.lst [.non])) := sameNew f12
  generalize (upd G11 p12 (.lst [.non])) = G12 at b12 e12 ⊢
  refine ⟨(show 14 ≤ sizeLine by decide), fun p13 f13 => ?_⟩
  have b13 : (upd G12 p13 (.lst [.ref p1, .ref p3, .ref p4, .ref p5, .str "web", .int (5), .non, .bl true, .ref p7, .ref p10, .ref p11, .int (-3), .str "", .ref p12])) p13 = some (.lst [.ref p1, .ref p3, .ref p4, .ref p5, .str "web", .int (5), .non, .bl true, .ref p7, .ref p10, .ref p11, .int (-3), .str "", .ref p12]) := upd_same ..
  have e13 : Same G12 (upd G12 p13 (.lst [.ref p1, .ref p3, .ref p4, .ref p5, .str "web", .int (5), .non, .bl true, .ref p7, .ref p10, .ref p11, .int (-3), .str "", .ref p12])) := sameNew f13
  generalize (upd G12 p13 (.lst [.ref p1, .ref p3, .ref p4, .ref p5, .str "web", .int (5), .non, .bl true, .ref p7, .ref p10, .ref p11, .int (-3), .str "", .ref p12])) = G13 at b13 e13 ⊢
  have D0 : G0 pn = some (.dK kv0) := hd
  have D1 : G1 pn = some (.dK kv0) := e1 _ _ D0
  have D2 : G2 pn = some (.dK kv0) := e2 _ _ D1
  have D3 : G3 pn = some (.dK kv0) := e3 _ _ D2
  have D4 : G4 pn = some (.dK kv0) := e4 _ _ D3
  have D5 : G5 pn = some (.dK kv0) := e5 _ _ D4
  have D6 : G6 pn = some (.dK kv0) := e6 _ _ D5
  have D7 : G7 pn = some (.dK kv0) := e7 _ _ D6
  have D8 : G8 pn = some (.dK kv0) := e8 _ _ D7
  have D9 : G9 pn = some (.dK kv0) := e9 _ _ D8
  have D10 : G10 pn = some (.dK kv0) := e10 _ _ D9
  have D11 : G11 pn = some (.dK kv0) := e11 _ _ D10
  have D12 : G12 pn = some (.dK kv0) := e12 _ _ D11
  have D13 : G13 pn = some (.dK kv0) := e13 _ _ D12
  have n1 : p1 ≠ pn := fun z => by rw [z, D0] at f1; cases f1
  have n2 : p2 ≠ pn := fun z => by rw [z, D1] at f2; cases f2
  have n3 : p3 ≠ pn := fun z => by rw [z, D2] at f3; cases f3
  have n4 : p4 ≠ pn := fun z => by rw [z, D3] at f4; cases f4
  have n5 : p5 ≠ pn := fun z => by rw [z, D4] at f5; cases f5
  have n6 : p6 ≠ pn := fun z => by rw [z, D5] at f6; cases f6
  have n7 : p7 ≠ pn := fun z => by rw [z, D6] at f7; cases f7
  have n8 : p8 ≠ pn := fun z => by rw [z, D7] at f8; cases f8
  have n9 : p9 ≠ pn := fun z => by rw [z, D8] at f9; cases f9
  have n10 : p10 ≠ pn := fun z => by rw [z, D9] at f10; cases f10
  have n11 : p11 ≠ pn := fun z => by rw [z, D10] at f11; cases f11
  have n12 : p12 ≠ pn := fun z => by rw [z, D11] at f12; cases f12
  have n13 : p13 ≠ pn := fun z => by rw [z, D12] at f13; cases f13
  have z1 : G0 p1 = none := f1
  have z2 : G0 p2 = none := Same.free (e1) f2
  have z3 : G0 p3 = none := Same.free ((e1).trans e2) f3
  have z4 : G0 p4 = none := Same.free (((e1).trans e2).trans e3) f4
  have z5 : G0 p5 = none := Same.free ((((e1).trans e2).trans e3).trans e4) f5
  have z6 : G0 p6 = none := Same.free (((((e1).trans e2).trans e3).trans e4).trans e5) f6
  have z7 : G0 p7 = none := Same.free ((((((e1).trans e2).trans e3).trans e4).trans e5).trans e6) f7
  have z8 : G0 p8 = none := Same.free (((((((e1).trans e2).trans e3).trans e4).trans e5).trans e6).trans e7) f8
  have z9 : G0 p9 = none := Same.free ((((((((e1).trans e2).trans e3).trans e4).trans e5).trans e6).trans e7).trans e8) f9
  have z10 : G0 p10 = none := Same.free (((((((((e1).trans e2).trans e3).trans e4).trans e5).trans e6).trans e7).trans e8).trans e9) f10
  have z11 : G0 p11 = none := Same.free ((((((((((e1).trans e2).trans e3).trans e4).trans e5).trans e6).trans e7).trans e8).trans e9).trans e10) f11
  have z12 : G0 p12 = none := Same.free (((((((((((e1).trans e2).trans e3).trans e4).trans e5).trans e6).trans e7).trans e8).trans e9).trans e10).trans e11) f12
  have z13 : G0 p13 = none := Same.free ((((((((((((e1).trans e2).trans e3).trans e4).trans e5).trans e6).trans e7).trans e8).trans e9).trans e10).trans e11).trans e12) f13
  have E13 : Same G13 G13 := Same.refl _
  have E12 : Same G12 G13 := e13.trans E13
  have E11 : Same G11 G13 := e12.trans E12
  have E10 : Same G10 G13 := e11.trans E11
  have E9 : Same G9 G13 := e10.trans E10
  have E8 : Same G8 G13 := e9.trans E9
  have E7 : Same G7 G13 := e8.trans E8
  have E6 : Same G6 G13 := e7.trans E7
  have E5 : Same G5 G13 := e6.trans E6
  have E4 : Same G4 G13 := e5.trans E5
  have E3 : Same G3 G13 := e4.trans E4
  have E2 : Same G2 G13 := e3.trans E3
  have E1 : Same G1 G13 := e2.trans E2
  have E0 : Same G0 G13 := e1.trans E1
  refine ⟨_, rfl, _, rfl, 3, rfl, by decide, by decide, fun D hD => ?_⟩
  refine lc_range (lo := 0) (n := 3) (fun i H' => But pn G13 H' ∧ PenAt H' pn cn (n + i) ∧ ∃ rs : List Int, H' D = some (.lst (rs.map V.int)) ∧ rs.length = i ∧ ∀ r ∈ rs, 0 ≤ r ∧ r < 9) ?_ ?_ ?_
  · exact ⟨But.of_same (sameNew hD), (hp.same E0).same (sameNew hD), [], upd_same .., rfl, fun r h => absurd h (List.not_mem_nil)⟩
  · rintro i H' hi ⟨bt, hp', rs, hrs, hl, hr9⟩
    refine ⟨rfl, _, rfl, pn, cn, 9, n + i, rfl, by decide, by decide, hp', by omega, fun r H2 r0 r1 b2 hp2 => ?_⟩
    have nD : D ≠ pn := fun z => by rw [z, D13] at hD; cases hD
    have h2 : H2 D = some (.lst (rs.map V.int)) := b2 _ _ nD hrs
    refine ⟨rs.map V.int, h2, Nat.lt_of_lt_of_le (show (rs.map V.int).length < 10 by rw [List.length_map]; omega) (by decide), ?_⟩
    refine ⟨fun b u nb h => (upd_ne (ne_of_none h hD)).trans (b2 _ _ nb (bt _ _ nb h)), ?_, rs ++ [r], (upd_same ..).trans (by rw [List.map_append]; rfl), by rw [List.length_append, hl]; rfl, fun x hx => ?_⟩
    · exact PenAt.upd nD (fun z => by rw [z] at hD; obtain ⟨_, _, _, _, _, _, q, _⟩ := hp.same E0; rw [q] at hD; cases hD) hp2
    · rcases List.mem_append.mp hx with hx | hx
      · exact hr9 x hx
      · rw [List.mem_singleton.mp hx]; exact ⟨r0, r1⟩
  · rintro H1 ⟨bt, hp1, rs, hrs, hl, hr9⟩
    obtain ⟨r0, r1, r2, rfl⟩ : ∃ a b c, rs = [a, b, c] := by
      match rs, hl with
      | [a, b, c], _ => exact ⟨a, b, c, rfl⟩
    have nD : D ≠ pn := fun z => by rw [z, D13] at hD; cases hD
    refine ⟨(show 1 ≤ sizeLine by decide), fun q1 g1 => ?_⟩
    refine ⟨_, _, _, _, rfl, rfl, (sameNew g1) _ _ (bt _ _ n13 (E13 _ _ b13)), upd_same .., (show 15 ≤ sizeLine by decide), fun q2 g2 => ?_⟩
    have s12 : Same H1 (upd (upd H1 q1 (.lst [.ref D])) q2 (.lst ([.ref p1, .ref p3, .ref p4, .ref p5, .str "web", .int (5), .non, .bl true, .ref p7, .ref p10, .ref p11, .int (-3), .str "", .ref p12] ++ [.ref D]))) := (sameNew g1).trans (sameNew g2)
    have bq : (upd (upd H1 q1 (.lst [.ref D])) q2 (.lst ([.ref p1, .ref p3, .ref p4, .ref p5, .str "web", .int (5), .non, .bl true, .ref p7, .ref p10, .ref p11, .int (-3), .str "", .ref p12] ++ [.ref D]))) q2 = some (.lst ([.ref p1, .ref p3, .ref p4, .ref p5, .str "web", .int (5), .non, .bl true, .ref p7, .ref p10, .ref p11, .int (-3), .str "", .ref p12] ++ [.ref D])) := upd_same ..
    generalize (upd (upd H1 q1 (.lst [.ref D])) q2 (.lst ([.ref p1, .ref p3, .ref p4, .ref p5, .str "web", .int (5), .non, .bl true, .ref p7, .ref p10, .ref p11, .int (-3), .str "", .ref p12] ++ [.ref D]))) = H2 at s12 bq ⊢
    refine ⟨pn, cn, q2, _, n + 3, rfl, .inl (SqL.of bq), List.cons_ne_nil _ _, (show 15 < 1000000 by decide), hp1.same s12, by omega, fun i x H3 hx bu pen' => ?_⟩
    have but' : But pn G13 H3 := fun b o nb h => bu b o nb (s12 _ _ (bt b o nb h))
    have at_ : ∀ {p : Addr} {o : HO}, G0 p = none → G13 p = some o → newer G0 H3 p = some o := fun z h => newer_at z (but' _ _ (fun e => by rw [e, hd] at z; cases z) h)
    match i, hx with
    | 0, hx =>
      cases hx
      exact hQ _ _ (.tuple [.int (1), .int (2)]) (But.trans (But.of_same E0) but') pen' (.oth (.tup (SqT.of (at_ z1 (E1 _ _ b1))) (.cons (.int (1)) (.cons (.int (2)) .nil))) rfl) ⟨by decide +kernel, by decide +kernel, by decide +kernel⟩
    | 1, hx =>
      cases hx
      exact hQ _ _ (.list [.int (1), .list [.int (2)]]) (But.trans (But.of_same E0) but') pen' (.lst (at_ z3 (E3 _ _ b3)) (show RpAll K pn (newer G0 G2) _ _ from (.cons (.int (1)) (.cons (.lst (SqL.of (newer_at z2 (b2))) (.cons (.int (2)) .nil)) .nil))) (newer_none f3) (newer_but hd (But.trans (But.of_same E2) but'))) ⟨by decide +kernel, by decide +kernel, by decide +kernel⟩
    | 2, hx =>
      cases hx
      exact hQ _ _ (.list []) (But.trans (But.of_same E0) but') pen' (.lst (at_ z4 (E4 _ _ b4)) (show RpAll K pn (newer G0 G3) _ _ from .nil) (newer_none f4) (newer_but hd (But.trans (But.of_same E3) but'))) ⟨by decide +kernel, by decide +kernel, by decide +kernel⟩
    | 3, hx =>
      cases hx
      exact hQ _ _ (.tuple []) (But.trans (But.of_same E0) but') pen' (.oth (.tup (SqT.of (at_ z5 (E5 _ _ b5))) .nil) rfl) ⟨by decide +kernel, by decide +kernel, by decide +kernel⟩
    | 4, hx =>
      cases hx
      exact hQ _ _ (.str "web") (But.trans (But.of_same E0) but') pen' (.oth (.str "web") rfl) ⟨by decide +kernel, by decide +kernel, by decide +kernel⟩
    | 5, hx =>
      cases hx
      exact hQ _ _ (.int (5)) (But.trans (But.of_same E0) but') pen' (.oth (.int (5)) rfl) ⟨by decide +kernel, by decide +kernel, by decide +kernel⟩
    | 6, hx =>
      cases hx
      exact hQ _ _ (.none) (But.trans (But.of_same E0) but') pen' (.oth .non rfl) ⟨by decide +kernel, by decide +kernel, by decide +kernel⟩
    | 7, hx =>
      cases hx
      exact hQ _ _ (.bool true) (But.trans (But.of_same E0) but') pen' (.oth (.bl true) rfl) ⟨by decide +kernel, by decide +kernel, by decide +kernel⟩
    | 8, hx =>
      cases hx
      exact hQ _ _ (.tuple [.tuple [.int (0), .int (1)]]) (But.trans (But.of_same E0) but') pen' (.oth (.tup (SqT.of (at_ z7 (E7 _ _ b7))) (.cons (.tup (SqT.of (at_ z6 (E6 _ _ b6))) (.cons (.int (0)) (.cons (.int (1)) .nil))) .nil)) rfl) ⟨by decide +kernel, by decide +kernel, by decide +kernel⟩
    | 9, hx =>
      cases hx
      exact hQ _ _ (.list [.list [.int (0)], .list [.int (1)]]) (But.trans (But.of_same E0) but') pen' (.lst (at_ z10 (E10 _ _ b10)) (show RpAll K pn (newer G0 G9) _ _ from (.cons (.lst (SqL.of (newer_at z8 ((e9 _ _ b8)))) (.cons (.int (0)) .nil)) (.cons (.lst (SqL.of (newer_at z9 (b9))) (.cons (.int (1)) .nil)) .nil))) (newer_none f10) (newer_but hd (But.trans (But.of_same E9) but'))) ⟨by decide +kernel, by decide +kernel, by decide +kernel⟩
    | 10, hx =>
      cases hx
      exact hQ _ _ (.dict [(.str "a", .int 1)]) (But.trans (But.of_same E0) but') pen' (.oth (.dic n11 (at_ z11 (E11 _ _ b11)) (.cons (.int 1) .nil)) rfl) ⟨by decide +kernel, by decide +kernel, by decide +kernel⟩
    | 11, hx =>
      cases hx
      exact hQ _ _ (.int (-3)) (But.trans (But.of_same E0) but') pen' (.oth (.int (-3)) rfl) ⟨by decide +kernel, by decide +kernel, by decide +kernel⟩
    | 12, hx =>
      cases hx
      exact hQ _ _ (.str "") (But.trans (But.of_same E0) but') pen' (.oth (.str "") rfl) ⟨by decide +kernel, by decide +kernel, by decide +kernel⟩
    | 13, hx =>
      cases hx
      exact hQ _ _ (.list [.none]) (But.trans (But.of_same E0) but') pen' (.lst (at_ z12 (E12 _ _ b12)) (show RpAll K pn (newer G0 G11) _ _ from (.cons .non .nil)) (newer_none f12) (newer_but hd (But.trans (But.of_same E11) but'))) ⟨by decide +kernel, by decide +kernel, by decide +kernel⟩
    | 14, hx =>
      cases hx
      refine hQ _ _ (.list [.int r0, .int r1, .int r2]) (But.trans (But.of_same E0) but') pen' (.lst (newer_at (E0.free hD) (bu _ _ nD (s12 _ _ hrs))) (show RpAll K pn (newer G0 G13) _ _ from .cons (.int r0) (.cons (.int r1) (.cons (.int r2) .nil))) (newer_none hD) (newer_but hd but')) (sm3 (hr9 _ (.head _)) (hr9 _ (.tail _ (.head _))) (hr9 _ (.tail _ (.tail _ (.head _)))))
    | i + 15, hx => cases hx
end
end K83

namespace K83
open PySem PySem.Spec PyProof.Rows L2 Bs
theorem iteDT {c A B : Prop} [Decidable c] (h : c) (hA : A) : if decide c = true then A else B := by
  rw [if_pos (decide_eq_true h)]
  exact hA
theorem iteDF {c A B : Prop} [Decidable c] (h : ¬ c) (hB : B) : if decide c = true then A else B := by
  rw [if_neg (by rw [decide_eq_false h]; exact Bool.false_ne_true)]
  exact hB
theorem iteNF {c A B : Prop} [Decidable c] (h : ¬ c) (hA : A) : if (!decide c) = true then A else B := by
  rw [if_pos (by rw [decide_eq_false h]; rfl)]
  exact hA
theorem sm_all : ∀ {ds : List PyData}, (∀ d ∈ ds, Sm d) → smAll (ds.map cp) = true ∧ PyData.depthAll (ds.map cp) ≤ 8 ∧ PyData.weightAll (ds.map cp) ≤ 1001 * ds.length
  | [], _ => ⟨rfl, Nat.zero_le _, Nat.zero_le _⟩
  | d :: ds, h => by
    obtain ⟨h1, h2, h3⟩ := sm_all (ds := ds) fun x hx => h x (.tail _ hx)
    have s := h d (.head _)
    refine ⟨?_, ?_, ?_⟩
    · show (smD (cp d) && smAll (ds.map cp)) = true
      rw [s.sm, h1]
      rfl
    · show max (cp d).depth (PyData.depthAll (ds.map cp)) ≤ 8
      exact Nat.max_le.mpr ⟨s.dep, h2⟩
    · show (cp d).weight + 1 + PyData.weightAll (ds.map cp) ≤ 1001 * (ds.length + 1)
      have := s.wei
      omega
theorem fit_row {ds : List PyData} (h : ∀ d ∈ ds, Sm d) (hl : ds.length ≤ 3) : Fit (.list (ds.map cp)) := by
  obtain ⟨h1, h2, h3⟩ := sm_all h
  refine fit_sm (by show smAll (ds.map cp) = true; exact h1) ?_ ?_
  · show PyData.depthAll (ds.map cp) + 1 ≤ 32
    omega
  · show PyData.weightAll (ds.map cp) ≤ 1000000
    omega
theorem fit_cp {d : PyData} (s : Sm d) : Fit (cp d) := fit_sm s.sm (Nat.le_trans s.dep (by decide)) (Nat.le_trans s.wei (by decide))
section
variable {K : PySem.W.Frag} {pn : Addr} {H H' : Hp}
theorem Val.vin {v : V} {d : PyData} (h : Val K pn H v d) : VIn K pn H v d := by
  cases h with
  | lst h1 h2 h3 h4 => exact .lst h1 (h2.same h4)
  | oth h1 h2 => exact .oth h1 h2
theorem weight_len : ∀ ds : List PyData, ds.length ≤ PyData.weightAll ds
  | [] => Nat.zero_le _
  | d :: ds => by
    have := weight_len ds
    show ds.length + 1 ≤ d.weight + 1 + PyData.weightAll ds
    omega
theorem t_make1 {Q : VK} {C : Addr} {fs : List Str} {σ : L2.St} {t : TA} {xs : List V} {ds : List PyData} (ht : ∀ R : List V → Hp → Prop, R xs H → t σ H R) (hv : VAll K pn H xs ds) (hl : xs.length = fs.length)
    (k : ∀ r dx ys H', H r = none → Same H H' → H' r = some (.ins C dx (fs.zip ys)) → CpAll K pn H H' xs ds ys → Q (.ref r) H') : tMake C (spInit K C fs) [] E0 t σ H Q := by
  refine ht _ ?_
  rw [List.append_nil]
  intro x dx nx nd ne
  exact mk_of (Q := Q) hv hl k x dx nx nd ne
/-- what the second loop sees of the rows -/
def RowF (K : PySem.W.Frag) (H : Hp) (rs : List V) (os : List Addr) : Prop := ∀ (k : Nat) (r : V), rs[k]? = some r → ∃ (t o C dx : Addr) (rest : List V) (g : List (Str × V)), r = .ref t ∧ os[k]? = some o ∧ H t = some (.tup (.ref o :: rest)) ∧ H o = some (.ins C dx g) ∧ cmpB K C = true
theorem RowsR.rowF {rs : List V} {os : List Addr} (h : RowsR K pn H rs os) : RowF K H rs os := fun k r e => by
  obtain ⟨o, ho, t, two, fi, se, ha, C1, C2, d1, d2, g1, g2, xs1, xs2, hs, ds, h1, h2, h3, h4, ⟨h5, _⟩, _⟩ := h.get e
  exact ⟨t, o, C1, d1, _, g1, h1, ho, h2, h3, h5⟩
theorem RowF.but (e : But pn H H') {kvs : List (Key × V)} (hp : H pn = some (.dK kvs)) {rs : List V} {os : List Addr} (h : RowF K H rs os) : RowF K H' rs os := fun k r q => by
  obtain ⟨t, o, C, dx, rest, g, h1, h2, h3, h4, h5⟩ := h k r q
  exact ⟨t, o, C, dx, rest, g, h1, h2, e _ _ (ne_of h3 hp (fun z => nomatch z)) h3, e _ _ (ne_of h4 hp (fun z => nomatch z)) h4, h5⟩
end
def Sh (a pn D rl : Addr) (σ : L2.St) : Prop := ∃ o2 o4 o5 o6 o7 o9 o10 o11 o12 o13 o14 o15 o16 o17 o18 : Option V, σ = [some (.ref a), some (.ref pn), o2, some (.ref D), o4, o5, o6, o7, some (.ref rl), o9, o10, o11, o12, o13, o14, o15, o16, o17, o18]
theorem VAll.get {K : PySem.W.Frag} {pn : Addr} {H : Hp} : ∀ {vs : List V} {ds : List PyData} {i : Nat} {v : V}, VAll K pn H vs ds → vs[i]? = some v → ∃ d, ds[i]? = some d ∧ VIn K pn H v d
  | _, _, i, _, .nil, e => by cases i <;> cases e
  | _, _, 0, _, .cons h _, e => by cases e; exact ⟨_, rfl, h⟩
  | _, _, i + 1, _, .cons _ k, e => VAll.get (i := i) k e
theorem VAll.length {K : PySem.W.Frag} {pn : Addr} {H : Hp} : ∀ {vs : List V} {ds : List PyData}, VAll K pn H vs ds → vs.length = ds.length
  | _, _, .nil => rfl
  | _, _, .cons _ k => congrArg Nat.succ (VAll.length k)
def spLaw (K : PySem.W.Frag) : Sp := fun vs H Q _ => ∃ (a : Addr) (ns : List Int), vs = [.ref a] ∧ SqL K H a (ns.map V.int) ∧ ns.length ≤ 63 ∧ ∀ H', Q (.bl true) H'
section
variable {P : Program} {w : World} {K : PySem.W.Frag} {mg : Str → Option Value} {base : Heap}
theorem pr_law (T : Fx K mg) {fd : FuncData} (F : FunD K "law" "law" (defArgs s_law) (defBody s_law) (defScope s_law) [] [] (He.ga K "law") fd) : FnG P w K mg base CX0 5 (He.ga K "law") fd ["script"] (spLaw K) := by
  have C__law_pen := pr__law_pen (P := P) (w := w) (base := base) T
  have C__law_draw := pr__law_draw (P := P) (w := w) (base := base) T
  have C__law_value := pr__law_value (P := P) (w := w) (base := base) T
  have C__law_copy := pr__law_copy (P := P) (w := w) (base := base) T
  have C__law_made_a := pr__law_made_a (P := P) (w := w) (base := base) T
  have C__law_made_b := pr__law_made_b (P := P) (w := w) (base := base) T
  have C__law_made_c := pr__law_made_c (P := P) (w := w) (base := base) T
  have I_Spelled := pri_Spelled (P := P) (w := w) (base := base) T
  refine okG F sc_law (fun vs H Q E h => ?_) (fun cdv A outer s H vs Q E hr gd h => ⟨_, PSs.nox (pss_cons (ps_set (i := 1) sc_law.nd rfl (by first | exact Or.inl rfl | exact Or.inr rfl) (pe_callP C__law_pen hr (by rfl) T.g__law_pen pass0 (pa_cons (pv 0) pa_nil)))
      (pss_cons (ps_setLc (i := 3) (own := [("k", 2)]) (g := gName 2) (tt := tYes) rfl sc_law.nd rfl rfl (sw_true rfl rfl rfl (by decide +kernel)) (pi_range1 (by rfl) T.n_range (pa_cons pe_int pa_nil)) (blkOk_by (N := N_law) (sc := defScope s_law) (by decide +kernel)) (fun _ _ _ _ _ => (pg_name (i := 2) sc_law.nd rfl (by first | exact Or.inl rfl | exact Or.inr rfl))) (fun _ _ _ _ _ => pts_nil) (fun _ _ _ _ _ => (pe_callP C__law_value hr (by rfl) T.g__law_value pass0 (pa_cons (pv 1) pa_nil))))
      (pss_cons (ps_asg (pe_lc (own := [("value", 4)]) (g := gName 4) (tt := tYes) rfl sc_law.nd (pi_list (pv 3)) (blkOk_by (N := N_law) (sc := defScope s_law) (by decide +kernel)) (fun _ _ _ _ _ => (pg_name (i := 4) sc_law.nd rfl (by first | exact Or.inl rfl | exact Or.inr rfl))) (fun _ _ _ _ _ => pts_nil) (fun _ _ _ _ _ => (pe_ifExp (pt_val (pe_callB (call_isi_k (K := K)  rfl) (by rfl) T.n_isinstance (by decide +kernel) (pa_cons (pv 4) (pa_cons (pe_bltn (v := .ty "list") (by rfl) T.n_list (by decide +kernel) rfl) pa_nil)))) (pe_callTy (call_list_of_k (K := K)  rfl) (by rfl) T.n_list (by decide +kernel) (pa_cons (pv 4) pa_nil)) (pv 4)))) (pg_lst rfl (pgs_cons (pg_name (i := 5) sc_law.nd rfl (by first | exact Or.inl rfl | exact Or.inr rfl)) (pgs_cons (pg_name (i := 6) sc_law.nd rfl (by first | exact Or.inl rfl | exact Or.inr rfl)) (pgs_cons (pg_name (i := 7) sc_law.nd rfl (by first | exact Or.inl rfl | exact Or.inr rfl)) pgs_nil)))))
      (C8.pss_cut (ps_set (i := 8) sc_law.nd rfl (by first | exact Or.inl rfl | exact Or.inr rfl) (pe_op op_cat (pe_op op_cat (pe_callP C__law_made_a hr (by rfl) T.g__law_made_a pass0 (pa_cons (pv 5) (pa_cons (pv 6) (pa_cons (pv 7) pa_nil)))) (pe_callP C__law_made_b hr (by rfl) T.g__law_made_b pass0 (pa_cons (pv 5) (pa_cons (pv 6) (pa_cons (pv 7) pa_nil))))) (pe_callP C__law_made_c hr (by rfl) T.g__law_made_c pass0 (pa_cons (pv 5) (pa_cons (pv 6) (pa_cons (pv 7) pa_nil))))))
      (C8.pss_cut (ps_for PassesOwn.never rfl (pi_list (pv 8)) (pg_tup rfl (pgs_cons (pg_name (i := 9) sc_law.nd rfl (by first | exact Or.inl rfl | exact Or.inr rfl)) (pgs_cons (pg_name (i := 10) sc_law.nd rfl (by first | exact Or.inl rfl | exact Or.inr rfl)) (pgs_cons (pg_name (i := 11) sc_law.nd rfl (by first | exact Or.inl rfl | exact Or.inr rfl)) (pgs_cons (pg_name (i := 12) sc_law.nd rfl (by first | exact Or.inl rfl | exact Or.inr rfl)) (pgs_cons (pg_name (i := 13) sc_law.nd rfl (by first | exact Or.inl rfl | exact Or.inr rfl)) (pgs_cons (pg_name (i := 14) sc_law.nd rfl (by first | exact Or.inl rfl | exact Or.inr rfl)) pgs_nil))))))) (pss_cons (ps_set (i := 15) sc_law.nd rfl (by first | exact Or.inl rfl | exact Or.inr rfl) (pe_callB (call_repr T.mods gd hr.units) (by rfl) T.n_repr (by decide +kernel) (pa_cons (pe_lc (own := [("value", 4)]) (g := gName 4) (tt := tYes) rfl sc_law.nd (pi_list (pv 14)) (blkOk_by (N := N_law) (sc := defScope s_law) (by decide +kernel)) (fun _ _ _ _ _ => (pg_name (i := 4) sc_law.nd rfl (by first | exact Or.inl rfl | exact Or.inr rfl))) (fun _ _ _ _ _ => pts_nil) (fun _ _ _ _ _ => (pe_callP C__law_copy hr (by rfl) T.g__law_copy pass0 (pa_cons (pv 4) pa_nil)))) pa_nil)))
      (pss_one (ps_if (PW.pt (pw_or (pt_cmpR op_isnot_bl (pv 11) pe_bl (nomark _)) (pw_or (pt_cmpR op_ne (pe_callB (call_repr T.mods gd hr.units) (by rfl) T.n_repr (by decide +kernel) (pa_cons (pv 12) pa_nil)) (pv 15) (nomark _)) (pw_or (pt_cmpR op_ne (pe_callB (call_repr T.mods gd hr.units) (by rfl) T.n_repr (by decide +kernel) (pa_cons (pv 13) pa_nil)) (pv 15) (nomark _)) (pw_or (pt_not (pt_cmpR (op_eqI hr.units) (pv 9) (pv 9) (nomark _))) (pw_or1 (pt_cmpR (op_eqI hr.units) (pv 9) (pv 10) (nomark _)))))))) (pss_one (ps_ret pe_bl)) pss_nil))))
      (C8.pss_cut (ps_for PassesOwn.never rfl (pi_range1 (by rfl) T.n_range (pa_cons (pe_callB call_len_seq (by rfl) T.n_len (by decide +kernel) (pa_cons (pv 8) pa_nil)) pa_nil)) (pg_name (i := 2) sc_law.nd rfl (by first | exact Or.inl rfl | exact Or.inr rfl)) (pss_cons (ps_set (i := 16) sc_law.nd rfl (by first | exact Or.inl rfl | exact Or.inr rfl) (pe_ix ix_tup (pe_ix ix_list (pv 8) (pe_op op_mod (pe_callTy call_int1 (by rfl) T.n_int (by decide +kernel) (pa_cons (pe_op op_add (pe_op op_add (pv 2) pe_int) (pe_callP C__law_draw hr (by rfl) T.g__law_draw pass0 (pa_cons (pv 1) (pa_cons (pe_op op_sub (pe_callB call_len_seq (by rfl) T.n_len (by decide +kernel) (pa_cons (pv 8) pa_nil)) pe_int) pa_nil)))) pa_nil)) (pe_callB call_len_seq (by rfl) T.n_len (by decide +kernel) (pa_cons (pv 8) pa_nil))) (fun _ _ => rfl)) pe_int (fun _ _ => rfl)))
      (pss_one (ps_if (PW.pt (pw_or (pt_cmpR (op_eqI hr.units) (pe_ix ix_tup (pe_ix ix_list (pv 8) (pv 2) (fun _ _ => rfl)) pe_int (fun _ _ => rfl)) (pv 16) (nomark _)) (pw_or (pt_cmpR (op_eqI hr.units) (pv 16) (pe_ix ix_tup (pe_ix ix_list (pv 8) (pv 2) (fun _ _ => rfl)) pe_int (fun _ _ => rfl)) (nomark _)) (pw_or1 (pt_not (pt_cmpR (op_neI hr.units) (pe_ix ix_tup (pe_ix ix_list (pv 8) (pv 2) (fun _ _ => rfl)) pe_int (fun _ _ => rfl)) (pv 16) (nomark _))))))) (pss_one (ps_ret pe_bl)) pss_nil))))
      (pss_cons (ps_set (i := 17) sc_law.nd rfl (by first | exact Or.inl rfl | exact Or.inr rfl) (pe_makeI T.c_Spelled.mkr I_Spelled hr (by rfl) T.g_Spelled pass0 (pa_cons (pe_ix ix_list (pv 3) pe_int (fun _ _ => rfl)) pa_nil)))
      (pss_cons (ps_set (i := 18) sc_law.nd rfl (by first | exact Or.inl rfl | exact Or.inr rfl) (pe_callB (call_repr T.mods gd hr.units) (by rfl) T.n_repr (by decide +kernel) (pa_cons (pe_fld (pv 17) rfl) pa_nil)))
      (C8.pss_cut (ps_if (pt_val (pe_callB call_isi (by rfl) T.n_isinstance (by decide +kernel) (pa_cons (pe_ix ix_list (pv 3) pe_int (fun _ _ => rfl)) (pa_cons (pe_bltn (v := .ty "list") (by rfl) T.n_list (by decide +kernel) rfl) pa_nil)))) (pss_one (ps_expr (pe_bm PySem.F.plainAttrs_list PySem.F.slot_list_append PySem.F.type_list_append mt_append (pe_ix ix_list (pv 3) pe_int (fun _ _ => rfl)) (pa_cons pe_int pa_nil)))) pss_nil)
      (pss_one (ps_ret (pe_and (pe_cmpR op_eq (pe_callB (call_repr T.mods gd hr.units) (by rfl) T.n_repr (by decide +kernel) (pa_cons (pe_fld (pv 17) rfl) pa_nil)) (pv 18) (nomark _)) (pe_one (pe_cmpR op_eq (pe_callB call_len_seq (by rfl) T.n_len (by decide +kernel) (pa_cons (pv 8) pa_nil)) pe_int (nomark _))))))))))))))), ?_⟩)
  · obtain ⟨_, _, rfl, _⟩ := h
    rfl
  obtain ⟨a, ns, rfl, hS, hl, hQ⟩ := h
  refine ⟨_, rfl, a, ns, rfl, hS, by omega, fun H1 pn cn s1 np nc hp1 => ?_⟩
  have ad {A B : Hp} {b : Addr} (e : Same A B) (h : B b = none) : A b = none := e.free h
  obtain ⟨kv1, hd1⟩ := hp1.dict
  -- the values
  refine ⟨3, rfl, by decide, by decide, fun D hD => ?_⟩
  have nDp : D ≠ pn := (hp1.ne hD).1
  have nDc : D ≠ cn := (hp1.ne hD).2
  refine lc_range (lo := 0) (n := 3) (fun i H' => PenAt H' pn cn (4 * i) ∧ ∃ (vs : List V), H' D = some (.lst vs) ∧ vs.length = i ∧ ∀ v ∈ vs, ∃ (N : Hp) (d : PyData), N pn = none ∧ N D = none ∧ Same N H' ∧ Val K pn N v d ∧ Sm d) ?_ ?_ ?_
  · exact ⟨PenAt.upd nDp nDc hp1, [], upd_same .., rfl, fun v hv => absurd hv (List.not_mem_nil)⟩
  · rintro i H' hi ⟨hp, vs, hvs, hlen, hv⟩
    obtain ⟨kv, hd⟩ := hp.dict
    refine ⟨rfl, _, rfl, pn, cn, 4 * i, rfl, hp, by omega, fun H2 v d b2 hp2 val sm => ?_⟩
    refine ⟨vs, b2 _ _ nDp hvs, Nat.lt_trans (show vs.length < 10 by omega) (by decide), PenAt.upd nDp nDc hp2, vs ++ [v], upd_same .., by rw [List.length_append, hlen]; rfl, fun x hx => ?_⟩
    rcases List.mem_append.mp hx with hx | hx
    · obtain ⟨N, d', n1, n2, n3, n4, n5⟩ := hv x hx
      exact ⟨N, d', n1, n2, sameUp (same_but n3 n1 b2) n2, n4, n5⟩
    · rw [List.mem_singleton.mp hx]
      exact ⟨_, d, newer_old hd, newer_old hvs, sameUp newer_le (newer_old hvs), val, sm⟩
  rintro H2 ⟨hp2, vs, hvs, hlen, hv⟩
  obtain ⟨v0, v1, v2, rfl⟩ : ∃ a b c, vs = [a, b, c] := by
    match vs, hlen with
    | [a, b, c], _ => exact ⟨a, b, c, rfl⟩
  -- a, b, c
  refine ⟨_, rfl, D, rfl, ⟨_, SqL.of hvs⟩, fun D2 hD2 => ?_⟩
  have n2p : D2 ≠ pn := (hp2.ne hD2).1
  have n2c : D2 ≠ cn := (hp2.ne hD2).2
  refine lc_list (K := K) (a := D) (xs := [v0, v1, v2]) (fun i H' => Same H2 H' ∧ ∃ (us : List V), H' D2 = some (.lst us) ∧ us.length = i ∧ ∀ u ∈ us, ∃ (N : Hp) (d : PyData), N D2 = none ∧ Same N H' ∧ VIn K pn N u d ∧ Sm d) ?_ ?_ ?_ ?_
  · exact ⟨sameNew hD2, [], upd_same .., rfl, fun v hv => absurd hv (List.not_mem_nil)⟩
  · exact fun i H' _ h => SqL.of (h.1 _ _ hvs)
  · rintro i x H' hx ⟨s, us, hus, hul, hu⟩
    have hi : i < 3 := (List.getElem?_eq_some_iff.mp hx).1
    obtain ⟨N, d, n1, n2, n3, n4, n5⟩ := hv x (List.mem_of_getElem? hx)
    have nD2 : N D2 = none := ad n3 hD2
    have nh : Same N H' := n3.trans s
    obtain ⟨t, ty, kt⟩ := rp_ty (n4.vin.rp.same nh)
    refine ⟨rfl, _, rfl, _, _, _, _, _, rfl, ClsV.ty "list", ty, kit_ty kt, _, rfl, ?_⟩
    cases n4 with
    | @lst q xs ds H0 m1 m2 m3 m4 =>
      refine iteT ⟨_, rfl, _, _, rfl, .inl (SqL.of (nh _ _ m1)), fun l hl => ?_⟩
      have lD : l ≠ D2 := (ne_of_none hus hl).symm
      refine ⟨us, (upd_ne lD.symm).trans hus, Nat.lt_trans (show us.length < 10 by omega) (by decide), fun b o e => ?_, us ++ [.ref l], upd_same .., by rw [List.length_append, hul]; rfl, fun u hx => ?_⟩
      · exact (upd_ne (ne_of_none e hD2)).trans ((upd_ne (ne_of_none (s _ _ e) hl)).trans (s _ _ e))
      · rcases List.mem_append.mp hx with hx | hx
        · obtain ⟨M, e, k1, k2, k3, k4⟩ := hu u hx
          exact ⟨M, e, k1, sameUp (k2.trans (sameNew hl)) k1, k3, k4⟩
        · rw [List.mem_singleton.mp hx]
          have Nl : N l = none := ad nh hl
          refine ⟨upd N l (.lst xs), .list ds, (upd_ne lD.symm).trans nD2, fun b o e => ?_, .lst (upd_same ..) ((m2.same m4).same (sameNew Nl)), n5⟩
          by_cases bl : b = l
          · rw [bl] at e ⊢
            rw [upd_same] at e
            rw [upd_ne lD, upd_same]
            exact e
          · rw [upd_ne bl] at e
            rw [upd_ne (ne_of_none e nD2), upd_ne bl]
            exact nh _ _ e
    | @oth v d m1 m2 =>
      show if isL d = true then _ else _
      rw [m2]
      refine iteF ⟨_, rfl, us, hus, Nat.lt_trans (show us.length < 10 by omega) (by decide), sameUp s hD2, us ++ [x], upd_same .., by rw [List.length_append, hul]; rfl, fun u hx => ?_⟩
      rcases List.mem_append.mp hx with hx | hx
      · obtain ⟨M, e, k1, k2, k3, k4⟩ := hu u hx
        exact ⟨M, e, k1, sameUp k2 k1, k3, k4⟩
      · rw [List.mem_singleton.mp hx]
        exact ⟨N, d, nD2, sameUp nh nD2, .oth m1 m2, n5⟩
  rintro H3 ⟨s3, us, hus, hul, hu⟩
  obtain ⟨va, vb, vc, rfl⟩ : ∃ a b c, us = [a, b, c] := by
    match us, hul with
    | [a, b, c], _ => exact ⟨a, b, c, rfl⟩
  obtain ⟨Na, da, _, sa, ia, ma⟩ := hu va (.head _)
  obtain ⟨Nb, db, _, sb, ib, mb⟩ := hu vb (.tail _ (.head _))
  obtain ⟨Nc, dc, _, sc, ic, mc⟩ := hu vc (.tail _ (.tail _ (.head _)))
  obtain ⟨N0, d0, n0p, _, n0s, val0, sm0⟩ := hv v0 (.head _)
  refine ⟨D2, [va, vb, vc], rfl, SqL.of hus, rfl, _, _, rfl, _, _, rfl, _, _, rfl, rfl, ?_⟩
  have all3 : VAll K pn H3 [va, vb, vc] [da, db, dc] := .cons (ia.same sa) (.cons (ib.same sb) (.cons (ic.same sc) .nil))
  -- the rows
  refine ⟨fun σ H' => ∃ (rl : Addr) (rs : List V) (os : List Addr), Sh a pn D rl σ ∧ PenAt H' pn cn 12 ∧ H' rl = some (.lst rs) ∧ RowsR K pn H' rs os ∧ os.Nodup ∧ rs.length = 30 ∧ Same N0 H' ∧ H' D = some (.lst [v0, v1, v2]) ∧ N0 rl = none, ?_, ?_⟩
  · refine ⟨_, rfl, _, rfl, _, rfl, pn, va, vb, vc, da, db, dc, rfl, all3, ⟨ma, mb, mc⟩, fun HA la ra oa sA atA rowA ndA newA lenA => ?_⟩
    refine ⟨_, rfl, _, rfl, _, rfl, pn, va, vb, vc, da, db, dc, rfl, all3.same sA, ⟨ma, mb, mc⟩, fun HB lb rb ob sB atB rowB ndB newB lenB => ?_⟩
    refine ⟨_, _, _, _, rfl, rfl, sB _ _ atA, atB, Nat.le_trans (show ra.length + rb.length ≤ 20 by omega) (by decide), fun p1 f1 => ?_⟩
    have s1' := sameNew (o := HO.lst (ra ++ rb)) f1
    have b1' : (upd HB p1 (.lst (ra ++ rb))) p1 = some (.lst (ra ++ rb)) := upd_same ..
    generalize (upd HB p1 (.lst (ra ++ rb))) = HX at s1' b1' ⊢
    refine ⟨_, rfl, _, rfl, _, rfl, pn, va, vb, vc, da, db, dc, rfl, (all3.same sA).same (sB.trans s1'), ⟨ma, mb, mc⟩, fun HC lc rc oc sC atC rowC ndC newC lenC => ?_⟩
    refine ⟨_, _, _, _, rfl, rfl, sC _ _ b1', atC, Nat.le_trans (show (ra ++ rb).length + rc.length ≤ 30 by rw [List.length_append]; omega) (by decide), fun p2 f2 => ?_⟩
    have s2' := sameNew (o := HO.lst ((ra ++ rb) ++ rc)) f2
    have eB : Same HB HC := s1'.trans sC
    have eF : Same H3 (upd HC p2 (.lst ((ra ++ rb) ++ rc))) := ((sA.trans sB).trans eB).trans s2'
    refine ⟨p2, _, (oa ++ ob) ++ oc, ⟨_, _, _, _, _, _, _, _, _, _, _, _, _, _, _, rfl⟩, (hp2.same s3).same eF, upd_same .., ?_, ?_, ?_, (n0s.trans s3).trans eF, eF _ _ (s3 _ _ hvs), ad ((n0s.trans s3).trans ((sA.trans sB).trans eB)) f2⟩
    · exact (((rowA.same (sB.trans eB)).append (rowB.same eB)).append rowC).same s2'
    · refine List.nodup_append.mpr ⟨List.nodup_append.mpr ⟨ndA, ndB, fun x hx y hy z => ?_⟩, ndC, fun x hx y hy z => ?_⟩
      · obtain ⟨u, h⟩ := rowA.known x hx
        have := newB y hy
        rw [← z, h] at this
        cases this
      · have := newC y hy
        rw [← z] at this
        rcases List.mem_append.mp hx with hx | hx
        · obtain ⟨u, h⟩ := rowA.known x hx
          rw [s1' _ _ (sB _ _ h)] at this
          cases this
        · obtain ⟨u, h⟩ := rowB.known x hx
          rw [s1' _ _ h] at this
          cases this
    · rw [List.length_append, List.length_append, lenA, lenB, lenC]
  rintro σ4 H4 ⟨rl, rs, os, sh4, hp4, hrl4, row4, ndo, lenr, n04, hD4, nrl⟩
  -- each row
  refine ⟨fun σ H' => Sh a pn D rl σ ∧ Same H4 H', ?_, ?_⟩
  · obtain ⟨o2, o4, o5, o6, o7, o9, o10, o11, o12, o13, o14, o15, o16, o17, o18, rfl⟩ := sh4
    refine ⟨_, rfl, rl, rfl, ⟨_, SqL.of hrl4⟩, for_list (xs := rs) (fun _ σ H' => Sh a pn D rl σ ∧ Same H4 H') ⟨⟨_, _, _, _, _, _, _, _, _, _, _, _, _, _, _, rfl⟩, Same.refl _⟩ (fun i σ H' _ h => SqL.of (h.2 _ _ hrl4)) ?_ (fun σ H' h => h)⟩
    rintro i x σ H' hx ⟨⟨o2, o4, o5, o6, o7, o9, o10, o11, o12, o13, o14, o15, o16, o17, o18, rfl⟩, s⟩
    obtain ⟨o, ho, t, two, fi, se, ha, C1, C2, d1, d2, g1, g2, xs1, xs2, hs, ds, rfl, h2, h3, h4, ⟨h5, h6, h7⟩, ⟨h8, h9⟩, ⟨h10, h11⟩, ⟨h12, h13⟩, h14, h15⟩ := row4.get hx
    refine ⟨t, _, rfl, SqT.of (s _ _ h2), rfl, _, _, rfl, _, _, rfl, _, _, rfl, _, _, rfl, _, _, rfl, _, _, rfl, rfl, ?_⟩
    refine ⟨_, rfl, ha, rfl, ⟨_, SqL.of (s _ _ h12)⟩, fun E1 hE1 => ?_⟩
    have hv5 := h13.same s
    have eE : Same H' (upd H' E1 (.lst [])) := sameNew hE1
    refine lc_list (K := K) (a := ha) (xs := hs) (fun i G => Same H' G ∧ ∃ us : List V, G E1 = some (.lst us) ∧ us.length = i ∧ RpAll K pn (hide E1 G) us ((ds.take i).map cp)) ?_ ?_ ?_ ?_
    · exact ⟨eE, [], upd_same .., rfl, .nil⟩
    · exact fun i G _ h => SqL.of (h.1 _ _ (s _ _ h12))
    · rintro i x G hx ⟨sG, us, hus, hul, hrp⟩
      obtain ⟨e, he, hve⟩ := hv5.get hx
      refine ⟨rfl, _, rfl, pn, x, e, rfl, hve.same sG, fun G2 u sg cpd => ?_⟩
      have hle : i < ds.length := (List.getElem?_eq_some_iff.mp he).1
      refine ⟨us, sg _ _ hus, Nat.lt_trans (show us.length < 10 by omega) (by decide), sameUp (sG.trans sg) hE1, us ++ [u], upd_same .., by rw [List.length_append, hul]; rfl, ?_⟩
      rw [hide_upd, List.take_add_one, he]
      show RpAll K pn (hide E1 G2) (us ++ [u]) ((ds.take i ++ [e]).map cp)
      rw [List.map_append]
      refine (hrp.same (hide_same sg)).append (.cons ?_ .nil)
      have hb : Same H' (hide E1 G2) := fun b o q => (hide_ne (ne_of_none q hE1)).trans (sg _ _ (sG _ _ q))
      exact (cpd.base sG hve).rp hb fun p ys q => to_hide q (sg _ _ hus) (fun z => nomatch z)
    · rintro G ⟨sG, us, hus, hul, hrp⟩
      rw [hv5.length, List.take_length] at hrp
      have fit := fit_row h14 h15
      have sH := s.trans sG
      refine ⟨pn, _, _, rfl, .lst (SqL.of hus) (hrp.same hide_le), fit, ?_⟩
      refine ⟨_, rfl, _, _, rfl, rfl, _, rfl, iteF ?_⟩
      refine ⟨_, rfl, pn, _, _, rfl, .lst (SqL.of (sH _ _ h8)) (h9.same sH), fit, _, rfl, rfl, _, rfl, iteNS rfl ?_⟩
      refine ⟨_, rfl, pn, _, _, rfl, .lst (SqL.of (sH _ _ h10)) (h11.same sH), fit, _, rfl, rfl, _, rfl, iteNS rfl ?_⟩
      refine ⟨_, rfl, _, rfl, o, o, C1, C1, d1, d1, g1, g1, rfl, rfl, sH _ _ h3, sH _ _ h3, h5, h5, _, rfl, iteNS rfl ?_⟩
      refine ⟨_, rfl, _, rfl, o, two, C1, C2, d1, d2, g1, g2, rfl, rfl, sH _ _ h3, sH _ _ h4, h5, h6, _, rfl, iteDF h7 ?_⟩
      exact ⟨⟨_, _, _, _, _, _, _, _, _, _, _, _, _, _, _, rfl⟩, sH⟩
  rintro σ5 H5 ⟨sh5, s5⟩
  -- one against another
  have rowF5 : RowF K H5 rs os := (row4.same s5).rowF
  refine ⟨fun σ H' => Sh a pn D rl σ ∧ H' rl = some (.lst rs) ∧ Same N0 H' ∧ H' D = some (.lst [v0, v1, v2]), ?_, ?_⟩
  · obtain ⟨o2, o4, o5, o6, o7, o9, o10, o11, o12, o13, o14, o15, o16, o17, o18, rfl⟩ := sh5
    refine ⟨_, rfl, _, _, rfl, .inl (SqL.of (s5 _ _ hrl4)), (rs.length : Int), rfl, by omega, by omega, ?_⟩
    refine for_range (lo := 0) (n := rs.length) (fun i σ H' => Sh a pn D rl σ ∧ PenAt H' pn cn (12 + i) ∧ H' rl = some (.lst rs) ∧ RowF K H' rs os ∧ Same N0 H' ∧ H' D = some (.lst [v0, v1, v2])) ⟨⟨_, _, _, _, _, _, _, _, _, _, _, _, _, _, _, rfl⟩, hp4.same s5, s5 _ _ hrl4, rowF5, n04.trans s5, s5 _ _ hD4⟩ ?_ (fun σ H' h => ⟨h.1, h.2.2.1, h.2.2.2.2⟩)
    rintro i σ H' hi ⟨⟨o2, o4, o5, o6, o7, o9, o10, o11, o12, o13, o14, o15, o16, o17, o18, rfl⟩, hp, hrl, hrow, hn0, hD'⟩
    obtain ⟨kv, hd⟩ := hp.dict
    refine ⟨_, rfl, _, rfl, _, _, rfl, rfl, _, rfl, _, rfl, _, _, rfl, .inl (SqL.of hrl), _, _, rfl, rfl, pn, cn, (rs.length : Int) - 1, 12 + i, rfl, by omega, by omega, hp, by omega, fun r G r0 r1 bG hpG => ?_⟩
    have rlp : rl ≠ pn := ne_of hrl hd (fun z => nomatch z)
    have hrlG := bG _ _ rlp hrl
    have rowG := hrow.but bG hd
    have hn0G := same_but hn0 n0p bG
    have hDG := bG _ _ nDp hD'
    obtain ⟨j, hj, hjl, hji⟩ : ∃ j : Nat, (0 + (i : Int) + 1 + r) % (rs.length : Int) = (j : Int) ∧ j < rs.length ∧ j ≠ i := by
      rw [lenr] at hi r1 ⊢
      refine ⟨((0 + (i : Int) + 1 + r) % (30 : Nat)).toNat, ?_, ?_, ?_⟩ <;> omega
    obtain ⟨tj, oj, Cj, dj, restj, gj, ej, hoj, htj, hij, hcj⟩ := rowG j _ (List.getElem?_eq_getElem hjl)
    obtain ⟨ti, oi, Ci, di, resti, gi, ei, hoi, hti, hii, hci⟩ := rowG i _ (List.getElem?_eq_getElem hi)
    have oij : oi ≠ oj := fun z => by
      rw [z] at hoi
      exact hji (((List.getElem?_inj (List.getElem?_eq_some_iff.mp hoj).1 ndo).mp (hoj.trans hoi.symm)))
    have aj : atI rs ((0 + (i : Int) + 1 + r) % (rs.length : Int)) = some rs[j] := by rw [hj]; exact atI_nat (List.getElem?_eq_getElem hjl)
    refine ⟨_, _, rfl, rfl, .inl ⟨_, rfl, _, rfl, _, _, rfl, .inl (SqL.of hrlG), _, _, rfl, rfl, (by omega : (0 : Int) < rs.length), _, _, _, rs[j], rfl, rfl, SqL.of hrlG, aj, ?_⟩⟩
    refine ⟨tj, _, _, _, ej, rfl, SqT.of htj, atI_nat (j := 0) rfl, ?_⟩
    have at0 : ∀ z : Int, z = (i : Int) → atI rs z = some rs[i] := fun z e => by rw [e]; exact atI_nat (List.getElem?_eq_getElem hi)
    have ai : atI rs (0 + (i : Int)) = some rs[i] := at0 _ (by omega)
    refine ⟨_, rfl, _, rfl, _, _, _, _, rfl, rfl, SqL.of hrlG, ai, ti, _, _, _, ei, rfl, SqT.of hti, atI_nat (j := 0) rfl, _, rfl, oi, oj, Ci, Cj, di, dj, gi, gj, rfl, rfl, hii, hij, hci, hcj, _, rfl, iteDF oij ?_⟩
    refine ⟨_, rfl, _, rfl, _, rfl, _, _, _, _, rfl, rfl, SqL.of hrlG, ai, ti, _, _, _, ei, rfl, SqT.of hti, atI_nat (j := 0) rfl, oj, oi, Cj, Ci, dj, di, gj, gi, rfl, rfl, hij, hii, hcj, hci, _, rfl, iteDF oij.symm ?_⟩
    refine ⟨_, rfl, _, rfl, _, _, _, _, rfl, rfl, SqL.of hrlG, ai, ti, _, _, _, ei, rfl, SqT.of hti, atI_nat (j := 0) rfl, _, rfl, oi, oj, Ci, Cj, di, dj, gi, gj, rfl, rfl, hii, hij, hci, hcj, _, rfl, ?_⟩
    rw [decide_eq_false oij]
    exact iteF ⟨⟨_, _, _, _, _, _, _, _, _, _, _, _, _, _, _, rfl⟩, hpG, hrlG, rowG, hn0G, hDG⟩
  rintro σ6 H6 ⟨⟨o2, o4, o5, o6, o7, o9, o10, o11, o12, o13, o14, o15, o16, o17, o18, rfl⟩, hrl6, n06, hD6⟩
  -- a list changed behind
  simp only [tSeq, tAsg]
  refine t_make1 (K := K) (pn := pn) (C := He.ga K "Spelled") (fs := ["row"]) (xs := [v0]) (ds := [d0]) (fun R h => ⟨_, rfl, _, _, _, _, rfl, rfl, SqL.of hD6, atI_nat (j := 0) rfl, h⟩) (.cons (val0.vin.same n06) .nil) rfl fun kp kd ys H7 fk s67 hkp cpa => ?_
  obtain ⟨y, rfl, cpd⟩ : ∃ y, ys = [y] ∧ Cpd K pn H6 H7 v0 d0 y := by
    cases cpa with
    | cons h1 h2 => cases h2; exact ⟨_, rfl, h1⟩
  have n07 := n06.trans s67
  have hD7 := s67 _ _ hD6
  have hrl7 := s67 _ _ hrl6
  have fit := fit_cp sm0
  have lk : (([("row" : Str)]).zip [y]).lookup ("row" : Str) = some y := lookup_zip (fs := [("row" : Str)]) (ys := [y]) (by decide +kernel) ("row", y) (.head _)
  refine ⟨_, rfl, kp, _, kd, _, y, rfl, hkp, T.c_Spelled.cl, T.c_Spelled.no _ (.head _), lk, pn, y, cp d0, rfl, cpd.rp s67 (fun p xs h => h), fit, ?_⟩
  refine ⟨fun σ H' => (∃ o2 o4 o5 o6 o7 o9 o10 o11 o12 o13 o14 o15 o16 : Option V, σ = [some (.ref a), some (.ref pn), o2, some (.ref D), o4, o5, o6, o7, some (.ref rl), o9, o10, o11, o12, o13, o14, o15, o16, some (.ref kp), some (.str (cp d0).shown)]) ∧
    H' rl = some (.lst rs) ∧ H' kp = some (.ins (He.ga K "Spelled") kd (([("row" : Str)]).zip [y])) ∧ Rp K pn H' y (cp d0), ?_, ?_⟩
  · obtain ⟨t, ty, kt⟩ := rp_ty (val0.vin.rp.same n07)
    refine ⟨_, rfl, _, _, _, _, rfl, rfl, SqL.of hD7, atI_nat (j := 0) rfl, _, _, _, _, _, rfl, ClsV.ty "list", ty, kit_ty kt, _, rfl, ?_⟩
    cases cpd with
    | @lst q p xs ds k1 k2 k3 k4 =>
      cases val0 with
      | oth _ z => cases z
      | @lst _ xs' _ H0 m1 m2 m3 m4 =>
        obtain rfl : xs' = xs := by
          have e := (n06 _ _ m1).symm.trans k1
          cases e
          rfl
        have hq7 := s67 _ _ k1
        have hlen : xs'.length ≤ 1000 := by
          have := weight_len ds
          have := sm0.wei
          rw [m2.length]
          exact Nat.le_trans (weight_len ds) sm0.wei
        refine iteT ⟨_, rfl, _, _, _, _, rfl, rfl, SqL.of hD7, atI_nat (j := 0) rfl, .inl ⟨rfl, _, SqL.of hq7⟩, _, _, _, rfl, rfl, hq7, Nat.lt_of_le_of_lt hlen (by decide), ?_⟩
        have pq : p ≠ q := ne_of k4 hq7 (fun z => nomatch z)
        have s0 : Same H0 (upd H7 q (.lst (xs' ++ [.int 7]))) := sameUp (m4.trans n07) m3
        exact ⟨⟨_, _, _, _, _, _, _, _, _, _, _, _, _, rfl⟩, (upd_ne (ne_of_none m1 nrl).symm).trans hrl7, (upd_ne (ne_of hkp hq7 (fun z => nomatch z))).trans hkp, .tup (SqT.of ((upd_ne pq).trans k4)) (m2.same s0)⟩
    | oth k1 k2 =>
      show if isL d0 = true then _ else _
      rw [k2]
      have e1 : cp d0 = d0 := by cases d0 <;> first | rfl | cases k2
      exact iteF ⟨⟨_, _, _, _, _, _, _, _, _, _, _, _, _, rfl⟩, hrl7, hkp, by rw [e1]; exact k1.same s67⟩
  · rintro σ8 H8 ⟨⟨o2, o4, o5, o6, o7, o9, o10, o11, o12, o13, o14, o15, o16, rfl⟩, hrl8, hkp8, hy8⟩
    refine ⟨_, rfl, kp, _, kd, _, y, rfl, hkp8, T.c_Spelled.cl, T.c_Spelled.no _ (.head _), lk, pn, y, cp d0, rfl, hy8, fit, _, rfl, rfl, _, rfl, iteDT rfl ?_⟩
    refine ⟨_, rfl, _, _, rfl, .inl (SqL.of hrl8), rfl, ?_⟩
    rw [lenr]
    exact hQ _
end
end K83

namespace K83
open PySem PySem.Spec PyProof.Rows L2 Bs

def d_copied : He.DefD := ⟨("copied", none), "copied", "copied", defArgs s_copied, defBody s_copied, defScope s_copied, [], []⟩
def d_Renamed___init__ : He.DefD := ⟨("Renamed", some "__init__"), "__init__", "Renamed.__init__", defArgs s_Renamed___init__, defBody s_Renamed___init__, defScope s_Renamed___init__, [], []⟩
def d_Apart___init__ : He.DefD := ⟨("Apart", some "__init__"), "__init__", "Apart.__init__", defArgs s_Apart___init__, defBody s_Apart___init__, defScope s_Apart___init__, [], []⟩
def d_Folded___init__ : He.DefD := ⟨("Folded", some "__init__"), "__init__", "Folded.__init__", defArgs s_Folded___init__, defBody s_Folded___init__, defScope s_Folded___init__, [], []⟩
def d_Spelled___init__ : He.DefD := ⟨("Spelled", some "__init__"), "__init__", "Spelled.__init__", defArgs s_Spelled___init__, defBody s_Spelled___init__, defScope s_Spelled___init__, [], []⟩
def d_Parted___init__ : He.DefD := ⟨("Parted", some "__init__"), "__init__", "Parted.__init__", defArgs s_Parted___init__, defBody s_Parted___init__, defScope s_Parted___init__, [], []⟩
def d_Within___init__ : He.DefD := ⟨("Within", some "__init__"), "__init__", "Within.__init__", defArgs s_Within___init__, defBody s_Within___init__, defScope s_Within___init__, [], []⟩
def d_Beyond___init__ : He.DefD := ⟨("Beyond", some "__init__"), "__init__", "Beyond.__init__", defArgs s_Beyond___init__, defBody s_Beyond___init__, defScope s_Beyond___init__, [], []⟩
def d_Short___init__ : He.DefD := ⟨("Short", some "__init__"), "__init__", "Short.__init__", defArgs s_Short___init__, defBody s_Short___init__, defScope s_Short___init__, [], []⟩
def d_Changes___init__ : He.DefD := ⟨("Changes", some "__init__"), "__init__", "Changes.__init__", defArgs s_Changes___init__, defBody s_Changes___init__, defScope s_Changes___init__, [], []⟩
def d_Lacking___init__ : He.DefD := ⟨("Lacking", some "__init__"), "__init__", "Lacking.__init__", defArgs s_Lacking___init__, defBody s_Lacking___init__, defScope s_Lacking___init__, [], []⟩
def d_Lessened___init__ : He.DefD := ⟨("Lessened", some "__init__"), "__init__", "Lessened.__init__", defArgs s_Lessened___init__, defBody s_Lessened___init__, defScope s_Lessened___init__, [], []⟩
def d_Had___init__ : He.DefD := ⟨("Had", some "__init__"), "__init__", "Had.__init__", defArgs s_Had___init__, defBody s_Had___init__, defScope s_Had___init__, [], []⟩
def d_Never___init__ : He.DefD := ⟨("Never", some "__init__"), "__init__", "Never.__init__", defArgs s_Never___init__, defBody s_Never___init__, defScope s_Never___init__, [], []⟩
def d_Full___init__ : He.DefD := ⟨("Full", some "__init__"), "__init__", "Full.__init__", defArgs s_Full___init__, defBody s_Full___init__, defScope s_Full___init__, [], []⟩
def d_Colours___init__ : He.DefD := ⟨("Colours", some "__init__"), "__init__", "Colours.__init__", defArgs s_Colours___init__, defBody s_Colours___init__, defScope s_Colours___init__, [], []⟩
def d_OddWay___init__ : He.DefD := ⟨("OddWay", some "__init__"), "__init__", "OddWay.__init__", defArgs s_OddWay___init__, defBody s_OddWay___init__, defScope s_OddWay___init__, [], []⟩
def d_Ladder___init__ : He.DefD := ⟨("Ladder", some "__init__"), "__init__", "Ladder.__init__", defArgs s_Ladder___init__, defBody s_Ladder___init__, defScope s_Ladder___init__, [], []⟩
def d_Made___init__ : He.DefD := ⟨("Made", some "__init__"), "__init__", "Made.__init__", defArgs s_Made___init__, defBody s_Made___init__, defScope s_Made___init__, [], []⟩
def d_Outside___init__ : He.DefD := ⟨("Outside", some "__init__"), "__init__", "Outside.__init__", defArgs s_Outside___init__, defBody s_Outside___init__, defScope s_Outside___init__, [], []⟩
def d_Great___init__ : He.DefD := ⟨("Great", some "__init__"), "__init__", "Great.__init__", defArgs s_Great___init__, defBody s_Great___init__, defScope s_Great___init__, [], []⟩
def d_Small___init__ : He.DefD := ⟨("Small", some "__init__"), "__init__", "Small.__init__", defArgs s_Small___init__, defBody s_Small___init__, defScope s_Small___init__, [], []⟩
def d_TieParts___init__ : He.DefD := ⟨("TieParts", some "__init__"), "__init__", "TieParts.__init__", defArgs s_TieParts___init__, defBody s_TieParts___init__, defScope s_TieParts___init__, [], []⟩
def d_Moves___init__ : He.DefD := ⟨("Moves", some "__init__"), "__init__", "Moves.__init__", defArgs s_Moves___init__, defBody s_Moves___init__, defScope s_Moves___init__, [], []⟩
def d_Kept___init__ : He.DefD := ⟨("Kept", some "__init__"), "__init__", "Kept.__init__", defArgs s_Kept___init__, defBody s_Kept___init__, defScope s_Kept___init__, [], []⟩
def d_Bounded___init__ : He.DefD := ⟨("Bounded", some "__init__"), "__init__", "Bounded.__init__", defArgs s_Bounded___init__, defBody s_Bounded___init__, defScope s_Bounded___init__, [], []⟩
def d_Crossed___init__ : He.DefD := ⟨("Crossed", some "__init__"), "__init__", "Crossed.__init__", defArgs s_Crossed___init__, defBody s_Crossed___init__, defScope s_Crossed___init__, [], []⟩
def d_Step___init__ : He.DefD := ⟨("Step", some "__init__"), "__init__", "Step.__init__", defArgs s_Step___init__, defBody s_Step___init__, defScope s_Step___init__, [], []⟩
def d_Loop___init__ : He.DefD := ⟨("Loop", some "__init__"), "__init__", "Loop.__init__", defArgs s_Loop___init__, defBody s_Loop___init__, defScope s_Loop___init__, [], []⟩
def d_Cover___init__ : He.DefD := ⟨("Cover", some "__init__"), "__init__", "Cover.__init__", defArgs s_Cover___init__, defBody s_Cover___init__, defScope s_Cover___init__, [], []⟩
def d_Closed___init__ : He.DefD := ⟨("Closed", some "__init__"), "__init__", "Closed.__init__", defArgs s_Closed___init__, defBody s_Closed___init__, defScope s_Closed___init__, [], []⟩
def d__law_pen : He.DefD := ⟨("_law_pen", none), "_law_pen", "_law_pen", defArgs s__law_pen, defBody s__law_pen, defScope s__law_pen, [], []⟩
def d__law_draw : He.DefD := ⟨("_law_draw", none), "_law_draw", "_law_draw", defArgs s__law_draw, defBody s__law_draw, defScope s__law_draw, [], []⟩
def d__law_pick : He.DefD := ⟨("_law_pick", none), "_law_pick", "_law_pick", defArgs s__law_pick, defBody s__law_pick, defScope s__law_pick, [], []⟩
def d__law_made_a : He.DefD := ⟨("_law_made_a", none), "_law_made_a", "_law_made_a", defArgs s__law_made_a, defBody s__law_made_a, defScope s__law_made_a, [], []⟩
def d__law_made_b : He.DefD := ⟨("_law_made_b", none), "_law_made_b", "_law_made_b", defArgs s__law_made_b, defBody s__law_made_b, defScope s__law_made_b, [], []⟩
def d__law_made_c : He.DefD := ⟨("_law_made_c", none), "_law_made_c", "_law_made_c", defArgs s__law_made_c, defBody s__law_made_c, defScope s__law_made_c, [], []⟩
def d__law_value : He.DefD := ⟨("_law_value", none), "_law_value", "_law_value", defArgs s__law_value, defBody s__law_value, defScope s__law_value, [], []⟩
def d__law_copy : He.DefD := ⟨("_law_copy", none), "_law_copy", "_law_copy", defArgs s__law_copy, defBody s__law_copy, defScope s__law_copy, [], []⟩
def d_law : He.DefD := ⟨("law", none), "law", "law", defArgs s_law, defBody s_law, defScope s_law, [], []⟩
def fn0 : List He.DefD := [d_copied, d_Renamed___init__, d_Apart___init__, d_Folded___init__, d_Spelled___init__, d_Parted___init__, d_Within___init__, d_Beyond___init__, d_Short___init__, d_Changes___init__, d_Lacking___init__, d_Lessened___init__]
def fn1 : List He.DefD := [d_Had___init__, d_Never___init__, d_Full___init__, d_Colours___init__, d_OddWay___init__, d_Ladder___init__, d_Made___init__, d_Outside___init__, d_Great___init__, d_Small___init__, d_TieParts___init__, d_Moves___init__]
def fn2 : List He.DefD := [d_Kept___init__, d_Bounded___init__, d_Crossed___init__, d_Step___init__, d_Loop___init__, d_Cover___init__, d_Closed___init__, d__law_pen, d__law_draw, d__law_pick, d__law_made_a, d__law_made_b]
def fn3 : List He.DefD := [d__law_made_c, d__law_value, d__law_copy, d_law]
def fn : List He.DefD := fn0 ++ fn1 ++ fn2 ++ fn3
def fa0 : List He.Fa := [.glo "copied", .glo "_law_pen", .glo "_law_draw", .glo "_law_pick", .glo "_law_made_a", .glo "_law_made_b", .glo "_law_made_c", .glo "_law_value", .glo "_law_copy", .glo "law", .free "len", .free "int"]
def fa1 : List He.Fa := [.free "list", .free "tuple", .free "isinstance", .free "repr", .free "range", .glo "Renamed", .cls "Renamed", .mkr "Renamed", .noat "Renamed" "turn", .glo "Apart", .cls "Apart", .mkr "Apart"]
def fa2 : List He.Fa := [.noat "Apart" "words", .glo "Folded", .cls "Folded", .mkr "Folded", .noat "Folded" "over", .noat "Folded" "places", .noat "Folded" "ways", .glo "Spelled", .cls "Spelled", .mkr "Spelled", .noat "Spelled" "row", .glo "Parted"]
def fa3 : List He.Fa := [.cls "Parted", .mkr "Parted", .noat "Parted" "sheeting", .glo "Within", .cls "Within", .mkr "Within", .noat "Within" "rows", .glo "Beyond", .cls "Beyond", .mkr "Beyond", .noat "Beyond" "number", .noat "Beyond" "sheeting"]
def fa4 : List He.Fa := [.glo "Short", .cls "Short", .mkr "Short", .noat "Short" "changes", .noat "Short" "row", .glo "Changes", .cls "Changes", .mkr "Changes", .noat "Changes" "row", .glo "Lacking", .cls "Lacking", .mkr "Lacking"]
def fa5 : List He.Fa := [.noat "Lacking" "letter", .noat "Lacking" "sheeting", .glo "Lessened", .cls "Lessened", .mkr "Lessened", .noat "Lessened" "rows", .noat "Lessened" "ring", .glo "Had", .cls "Had", .mkr "Had", .noat "Had" "turns", .glo "Never"]
def fa6 : List He.Fa := [.cls "Never", .mkr "Never", .noat "Never" "reason", .glo "Full", .cls "Full", .mkr "Full", .noat "Full" "turns", .glo "Colours", .cls "Colours", .mkr "Colours", .noat "Colours" "row", .glo "OddWay"]
def fa7 : List He.Fa := [.cls "OddWay", .mkr "OddWay", .noat "OddWay" "darts", .glo "Ladder", .cls "Ladder", .mkr "Ladder", .noat "Ladder" "base", .noat "Ladder" "levels", .glo "Made", .cls "Made", .mkr "Made", .noat "Made" "word"]
def fa8 : List He.Fa := [.glo "Outside", .cls "Outside", .mkr "Outside", .noat "Outside" "ladder", .noat "Outside" "level", .noat "Outside" "rest", .glo "Great", .cls "Great", .mkr "Great", .noat "Great" "odd", .noat "Great" "word", .glo "Small"]
def fa9 : List He.Fa := [.cls "Small", .mkr "Small", .noat "Small" "ladder", .glo "TieParts", .cls "TieParts", .mkr "TieParts", .noat "TieParts" "tree", .noat "TieParts" "far", .noat "TieParts" "rest", .glo "Moves", .cls "Moves", .mkr "Moves"]
def fa10 : List He.Fa := [.noat "Moves" "moves", .glo "Kept", .cls "Kept", .mkr "Kept", .noat "Kept" "what", .glo "Bounded", .cls "Bounded", .mkr "Bounded", .noat "Bounded" "numbers", .glo "Crossed", .cls "Crossed", .mkr "Crossed"]
def fa11 : List He.Fa := [.noat "Crossed" "other", .glo "Step", .cls "Step", .mkr "Step", .noat "Step" "names", .glo "Loop", .cls "Loop", .mkr "Loop", .noat "Loop" "word", .glo "Cover", .cls "Cover", .mkr "Cover"]
def fa12 : List He.Fa := [.noat "Cover" "sheeting", .noat "Cover" "first", .noat "Cover" "second", .glo "Closed", .cls "Closed", .mkr "Closed", .noat "Closed" "sheeting", .noat "Closed" "names"]
def fa : List He.Fa := fa0 ++ fa1 ++ fa2 ++ fa3 ++ fa4 ++ fa5 ++ fa6 ++ fa7 ++ fa8 ++ fa9 ++ fa10 ++ fa11 ++ fa12
def nm0 : List Str := ["copied", "Renamed", "Apart", "Folded", "Spelled", "Parted", "Within", "Beyond", "Short", "Changes", "Lacking", "Lessened", "Had", "Never", "Full", "Colours", "OddWay", "Ladder", "Made", "Outside", "Great", "Small", "TieParts", "Moves", "Kept", "Bounded", "Crossed", "Step", "Loop", "Cover"]
def nm1 : List Str := ["Closed", "_law_pen", "_law_draw", "_law_pick", "_law_made_a", "_law_made_b", "_law_made_c", "_law_value", "_law_copy"]
def nms : List Str := nm0 ++ nm1
def insB (K : PySem.W.Frag) (C : Addr) : Bool := He.eqO (PySem.W.findIn K (.ref C) "__class__") (some (some (.builtin "object.__class__"))) && (He.eqO (PySem.W.specialIn K (.builtin "object.__class__") "__get__") (some (some (.builtin "getset_descriptor.__get__"))) &&
  (decide (PySem.W.takesIn K (.builtin "object.__class__") = some true) && (decide (PySem.W.mroIn K C (.type "object") = some true) && decide (PySem.W.kitOne K (.ref C) (.ref C) = some true))))
theorem insB_ok {K : PySem.W.Frag} {C : Addr} (cl : Cls K C) (h : insB K C = true) : C8.InsC K C := by
  obtain ⟨h1, h2⟩ := He.ba h
  obtain ⟨h2, h3⟩ := He.ba h2
  obtain ⟨h3, h4⟩ := He.ba h3
  obtain ⟨h4, h5⟩ := He.ba h4
  exact ⟨cl, He.eqO_ok h1, He.eqO_ok h2, of_decide_eq_true h3, of_decide_eq_true h4, of_decide_eq_true h5⟩
def cnm0 : List Str := ["Renamed", "Apart", "Folded", "Spelled", "Parted", "Within", "Beyond", "Short", "Changes", "Lacking", "Lessened", "Had"]
def cnm1 : List Str := ["Never", "Full", "Colours", "OddWay", "Ladder", "Made", "Outside", "Great", "Small", "TieParts", "Moves", "Kept"]
def cnm2 : List Str := ["Bounded", "Crossed", "Step", "Loop", "Cover", "Closed"]
def cnm : List Str := cnm0 ++ cnm1 ++ cnm2
def exB (K : PySem.W.Frag) : Bool := modsB K && cnm.all fun x => cmpB K (He.ga K x) && insB K (He.ga K x)
theorem exB_ok {K : PySem.W.Frag} (h : exB K = true) {x : Str} (m : x ∈ cnm) : cmpB K (He.ga K x) = true ∧ insB K (He.ga K x) = true := He.ba (List.all_eq_true.mp (He.ba h).2 x m)
abbrev hkk : PySem.W.Hook := hookM 6 fa fn [] exB
def ob (s : PySem.W.SharedT) : Told := obsM 6 fa fn [] exB (HandSHeadRun.getT s)
theorem ob_eq (s : PySem.W.SharedT) : ob s = hkk.obs s.abs := obsM_eq (HandSHeadRun.getT_eq s)
abbrev RR : PySem.W.OpenRow := PySem.W.OpenLaw.row PySem.Challenge.rw_ballsheets_k83_classes_made_by_hand
theorem run (w : World) : HandSHeadRun.RunEq RR (PySem.W.view RR.prog [52]) hkk ob 20000 nms w := by
  intro os
  kernel_rfl

theorem no_cons {K : PySem.W.Frag} {C : Addr} {f : Str} {fs : List Str} (h : NoAttr K C f) (k : ∀ g ∈ fs, NoAttr K C g) : ∀ g ∈ f :: fs, NoAttr K C g := fun g hg => by
  rcases List.mem_cons.mp hg with rfl | hg
  · exact h
  · exact k g hg
theorem fx {K : PySem.W.Frag} {h : Heap} {mg : Str → Option Value} (X : K.In h) (G : h.Ns mainGlobals mg) (c : SaysM fa fn [] exB h K) : Fx K mg where
  f_copied := c.d.def_ 0 (d := d_copied) rfl
  f_Renamed___init__ := c.d.def_ 1 (d := d_Renamed___init__) rfl
  f_Apart___init__ := c.d.def_ 2 (d := d_Apart___init__) rfl
  f_Folded___init__ := c.d.def_ 3 (d := d_Folded___init__) rfl
  f_Spelled___init__ := c.d.def_ 4 (d := d_Spelled___init__) rfl
  f_Parted___init__ := c.d.def_ 5 (d := d_Parted___init__) rfl
  f_Within___init__ := c.d.def_ 6 (d := d_Within___init__) rfl
  f_Beyond___init__ := c.d.def_ 7 (d := d_Beyond___init__) rfl
  f_Short___init__ := c.d.def_ 8 (d := d_Short___init__) rfl
  f_Changes___init__ := c.d.def_ 9 (d := d_Changes___init__) rfl
  f_Lacking___init__ := c.d.def_ 10 (d := d_Lacking___init__) rfl
  f_Lessened___init__ := c.d.def_ 11 (d := d_Lessened___init__) rfl
  f_Had___init__ := c.d.def_ 12 (d := d_Had___init__) rfl
  f_Never___init__ := c.d.def_ 13 (d := d_Never___init__) rfl
  f_Full___init__ := c.d.def_ 14 (d := d_Full___init__) rfl
  f_Colours___init__ := c.d.def_ 15 (d := d_Colours___init__) rfl
  f_OddWay___init__ := c.d.def_ 16 (d := d_OddWay___init__) rfl
  f_Ladder___init__ := c.d.def_ 17 (d := d_Ladder___init__) rfl
  f_Made___init__ := c.d.def_ 18 (d := d_Made___init__) rfl
  f_Outside___init__ := c.d.def_ 19 (d := d_Outside___init__) rfl
  f_Great___init__ := c.d.def_ 20 (d := d_Great___init__) rfl
  f_Small___init__ := c.d.def_ 21 (d := d_Small___init__) rfl
  f_TieParts___init__ := c.d.def_ 22 (d := d_TieParts___init__) rfl
  f_Moves___init__ := c.d.def_ 23 (d := d_Moves___init__) rfl
  f_Kept___init__ := c.d.def_ 24 (d := d_Kept___init__) rfl
  f_Bounded___init__ := c.d.def_ 25 (d := d_Bounded___init__) rfl
  f_Crossed___init__ := c.d.def_ 26 (d := d_Crossed___init__) rfl
  f_Step___init__ := c.d.def_ 27 (d := d_Step___init__) rfl
  f_Loop___init__ := c.d.def_ 28 (d := d_Loop___init__) rfl
  f_Cover___init__ := c.d.def_ 29 (d := d_Cover___init__) rfl
  f_Closed___init__ := c.d.def_ 30 (d := d_Closed___init__) rfl
  f__law_pen := c.d.def_ 31 (d := d__law_pen) rfl
  f__law_draw := c.d.def_ 32 (d := d__law_draw) rfl
  f__law_pick := c.d.def_ 33 (d := d__law_pick) rfl
  f__law_made_a := c.d.def_ 34 (d := d__law_made_a) rfl
  f__law_made_b := c.d.def_ 35 (d := d__law_made_b) rfl
  f__law_made_c := c.d.def_ 36 (d := d__law_made_c) rfl
  f__law_value := c.d.def_ 37 (d := d__law_value) rfl
  f__law_copy := c.d.def_ 38 (d := d__law_copy) rfl
  f_law := c.d.def_ 39 (d := d_law) rfl
  g_copied := He.glo_ok X G (c.d.fact 0 (f := .glo "copied") rfl)
  g__law_pen := He.glo_ok X G (c.d.fact 1 (f := .glo "_law_pen") rfl)
  g__law_draw := He.glo_ok X G (c.d.fact 2 (f := .glo "_law_draw") rfl)
  g__law_pick := He.glo_ok X G (c.d.fact 3 (f := .glo "_law_pick") rfl)
  g__law_made_a := He.glo_ok X G (c.d.fact 4 (f := .glo "_law_made_a") rfl)
  g__law_made_b := He.glo_ok X G (c.d.fact 5 (f := .glo "_law_made_b") rfl)
  g__law_made_c := He.glo_ok X G (c.d.fact 6 (f := .glo "_law_made_c") rfl)
  g__law_value := He.glo_ok X G (c.d.fact 7 (f := .glo "_law_value") rfl)
  g__law_copy := He.glo_ok X G (c.d.fact 8 (f := .glo "_law_copy") rfl)
  g_law := He.glo_ok X G (c.d.fact 9 (f := .glo "law") rfl)
  n_len := He.free_ok X G (c.d.fact 10 (f := .free "len") rfl)
  n_int := He.free_ok X G (c.d.fact 11 (f := .free "int") rfl)
  n_list := He.free_ok X G (c.d.fact 12 (f := .free "list") rfl)
  n_tuple := He.free_ok X G (c.d.fact 13 (f := .free "tuple") rfl)
  n_isinstance := He.free_ok X G (c.d.fact 14 (f := .free "isinstance") rfl)
  n_repr := He.free_ok X G (c.d.fact 15 (f := .free "repr") rfl)
  n_range := He.free_ok X G (c.d.fact 16 (f := .free "range") rfl)
  mods := modsB_ok (He.ba c.more).1
  g_Renamed := He.glo_ok X G (c.d.fact 17 (f := .glo "Renamed") rfl)
  g_Apart := He.glo_ok X G (c.d.fact 21 (f := .glo "Apart") rfl)
  g_Folded := He.glo_ok X G (c.d.fact 25 (f := .glo "Folded") rfl)
  g_Spelled := He.glo_ok X G (c.d.fact 31 (f := .glo "Spelled") rfl)
  g_Parted := He.glo_ok X G (c.d.fact 35 (f := .glo "Parted") rfl)
  g_Within := He.glo_ok X G (c.d.fact 39 (f := .glo "Within") rfl)
  g_Beyond := He.glo_ok X G (c.d.fact 43 (f := .glo "Beyond") rfl)
  g_Short := He.glo_ok X G (c.d.fact 48 (f := .glo "Short") rfl)
  g_Changes := He.glo_ok X G (c.d.fact 53 (f := .glo "Changes") rfl)
  g_Lacking := He.glo_ok X G (c.d.fact 57 (f := .glo "Lacking") rfl)
  g_Lessened := He.glo_ok X G (c.d.fact 62 (f := .glo "Lessened") rfl)
  g_Had := He.glo_ok X G (c.d.fact 67 (f := .glo "Had") rfl)
  g_Never := He.glo_ok X G (c.d.fact 71 (f := .glo "Never") rfl)
  g_Full := He.glo_ok X G (c.d.fact 75 (f := .glo "Full") rfl)
  g_Colours := He.glo_ok X G (c.d.fact 79 (f := .glo "Colours") rfl)
  g_OddWay := He.glo_ok X G (c.d.fact 83 (f := .glo "OddWay") rfl)
  g_Ladder := He.glo_ok X G (c.d.fact 87 (f := .glo "Ladder") rfl)
  g_Made := He.glo_ok X G (c.d.fact 92 (f := .glo "Made") rfl)
  g_Outside := He.glo_ok X G (c.d.fact 96 (f := .glo "Outside") rfl)
  g_Great := He.glo_ok X G (c.d.fact 102 (f := .glo "Great") rfl)
  g_Small := He.glo_ok X G (c.d.fact 107 (f := .glo "Small") rfl)
  g_TieParts := He.glo_ok X G (c.d.fact 111 (f := .glo "TieParts") rfl)
  g_Moves := He.glo_ok X G (c.d.fact 117 (f := .glo "Moves") rfl)
  g_Kept := He.glo_ok X G (c.d.fact 121 (f := .glo "Kept") rfl)
  g_Bounded := He.glo_ok X G (c.d.fact 125 (f := .glo "Bounded") rfl)
  g_Crossed := He.glo_ok X G (c.d.fact 129 (f := .glo "Crossed") rfl)
  g_Step := He.glo_ok X G (c.d.fact 133 (f := .glo "Step") rfl)
  g_Loop := He.glo_ok X G (c.d.fact 137 (f := .glo "Loop") rfl)
  g_Cover := He.glo_ok X G (c.d.fact 141 (f := .glo "Cover") rfl)
  g_Closed := He.glo_ok X G (c.d.fact 147 (f := .glo "Closed") rfl)
  c_Renamed := by
      have k := exB_ok c.more (x := "Renamed") (List.mem_of_getElem? (i := 0) rfl)
      have cl := He.cls_ok (c.d.fact 18 (f := .cls "Renamed") rfl)
      exact ⟨cl, He.mkr_ok (c.d.fact 19 (f := .mkr "Renamed") rfl), insB_ok cl k.2, k.1, (no_cons (He.noat_ok (c.d.fact 20 (f := .noat "Renamed" "turn") rfl)) (fun f hf => absurd hf (List.not_mem_nil)))⟩
  c_Apart := by
      have k := exB_ok c.more (x := "Apart") (List.mem_of_getElem? (i := 1) rfl)
      have cl := He.cls_ok (c.d.fact 22 (f := .cls "Apart") rfl)
      exact ⟨cl, He.mkr_ok (c.d.fact 23 (f := .mkr "Apart") rfl), insB_ok cl k.2, k.1, (no_cons (He.noat_ok (c.d.fact 24 (f := .noat "Apart" "words") rfl)) (fun f hf => absurd hf (List.not_mem_nil)))⟩
  c_Folded := by
      have k := exB_ok c.more (x := "Folded") (List.mem_of_getElem? (i := 2) rfl)
      have cl := He.cls_ok (c.d.fact 26 (f := .cls "Folded") rfl)
      exact ⟨cl, He.mkr_ok (c.d.fact 27 (f := .mkr "Folded") rfl), insB_ok cl k.2, k.1, (no_cons (He.noat_ok (c.d.fact 28 (f := .noat "Folded" "over") rfl)) (no_cons (He.noat_ok (c.d.fact 29 (f := .noat "Folded" "places") rfl)) (no_cons (He.noat_ok (c.d.fact 30 (f := .noat "Folded" "ways") rfl)) (fun f hf => absurd hf (List.not_mem_nil)))))⟩
  c_Spelled := by
      have k := exB_ok c.more (x := "Spelled") (List.mem_of_getElem? (i := 3) rfl)
      have cl := He.cls_ok (c.d.fact 32 (f := .cls "Spelled") rfl)
      exact ⟨cl, He.mkr_ok (c.d.fact 33 (f := .mkr "Spelled") rfl), insB_ok cl k.2, k.1, (no_cons (He.noat_ok (c.d.fact 34 (f := .noat "Spelled" "row") rfl)) (fun f hf => absurd hf (List.not_mem_nil)))⟩
  c_Parted := by
      have k := exB_ok c.more (x := "Parted") (List.mem_of_getElem? (i := 4) rfl)
      have cl := He.cls_ok (c.d.fact 36 (f := .cls "Parted") rfl)
      exact ⟨cl, He.mkr_ok (c.d.fact 37 (f := .mkr "Parted") rfl), insB_ok cl k.2, k.1, (no_cons (He.noat_ok (c.d.fact 38 (f := .noat "Parted" "sheeting") rfl)) (fun f hf => absurd hf (List.not_mem_nil)))⟩
  c_Within := by
      have k := exB_ok c.more (x := "Within") (List.mem_of_getElem? (i := 5) rfl)
      have cl := He.cls_ok (c.d.fact 40 (f := .cls "Within") rfl)
      exact ⟨cl, He.mkr_ok (c.d.fact 41 (f := .mkr "Within") rfl), insB_ok cl k.2, k.1, (no_cons (He.noat_ok (c.d.fact 42 (f := .noat "Within" "rows") rfl)) (fun f hf => absurd hf (List.not_mem_nil)))⟩
  c_Beyond := by
      have k := exB_ok c.more (x := "Beyond") (List.mem_of_getElem? (i := 6) rfl)
      have cl := He.cls_ok (c.d.fact 44 (f := .cls "Beyond") rfl)
      exact ⟨cl, He.mkr_ok (c.d.fact 45 (f := .mkr "Beyond") rfl), insB_ok cl k.2, k.1, (no_cons (He.noat_ok (c.d.fact 46 (f := .noat "Beyond" "number") rfl)) (no_cons (He.noat_ok (c.d.fact 47 (f := .noat "Beyond" "sheeting") rfl)) (fun f hf => absurd hf (List.not_mem_nil))))⟩
  c_Short := by
      have k := exB_ok c.more (x := "Short") (List.mem_of_getElem? (i := 7) rfl)
      have cl := He.cls_ok (c.d.fact 49 (f := .cls "Short") rfl)
      exact ⟨cl, He.mkr_ok (c.d.fact 50 (f := .mkr "Short") rfl), insB_ok cl k.2, k.1, (no_cons (He.noat_ok (c.d.fact 51 (f := .noat "Short" "changes") rfl)) (no_cons (He.noat_ok (c.d.fact 52 (f := .noat "Short" "row") rfl)) (fun f hf => absurd hf (List.not_mem_nil))))⟩
  c_Changes := by
      have k := exB_ok c.more (x := "Changes") (List.mem_of_getElem? (i := 8) rfl)
      have cl := He.cls_ok (c.d.fact 54 (f := .cls "Changes") rfl)
      exact ⟨cl, He.mkr_ok (c.d.fact 55 (f := .mkr "Changes") rfl), insB_ok cl k.2, k.1, (no_cons (He.noat_ok (c.d.fact 56 (f := .noat "Changes" "row") rfl)) (fun f hf => absurd hf (List.not_mem_nil)))⟩
  c_Lacking := by
      have k := exB_ok c.more (x := "Lacking") (List.mem_of_getElem? (i := 9) rfl)
      have cl := He.cls_ok (c.d.fact 58 (f := .cls "Lacking") rfl)
      exact ⟨cl, He.mkr_ok (c.d.fact 59 (f := .mkr "Lacking") rfl), insB_ok cl k.2, k.1, (no_cons (He.noat_ok (c.d.fact 60 (f := .noat "Lacking" "letter") rfl)) (no_cons (He.noat_ok (c.d.fact 61 (f := .noat "Lacking" "sheeting") rfl)) (fun f hf => absurd hf (List.not_mem_nil))))⟩
  c_Lessened := by
      have k := exB_ok c.more (x := "Lessened") (List.mem_of_getElem? (i := 10) rfl)
      have cl := He.cls_ok (c.d.fact 63 (f := .cls "Lessened") rfl)
      exact ⟨cl, He.mkr_ok (c.d.fact 64 (f := .mkr "Lessened") rfl), insB_ok cl k.2, k.1, (no_cons (He.noat_ok (c.d.fact 65 (f := .noat "Lessened" "rows") rfl)) (no_cons (He.noat_ok (c.d.fact 66 (f := .noat "Lessened" "ring") rfl)) (fun f hf => absurd hf (List.not_mem_nil))))⟩
  c_Had := by
      have k := exB_ok c.more (x := "Had") (List.mem_of_getElem? (i := 11) rfl)
      have cl := He.cls_ok (c.d.fact 68 (f := .cls "Had") rfl)
      exact ⟨cl, He.mkr_ok (c.d.fact 69 (f := .mkr "Had") rfl), insB_ok cl k.2, k.1, (no_cons (He.noat_ok (c.d.fact 70 (f := .noat "Had" "turns") rfl)) (fun f hf => absurd hf (List.not_mem_nil)))⟩
  c_Never := by
      have k := exB_ok c.more (x := "Never") (List.mem_of_getElem? (i := 12) rfl)
      have cl := He.cls_ok (c.d.fact 72 (f := .cls "Never") rfl)
      exact ⟨cl, He.mkr_ok (c.d.fact 73 (f := .mkr "Never") rfl), insB_ok cl k.2, k.1, (no_cons (He.noat_ok (c.d.fact 74 (f := .noat "Never" "reason") rfl)) (fun f hf => absurd hf (List.not_mem_nil)))⟩
  c_Full := by
      have k := exB_ok c.more (x := "Full") (List.mem_of_getElem? (i := 13) rfl)
      have cl := He.cls_ok (c.d.fact 76 (f := .cls "Full") rfl)
      exact ⟨cl, He.mkr_ok (c.d.fact 77 (f := .mkr "Full") rfl), insB_ok cl k.2, k.1, (no_cons (He.noat_ok (c.d.fact 78 (f := .noat "Full" "turns") rfl)) (fun f hf => absurd hf (List.not_mem_nil)))⟩
  c_Colours := by
      have k := exB_ok c.more (x := "Colours") (List.mem_of_getElem? (i := 14) rfl)
      have cl := He.cls_ok (c.d.fact 80 (f := .cls "Colours") rfl)
      exact ⟨cl, He.mkr_ok (c.d.fact 81 (f := .mkr "Colours") rfl), insB_ok cl k.2, k.1, (no_cons (He.noat_ok (c.d.fact 82 (f := .noat "Colours" "row") rfl)) (fun f hf => absurd hf (List.not_mem_nil)))⟩
  c_OddWay := by
      have k := exB_ok c.more (x := "OddWay") (List.mem_of_getElem? (i := 15) rfl)
      have cl := He.cls_ok (c.d.fact 84 (f := .cls "OddWay") rfl)
      exact ⟨cl, He.mkr_ok (c.d.fact 85 (f := .mkr "OddWay") rfl), insB_ok cl k.2, k.1, (no_cons (He.noat_ok (c.d.fact 86 (f := .noat "OddWay" "darts") rfl)) (fun f hf => absurd hf (List.not_mem_nil)))⟩
  c_Ladder := by
      have k := exB_ok c.more (x := "Ladder") (List.mem_of_getElem? (i := 16) rfl)
      have cl := He.cls_ok (c.d.fact 88 (f := .cls "Ladder") rfl)
      exact ⟨cl, He.mkr_ok (c.d.fact 89 (f := .mkr "Ladder") rfl), insB_ok cl k.2, k.1, (no_cons (He.noat_ok (c.d.fact 90 (f := .noat "Ladder" "base") rfl)) (no_cons (He.noat_ok (c.d.fact 91 (f := .noat "Ladder" "levels") rfl)) (fun f hf => absurd hf (List.not_mem_nil))))⟩
  c_Made := by
      have k := exB_ok c.more (x := "Made") (List.mem_of_getElem? (i := 17) rfl)
      have cl := He.cls_ok (c.d.fact 93 (f := .cls "Made") rfl)
      exact ⟨cl, He.mkr_ok (c.d.fact 94 (f := .mkr "Made") rfl), insB_ok cl k.2, k.1, (no_cons (He.noat_ok (c.d.fact 95 (f := .noat "Made" "word") rfl)) (fun f hf => absurd hf (List.not_mem_nil)))⟩
  c_Outside := by
      have k := exB_ok c.more (x := "Outside") (List.mem_of_getElem? (i := 18) rfl)
      have cl := He.cls_ok (c.d.fact 97 (f := .cls "Outside") rfl)
      exact ⟨cl, He.mkr_ok (c.d.fact 98 (f := .mkr "Outside") rfl), insB_ok cl k.2, k.1, (no_cons (He.noat_ok (c.d.fact 99 (f := .noat "Outside" "ladder") rfl)) (no_cons (He.noat_ok (c.d.fact 100 (f := .noat "Outside" "level") rfl)) (no_cons (He.noat_ok (c.d.fact 101 (f := .noat "Outside" "rest") rfl)) (fun f hf => absurd hf (List.not_mem_nil)))))⟩
  c_Great := by
      have k := exB_ok c.more (x := "Great") (List.mem_of_getElem? (i := 19) rfl)
      have cl := He.cls_ok (c.d.fact 103 (f := .cls "Great") rfl)
      exact ⟨cl, He.mkr_ok (c.d.fact 104 (f := .mkr "Great") rfl), insB_ok cl k.2, k.1, (no_cons (He.noat_ok (c.d.fact 105 (f := .noat "Great" "odd") rfl)) (no_cons (He.noat_ok (c.d.fact 106 (f := .noat "Great" "word") rfl)) (fun f hf => absurd hf (List.not_mem_nil))))⟩
  c_Small := by
      have k := exB_ok c.more (x := "Small") (List.mem_of_getElem? (i := 20) rfl)
      have cl := He.cls_ok (c.d.fact 108 (f := .cls "Small") rfl)
      exact ⟨cl, He.mkr_ok (c.d.fact 109 (f := .mkr "Small") rfl), insB_ok cl k.2, k.1, (no_cons (He.noat_ok (c.d.fact 110 (f := .noat "Small" "ladder") rfl)) (fun f hf => absurd hf (List.not_mem_nil)))⟩
  c_TieParts := by
      have k := exB_ok c.more (x := "TieParts") (List.mem_of_getElem? (i := 21) rfl)
      have cl := He.cls_ok (c.d.fact 112 (f := .cls "TieParts") rfl)
      exact ⟨cl, He.mkr_ok (c.d.fact 113 (f := .mkr "TieParts") rfl), insB_ok cl k.2, k.1, (no_cons (He.noat_ok (c.d.fact 114 (f := .noat "TieParts" "tree") rfl)) (no_cons (He.noat_ok (c.d.fact 115 (f := .noat "TieParts" "far") rfl)) (no_cons (He.noat_ok (c.d.fact 116 (f := .noat "TieParts" "rest") rfl)) (fun f hf => absurd hf (List.not_mem_nil)))))⟩
  c_Moves := by
      have k := exB_ok c.more (x := "Moves") (List.mem_of_getElem? (i := 22) rfl)
      have cl := He.cls_ok (c.d.fact 118 (f := .cls "Moves") rfl)
      exact ⟨cl, He.mkr_ok (c.d.fact 119 (f := .mkr "Moves") rfl), insB_ok cl k.2, k.1, (no_cons (He.noat_ok (c.d.fact 120 (f := .noat "Moves" "moves") rfl)) (fun f hf => absurd hf (List.not_mem_nil)))⟩
  c_Kept := by
      have k := exB_ok c.more (x := "Kept") (List.mem_of_getElem? (i := 23) rfl)
      have cl := He.cls_ok (c.d.fact 122 (f := .cls "Kept") rfl)
      exact ⟨cl, He.mkr_ok (c.d.fact 123 (f := .mkr "Kept") rfl), insB_ok cl k.2, k.1, (no_cons (He.noat_ok (c.d.fact 124 (f := .noat "Kept" "what") rfl)) (fun f hf => absurd hf (List.not_mem_nil)))⟩
  c_Bounded := by
      have k := exB_ok c.more (x := "Bounded") (List.mem_of_getElem? (i := 24) rfl)
      have cl := He.cls_ok (c.d.fact 126 (f := .cls "Bounded") rfl)
      exact ⟨cl, He.mkr_ok (c.d.fact 127 (f := .mkr "Bounded") rfl), insB_ok cl k.2, k.1, (no_cons (He.noat_ok (c.d.fact 128 (f := .noat "Bounded" "numbers") rfl)) (fun f hf => absurd hf (List.not_mem_nil)))⟩
  c_Crossed := by
      have k := exB_ok c.more (x := "Crossed") (List.mem_of_getElem? (i := 25) rfl)
      have cl := He.cls_ok (c.d.fact 130 (f := .cls "Crossed") rfl)
      exact ⟨cl, He.mkr_ok (c.d.fact 131 (f := .mkr "Crossed") rfl), insB_ok cl k.2, k.1, (no_cons (He.noat_ok (c.d.fact 132 (f := .noat "Crossed" "other") rfl)) (fun f hf => absurd hf (List.not_mem_nil)))⟩
  c_Step := by
      have k := exB_ok c.more (x := "Step") (List.mem_of_getElem? (i := 26) rfl)
      have cl := He.cls_ok (c.d.fact 134 (f := .cls "Step") rfl)
      exact ⟨cl, He.mkr_ok (c.d.fact 135 (f := .mkr "Step") rfl), insB_ok cl k.2, k.1, (no_cons (He.noat_ok (c.d.fact 136 (f := .noat "Step" "names") rfl)) (fun f hf => absurd hf (List.not_mem_nil)))⟩
  c_Loop := by
      have k := exB_ok c.more (x := "Loop") (List.mem_of_getElem? (i := 27) rfl)
      have cl := He.cls_ok (c.d.fact 138 (f := .cls "Loop") rfl)
      exact ⟨cl, He.mkr_ok (c.d.fact 139 (f := .mkr "Loop") rfl), insB_ok cl k.2, k.1, (no_cons (He.noat_ok (c.d.fact 140 (f := .noat "Loop" "word") rfl)) (fun f hf => absurd hf (List.not_mem_nil)))⟩
  c_Cover := by
      have k := exB_ok c.more (x := "Cover") (List.mem_of_getElem? (i := 28) rfl)
      have cl := He.cls_ok (c.d.fact 142 (f := .cls "Cover") rfl)
      exact ⟨cl, He.mkr_ok (c.d.fact 143 (f := .mkr "Cover") rfl), insB_ok cl k.2, k.1, (no_cons (He.noat_ok (c.d.fact 144 (f := .noat "Cover" "sheeting") rfl)) (no_cons (He.noat_ok (c.d.fact 145 (f := .noat "Cover" "first") rfl)) (no_cons (He.noat_ok (c.d.fact 146 (f := .noat "Cover" "second") rfl)) (fun f hf => absurd hf (List.not_mem_nil)))))⟩
  c_Closed := by
      have k := exB_ok c.more (x := "Closed") (List.mem_of_getElem? (i := 29) rfl)
      have cl := He.cls_ok (c.d.fact 148 (f := .cls "Closed") rfl)
      exact ⟨cl, He.mkr_ok (c.d.fact 149 (f := .mkr "Closed") rfl), insB_ok cl k.2, k.1, (no_cons (He.noat_ok (c.d.fact 150 (f := .noat "Closed" "sheeting") rfl)) (no_cons (He.noat_ok (c.d.fact 151 (f := .noat "Closed" "names") rfl)) (fun f hf => absurd hf (List.not_mem_nil))))⟩
theorem facts {w : World} {mg : Str → Option Value} {f : Addr} {h : Heap} (Y : hkk.says w h) (G : h.Ns mainGlobals mg) (hfa : mg ("law" : Str) = some (.ref f)) :
    ∃ K : PySem.W.Frag, K.In h ∧ LawG PySem.Challenge.rw_ballsheets_k83_classes_made_by_hand w K CX0 5 63 "script" mg f h := by
  obtain ⟨K, X, c⟩ := Y
  have T := fx X G c
  have e := hfa.symm.trans T.g_law
  cases e
  obtain ⟨fd, F⟩ := T.f_law
  exact ⟨K, X, fd, [], spLaw K, fun p hp => absurd hp (List.not_mem_nil), fun p hp => absurd hp (List.not_mem_nil), fun p hp => absurd hp (List.not_mem_nil),
    fun s u => FunD.bindsA (ps := [("script" : Str)]) F (fun _ _ _ _ _ _ us hl => match us, hl with | [_], _ => rfl) s [u] rfl, fun H a ns hl _ hS => ⟨a, ns, rfl, hS, hl, fun _ => rfl⟩, fun base _ _ _ => pr_law T F⟩
end K83

open PySem PySem.W PySem.Calls PyProof.Rows
theorem PySem.Challenge.cw_ballsheets_k83_classes_made_by_hand_holds : PySem.Challenge.rw_ballsheets_k83_classes_made_by_hand.Holds := by
  w_on; o_law
  refine HandSHeadRun.head_any (r := OpenLaw.row PySem.Challenge.rw_ballsheets_k83_classes_made_by_hand) (q := view (OpenLaw.row PySem.Challenge.rw_ballsheets_k83_classes_made_by_hand).prog [52]) (H := K83.hkk) (ob := K83.ob) (M := 20000) (loose := K83.nms) (d := HandSHeadRun.topDef (OpenLaw.row PySem.Challenge.rw_ballsheets_k83_classes_made_by_hand).prog 52) (kwd := []) K83.ob_eq
    (by kernel_rfl) (fun s => by kernel_rfl) K83.run (by kernel_rfl) (by kernel_rfl) (by kernel_rfl) (by rfl) (by first | assumption | decide +kernel) (by decide +kernel) ⟨rfl, rfl, rfl, rfl, rfl, by decide +kernel⟩ ?hw ?hc
  case hw => w_witness2
  case hc =>
    refine Bs.walk_ofG (l := PySem.Challenge.rw_ballsheets_k83_classes_made_by_hand) (n := 63) (k := 5) (x := "script") (CX := fun _ => L2.CX0) rfl (by decide) (by kernel_rfl) ⟨rfl, by decide, by decide⟩ ?F (fun _ _ _ _ _ z => z)
    intro w mg fa h Y G hmg0
    have hmg : mg ("law" : PySem.Str) = some (.ref fa) := by
      have e : (HandSHeadRun.topDef (OpenLaw.row PySem.Challenge.rw_ballsheets_k83_classes_made_by_hand).prog 52).name = ("law" : PySem.Str) := by kernel_rfl
      rw [← e]
      exact hmg0
    exact K83.facts (w := w) Y G hmg
