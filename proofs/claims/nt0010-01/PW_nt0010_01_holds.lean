import PyProof.Rows.All
import Wide.All
import OpenK.AllK
import Wide.FinOn
import PySem.Challenge.RW_nt0010_01
open PySem PySem.W PyProof.Rows PySem.Spec PySem.Calls
set_option Elab.async false
set_option maxRecDepth 100000
set_option maxHeartbeats 8000000
set_option linter.all false
namespace Mine
/-- the goal under a short name, while what is at hand is taken apart -/
theorem hideGoal {P : Prop} (h : ∀ G : Prop, (P → G) → G) : P := h P id
/-- The judgement over the contexts whose stack bears no code of a codec (or of another that may hold a bytearray): the bytearray's methods ask for it. -/
noncomputable def badIds : List String := ["bytearray.__contains__", "bytearray.__mod__", "bytearray.__rmod__", "_struct.pack_into.held", "bytearray.find.held"] ++ Builtin.Bytes.decodersThatHold
noncomputable def okCode : Code → Bool
  | .builtin id _ => !badIds.contains id
  | _ => true
noncomputable def OkSt (l : List (Code × Pos)) : Prop := ∀ x ∈ l, okCode x.1 = true
noncomputable def wpG {α : Type} (M : Model) (A : Around) (t : Sem α) (Q : α → Shared → Prop) (E : Value → Shared → Prop) (s : Shared) : Prop :=
  ∀ Γ p, Γ.In A → okCode Γ.code = true → OkSt Γ.below → Sem.wp M Γ t (fun a _ s' => Q a s') (fun e _ s' => E e s') p s
noncomputable def codeG (M : Model) (A : Around) (c : Code) (R : Result → Shared → Prop) (s : Shared) : Prop :=
  ∀ Γ p, Γ.code = c → Γ.Below A → OkSt Γ.below → wpCode M Γ R p s

/-- what a run of the text from the caller of a claim gives, where the judgement is wpG -/
theorem caller_G {prog : Program} {w : World} {t : Sem PySem.Fin} {s : Shared} {R : Result → Shared → Prop} (hz : s.asleep)
    (h : wpG (model prog w) callerA t (fun fin s' => ∃ f, fin = .done f ∧ (R (.ok f) s' ∧ leftWithCleanup s'.gens = false)) (fun e s' => R (.error e) s' ∧ leftWithCleanup s'.gens = false) s) :
    ∃ n r s' s'', runN (denote table) prog w n s ⟨t, .builtin "claim.caller" {}, default, []⟩ = .halted (outcomeOf r) s' ∧
      schedN (denote table) prog w n (.single s ⟨t, .builtin "claim.caller" {}, default, []⟩) = .halted (outcomeOf r) s' ∧ s'.forget = s''.forget ∧ R r s'' := by
  have hw := h ⟨.builtin "claim.caller" {}, none, none, [], none⟩ default caller_in (by decide +kernel) (fun _ hx => nomatch hx)
  obtain ⟨n, r, s₁, s₂, hs, hn, hfo, hR⟩ := wp_halts_full (M := model prog w) (R := R) hz (Sem.wp_mono _ _ t (fun fin p' s' h' => by
    obtain ⟨f, rfl, hf⟩ := h'
    exact (show Sem.finPost (model prog w) _ (fun r s' => R r s' ∧ leftWithCleanup s'.gens = false) (.done f) p' s' from hf)) (fun _ _ _ h' => h') default s hw)
  exact ⟨n, r, s₂, s₁, hn, hs, hfo, hR⟩
theorem callFrom_G {c : ClaimW} {tree : List Value → Sem PySem.Fin} {w : World} {s : Shared} {free : Addr → Prop} {gens : Prop} {kept : Heap → Prop} (hz : s.asleep) (hgens : s.gens = #[])
    (hspec : ∀ args, c.pre args = true → WData.layableAll args = true → ∀ ord : List DictEntry → List DictEntry, (∀ l, (ord l).Perm l) →
      ∃ vs s₁, layAllW c.records (classAt s.heap) w.params ord args s = some (vs, s₁) ∧
        wpG (model c.prog w) callerA (tree vs) (fun fin s' => ∃ f, fin = .done f ∧ (c.Ends s args vs s₁ (.ok f) s' ∧ s'.os = s.os ∧ AllBare s'.gens ∧ kept s'.heap))
          (fun e s' => c.Ends s args vs s₁ (.error e) s' ∧ s'.os = s.os ∧ AllBare s'.gens ∧ kept s'.heap) s₁) :
    c.CallFrom (fun vs => ⟨tree vs, .builtin "claim.caller" {}, default, []⟩) w free gens kept s := by
  intro args hpre hlay ord hord
  refine hideGoal fun G out => ?_
  obtain ⟨vs, s₁, hlaid, hcode⟩ := hspec args hpre hlay ord hord
  have hal := layAllW_rest _ _ _ hlaid
  have hrun : wpG (model c.prog w) callerA (tree vs) (fun fin s' => ∃ f, fin = .done f ∧ ((c.Ends s args vs s₁ (.ok f) s' ∧ s'.os = s.os ∧ kept s'.heap) ∧ leftWithCleanup s'.gens = false))
      (fun e s' => (c.Ends s args vs s₁ (.error e) s' ∧ s'.os = s.os ∧ kept s'.heap) ∧ leftWithCleanup s'.gens = false) s₁ := fun Γ p h1 h2 h3 =>
    Sem.wp_mono _ _ _ (fun _ _ _ ⟨f, e, a, b, d, k⟩ => ⟨f, e, ⟨a, b, k⟩, leftWithCleanup_false_of_bare d⟩) (fun _ _ _ ⟨a, b, d, k⟩ => ⟨⟨a, b, k⟩, leftWithCleanup_false_of_bare d⟩) p s₁ (hcode Γ p h1 h2 h3)
  obtain ⟨k, rr, s', s'', hh⟩ := caller_G (R := fun r s' => c.Ends s args vs s₁ r s' ∧ s'.os = s.os ∧ kept s'.heap) (Shared.asleep_of_life hal.2.2.2 hz) hrun
  obtain ⟨eh, _, _, eo, _⟩ := Shared.forget_eq hh.2.2.1
  have hcase := hh.2.2.2.1.congr eh
  have hkp := hh.2.2.2.2.2
  have hos := hh.2.2.2.2.1
  rw [← eh] at hkp
  rw [← eo] at hos
  have hlife : s'.heap.life = s.heap.life := (runN_life _ _ _ hh.1).trans hal.2.2.2
  have hgens₁ : s₁.gens = #[] := hal.1.trans hgens
  refine out ⟨vs, s₁, hlaid, k, _, s', hh.2.1, ?_, (fun _ i x hx => by rw [hgens] at hx; simp at hx), hkp, by rw [hlife], Shared.rest_eq hos⟩
  clear hh
  rcases hcase with ⟨v, hd⟩ | ⟨e, ob, cls, hd⟩
  · exact .inl ⟨v, congrArg outcomeOf hd.1, hd.2.1, hd.2.2.1, hd.2.2.2.1, fun b o y _ => hd.2.2.2.2.1 b o y, hd.2.2.2.2.2⟩
  · exact .inr ⟨e, ob, cls, congrArg outcomeOf hd.1, hd.2.1, hd.2.2.1, hd.2.2.2.1, hd.2.2.2.2.1, fun b o y _ => hd.2.2.2.2.2 b o y⟩
/-- the walk that the head asks for, over wpG -/
abbrev WalkG (q : Program) (loose : List Str) (XP : (Str → Option Value) → Heap → Prop) (YP : World → Heap → Prop) (r : RowW) (d : DefRec) (kwd : List (Str × Expr)) (run : Value → List Value → Sem Value) : Prop :=
  ∀ (w : World) (s₀ s₁ : Shared) (mg mb : Str → Option Value), Ground q loose r.records XP w s₀ mg mb s₁.heap → YP w s₁.heap → ∀ (a : Addr) (o : Obj) (pm cd doc dV kV : Value), s₁.heap.get? a = some o →
    o.data = .func { docDef d.name d.params d.body d.scope pm cd doc with defaults := dV, kwdefaults := kV } → s₁.heap.CodeRec cd d.name → Dflts mg s₁.heap d.params kwd dV kV → mg d.name = some (.ref a) → s₁.gens = #[] →
    ∀ (args : List WData) (vals : List Value) (as : List Addr), r.claim.pre args = true → WData.layableAll args = true → ReadsAllW r.records (classAt s₀.heap) s₁.heap vals args as → WellAll w.params s₁.heap vals args → (∀ a ∈ as, (a == sysModules) = false) →
      wpG (model r.prog w) callerA (run (.ref a) vals) (fun v s' => GoodWG r.claim (classAt s₀.heap) (ExcName.means s₀.heap) args s₁ (.ok (.ret v)) s')
        (fun e s' => GoodWG r.claim (classAt s₀.heap) (ExcName.means s₀.heap) args s₁ (.error e) s') s₁
namespace PySem.W
theorem holds_open {r : OpenRow} {q : Program} {loose : List Str} {Xt : Shared → Bool} {XP : (Str → Option Value) → Heap → Prop} {α : Type} {Yf : Shared → α} {Ya : World → α} {YP : World → Heap → Prop} {d : DefRec} {kwd : List (Str × Expr)} {N : Nat}
    (left : LeftO r.prog q loose Xt Yf Ya N) (hY : ∀ w s, Yf s = Ya w → YP w s.heap) (hYk : ∀ w h h', YP w h → (∀ b o, h.get? b = some o → h'.get? b = some o) → YP w h')
    (hX : ∀ s, Xt s = true → XP (s.heap.nsMap mainGlobals) s.heap) (hXk : ∀ mg h h', XP mg h → (∀ b o, h.get? b = some o → h'.get? b = some o) → XP mg h')
    (hdef : defOf q r.name = some (d, kwd)) (hp : r.prog.theDef r.name = some (d.params, d.body, d.scope)) (hk : kwWritten? d.params.kwonlyargs d.params.kw_defaults = some kwd) (hRf : ∀ s, Xt s = true → RecFacts r.records s.heap) (hwr : (!r.writes || r.records.isEmpty) = true)
    (k1 : r.wellSaid = true) (ok : (chainsOk q && opensWell r.prog && (frees r.toRowW && r.within.isEmpty)) = true) (hb : r.prog.bare) (hw : r.toRowW.promised)
    (call : WalkG q loose XP YP r.toRowW d kwd fun f vs => PySem.call f vs) : r.Holds := by
  refine ⟨k1, hw, ?_⟩
  refine hideGoal fun G out => ?_
  obtain ⟨ok, k5⟩ := Bool.and_eq_true_iff.mp ok
  obtain ⟨hch, o1⟩ := Bool.and_eq_true_iff.mp ok
  obtain ⟨k5, k6⟩ := Bool.and_eq_true_iff.mp k5
  obtain ⟨hsame, hu, ha, hap, hm⟩ := frees_parts k5
  refine out ⟨⟨hb, o1, by show (RowW.makers r.toRowW).map _ = []; rw [hm]; rfl⟩, hw.witness, fun w => ⟨(left.behind hX hch w).1, fun s' hs' => ?_⟩⟩
  clear out G
  refine hideGoal fun G out => ?_
  obtain ⟨s₀, hf, hg0, s, hT, hz, hgens, hg, G00, y⟩ := (left.behind (XP := fun mg h => XP mg h ∧ RecFacts r.records h) (fun s hs => ⟨hX s hs, hRf s hs⟩) hch w).2 s' hs'
  have G0 : Ground q loose [] XP w s (s.heap.nsMap mainGlobals) (s.heap.nsMap builtinsNs) s.heap := ⟨G00.T, G00.B, G00.D, G00.TE, G00.TD, G00.W, G00.X.1, G00.cls, G00.has, G00.apart, G00.once, G00.K⟩
  have RF := G00.X.2
  have hT' := hT
  refine out ⟨s₀, hf, hg0, s, hT, fun n hn => ?_, RF.1, RF.2.1, ?_⟩
  · obtain rfl : n = r.name := by split at hn <;> simp_all
    exact pinned_of_view hg G0 hdef hp hk
  have hgens : s.gens = #[] := Array.eq_empty_of_size_eq_zero (beq_iff_eq.mp hgens)
  have GG : Ground q loose r.records XP w s _ _ s.heap := RF.ground G0
  refine callFrom_G (c := RowW.claim r.toRowW) hz hgens fun args hpre hlay ord hord => ?_
  clear out
  refine hideGoal fun G2 out => ?_
  obtain ⟨⟨vs, s₁⟩, hlaid⟩ := Option.isSome_iff_exists.mp (layAllW_isSome (P := w.params) (ord := ord) GG.has args r.args s (pre_splitW hpre).1)
  have keeps := layAllW_keeps _ _ _ hlaid
  have hal := layAllW_rest _ _ _ hlaid
  obtain ⟨as, hrd, hin, hold⟩ := reads_layAllW hord _ _ _ hlaid hlay s₁.heap (fun _ _ e => e)
  have L : Laid r.records w s s₁ args vs as := ⟨⟨ord, hord, hlaid⟩, hrd, hin, hold, keeps, hal.1.trans hgens, hal.2.2.1⟩
  have G₁ := GG.keeps hXk keeps
  obtain ⟨fa, fo, pm, cd, doc, dV, kV, h1, h2, h3, h4, h5⟩ := G₁.fn hdef
  have hcall := call w s s₁ _ _ G₁ (hYk _ _ _ (hY w s y) keeps) fa fo pm cd doc dV kV h2 h3 h4 h5 (defOf_name hdef ▸ h1) L.gens args vs as hpre hlay L.reads L.well (L.low GG.low)
  have hi := ident_freeW hu ha hap
  have hwi : (RowW.claim r.toRowW).within = [] := List.isEmpty_iff.mp k6
  refine out ⟨vs, s₁, hlaid, fun Γ p c1 c2 c3 => ?_⟩
  show Sem.wp _ Γ (nsGet mainNs r.name >>= _) _ _ p s₁
  have hns : s₁.heap.Ns mainNs (s.heap.nsMap mainGlobals) := G₁.T.g
  rw [Sem.wp_bind', Sem.wp_nsGet _ Γ _ p s₁ hns, h1]
  show Sem.wp _ Γ (PySem.call (.ref fa) vs >>= fun v => ret v) _ _ p s₁
  rw [Sem.wp_bind']
  refine Sem.wp_mono _ Γ _ (fun v p' s' g => ?_) (fun e p' s' g => ?_) p s₁ (hcall Γ p c1 c2 c3)
  · have z := g.laid (c := RowW.claim r.toRowW) hsame hwi hi L
    exact ⟨_, rfl, z.1, z.2.1, z.2.2, fun q => ⟨namesKept_of hT' hg _ keeps g.2.1.old, noTable hwr q⟩⟩
  · have z := g.laid (c := RowW.claim r.toRowW) hsame hwi hi L
    exact ⟨z.1, z.2.1, z.2.2, fun q => ⟨namesKept_of hT' hg _ keeps g.2.1.old, noTable hwr q⟩⟩
end PySem.W
noncomputable def seed : Str := Str.ofString "a"
theorem seed_eq : seed = seed := rfl
name_quick tw10010936943081839664 for seed by seed_eq
name_quick tw10424941004445345732 for seed by seed_eq
name_quick tw10833955939284561965 for seed by seed_eq
name_quick tw1092655722715705105 for seed by seed_eq
name_quick tw10938465397075749097 for seed by seed_eq
name_quick tw10942035263794033107 for seed by seed_eq
name_quick tw10948738476641704880 for seed by seed_eq
name_quick tw10996506086634736982 for seed by seed_eq
name_quick tw11130039905162102590 for seed by seed_eq
name_quick tw11270796479367742343 for seed by seed_eq
name_quick tw11317593695737139937 for seed by seed_eq
name_quick tw11333186260410459676 for seed by seed_eq
name_quick tw11543547407058413889 for seed by seed_eq
name_quick tw117213463901210413 for seed by seed_eq
name_quick tw11729385059970357855 for seed by seed_eq
name_quick tw11788150170368784547 for seed by seed_eq
name_quick tw11853533878840232495 for seed by seed_eq
name_quick tw11985326045990495214 for seed by seed_eq
name_quick tw12233582284571471492 for seed by seed_eq
name_quick tw12312069835390807648 for seed by seed_eq
name_quick tw1258717718454355964 for seed by seed_eq
name_quick tw12659028871203227004 for seed by seed_eq
name_quick tw12905708269229584271 for seed by seed_eq
name_quick tw1291980286583624508 for seed by seed_eq
name_quick tw12945451867199242903 for seed by seed_eq
name_quick tw13145125596335152023 for seed by seed_eq
name_quick tw13215998728584607739 for seed by seed_eq
name_quick tw13254397897704925713 for seed by seed_eq
name_quick tw13317431791736044220 for seed by seed_eq
name_quick tw1333364371103165705 for seed by seed_eq
name_quick tw13479600455187215721 for seed by seed_eq
name_quick tw13512673800721320934 for seed by seed_eq
name_quick tw1355338860687761863 for seed by seed_eq
name_quick tw13607416678640721797 for seed by seed_eq
name_quick tw136631920214876835 for seed by seed_eq
name_quick tw13678640442995254988 for seed by seed_eq
name_quick tw13759679279233594173 for seed by seed_eq
name_quick tw1377046205977697930 for seed by seed_eq
name_quick tw13900631225919944168 for seed by seed_eq
name_quick tw13981391230805400906 for seed by seed_eq
name_quick tw1414301608579184545 for seed by seed_eq
name_quick tw14223099787259518943 for seed by seed_eq
name_quick tw14386061602966655976 for seed by seed_eq
name_quick tw14433975572909055671 for seed by seed_eq
name_quick tw14487725735874088081 for seed by seed_eq
name_quick tw14530364306720264245 for seed by seed_eq
name_quick tw14537914154153760125 for seed by seed_eq
name_quick tw14553827428707814869 for seed by seed_eq
name_quick tw14979626087600564940 for seed by seed_eq
name_quick tw1503297043503765363 for seed by seed_eq
name_quick tw15063218836187553497 for seed by seed_eq
name_quick tw15112985482279097393 for seed by seed_eq
name_quick tw15168306246750427876 for seed by seed_eq
name_quick tw15263041282635125899 for seed by seed_eq
name_quick tw15356550376145021766 for seed by seed_eq
name_quick tw15475462885187679331 for seed by seed_eq
name_quick tw1549821801417843478 for seed by seed_eq
name_quick tw15742981410569661332 for seed by seed_eq
name_quick tw15755039735206942576 for seed by seed_eq
name_quick tw15894407043143930727 for seed by seed_eq
name_quick tw16018607276475445134 for seed by seed_eq
name_quick tw16049961110935095269 for seed by seed_eq
name_quick tw1620339239838986703 for seed by seed_eq
name_quick tw16349804527192203551 for seed by seed_eq
name_quick tw16548257151911338427 for seed by seed_eq
name_quick tw16741492637210864865 for seed by seed_eq
name_quick tw17000155066101142889 for seed by seed_eq
name_quick tw17018628822417861297 for seed by seed_eq
name_quick tw17069979004554194336 for seed by seed_eq
name_quick tw17100903815162463580 for seed by seed_eq
name_quick tw17111948838632640456 for seed by seed_eq
name_quick tw17354465474357448390 for seed by seed_eq
name_quick tw17497748084772794779 for seed by seed_eq
name_quick tw17532440430192770315 for seed by seed_eq
name_quick tw17730448691065144110 for seed by seed_eq
name_quick tw17828083071136270317 for seed by seed_eq
name_quick tw17888162413812561239 for seed by seed_eq
name_quick tw17954471519018878134 for seed by seed_eq
name_quick tw17975652961387846372 for seed by seed_eq
name_quick tw17988542015724977305 for seed by seed_eq
name_quick tw18211773271919218964 for seed by seed_eq
name_quick tw18220123701641295943 for seed by seed_eq
name_quick tw1829445100760108279 for seed by seed_eq
name_quick tw18340240734955500558 for seed by seed_eq
name_quick tw2611137233208623240 for seed by seed_eq
name_quick tw2627984346626558326 for seed by seed_eq
name_quick tw282004115355043989 for seed by seed_eq
name_quick tw3093977132361051618 for seed by seed_eq
name_quick tw3131671291697673992 for seed by seed_eq
name_quick tw3152983702415266003 for seed by seed_eq
name_quick tw3282434896037501709 for seed by seed_eq
name_quick tw3362959441861295915 for seed by seed_eq
name_quick tw3577408171920636059 for seed by seed_eq
name_quick tw3619232141914619222 for seed by seed_eq
name_quick tw3658093133387280835 for seed by seed_eq
name_quick tw3764465048917985505 for seed by seed_eq
name_quick tw3766158894648301139 for seed by seed_eq
name_quick tw387338674003428930 for seed by seed_eq
name_quick tw3891137856419664920 for seed by seed_eq
name_quick tw3972328310683599613 for seed by seed_eq
name_quick tw4011157648589011858 for seed by seed_eq
name_quick tw4071324889030633612 for seed by seed_eq
name_quick tw413528180498961939 for seed by seed_eq
name_quick tw4280405083889116848 for seed by seed_eq
name_quick tw43969757491396457 for seed by seed_eq
name_quick tw4527066259768149269 for seed by seed_eq
name_quick tw460243522976405022 for seed by seed_eq
name_quick tw4636218855388986860 for seed by seed_eq
name_quick tw4658958612460137192 for seed by seed_eq
name_quick tw470574548607681690 for seed by seed_eq
name_quick tw4775785305629353868 for seed by seed_eq
name_quick tw4797165386629745026 for seed by seed_eq
name_quick tw4980102563643897964 for seed by seed_eq
name_quick tw5111356299099525756 for seed by seed_eq
name_quick tw5189142188285759775 for seed by seed_eq
name_quick tw5268983451555188008 for seed by seed_eq
name_quick tw5349121933718820234 for seed by seed_eq
name_quick tw5396446701170858492 for seed by seed_eq
name_quick tw5529568453561195837 for seed by seed_eq
name_quick tw5721027456603625697 for seed by seed_eq
name_quick tw5770868932273138760 for seed by seed_eq
name_quick tw6004533443673955352 for seed by seed_eq
name_quick tw6245536207120538393 for seed by seed_eq
name_quick tw6309420706278071738 for seed by seed_eq
name_quick tw6434138532213402376 for seed by seed_eq
name_quick tw6448080314894763839 for seed by seed_eq
name_quick tw6589095468515690095 for seed by seed_eq
name_quick tw6683783046931543321 for seed by seed_eq
name_quick tw682011567655089306 for seed by seed_eq
name_quick tw6929956602132211858 for seed by seed_eq
name_quick tw7232422423428716515 for seed by seed_eq
name_quick tw7275051467321613617 for seed by seed_eq
name_quick tw7299303143086499733 for seed by seed_eq
name_quick tw7323676302269181137 for seed by seed_eq
name_quick tw7745614565497352828 for seed by seed_eq
name_quick tw8075568018651887793 for seed by seed_eq
name_quick tw8376441433122354887 for seed by seed_eq
name_quick tw8424611434330503625 for seed by seed_eq
name_quick tw8537084889766193716 for seed by seed_eq
name_quick tw8579058602437062094 for seed by seed_eq
name_quick tw8595292554425487202 for seed by seed_eq
name_quick tw8603108125212654177 for seed by seed_eq
name_quick tw8727135674562949291 for seed by seed_eq
name_quick tw8753696776887207221 for seed by seed_eq
name_quick tw8860024209350480642 for seed by seed_eq
name_quick tw9011979029575296479 for seed by seed_eq
name_quick tw9136488742655976645 for seed by seed_eq
name_quick tw932993149863042379 for seed by seed_eq
name_quick tw9552468772387799933 for seed by seed_eq
name_quick tw9759809726879904816 for seed by seed_eq
name_quick tw9948023125614773506 for seed by seed_eq
open_top hd for PySem.Challenge.rw_nt0010_01

local macro_rules | `(tactic| omega) => `(tactic| lia)
local macro_rules | `(tactic| walk_at $s:str) => `(tactic| k_extra $s)
local macro_rules | `(tactic| k_all) => `(tactic| k_extra "k_all")
theorem anew : True := by
  w_top off
  k_with_none
  trivial
section
/-- A contract of a def of the text: from any caller's frame and ledger it comes back with a value and a ledger that R tells of. -/
noncomputable def Ctr (w : World) (f : Addr) (args : List Value) (led : List (Addr × Obj)) (d u : Nat) (R : Value → List (Addr × Obj) → Prop) : Prop :=
  ∀ (mean : ExcName → Option Value) (mg mb : Str → Option Value) (dp un : Nat) (gd : Option (List Code)) (cn : Str) (cs : Scope) (a : Addr) (ccd : Value) (cl : List (Str × Addr)) (outer : List Env) (A₀ : Around) (base h₀ : Heap) (L : Addr) (m : Str → Option Value) (s : Shared) (Q E : Value → Shared → Prop),
    Below A₀ base outer h₀ → Fr h₀ L s.heap m → (hd.heap_39 w.params).In h₀ → News h₀ L s.heap led → Top hd.view_39 (looseW hd.view_39 [Str.ofString "UniError"]) mean mg mb h₀ → cs.kind = .function → dp + d < recursionLimit → un + u < cLine →
    (∀ v led' h' tk', R v led' → Fr h₀ L h' m → News h₀ L h' led' → Q v { s with heap := h', toks := tk' }) →
    wpAny (model PySem.Challenge.rw_nt0010_01.row.prog w) (ktrTop dp un gd cn cs L a ccd cl outer) (call (.ref f) args) Q E s
/-- the token of an int that is stored, forgotten: the terms behind bear a name, not the chain of states -/
theorem gen_store {M : Model} {A : Around} {env : Env} {x : Str} {v : Int} {s0 s : Shared} {Q : Unit → Shared → Prop} {E : Value → Shared → Prop} (h : ∀ t : Nat, wpAny M A (storeName env x (.int v t)) Q E s) : wpAny M A (storeName env x (.int v s0.toks)) Q E s := h _

end
section
noncomputable def Stop (P : Prop) : Prop := P
theorem Stop.mk {P : Prop} (h : Stop P) : P := h
theorem Stop.out {P : Prop} (h : P) : Stop P := h
theorem sub_nil {α : Type} {r : List α} : ∀ p ∈ ([] : List α), p ∈ r := fun _ h => nomatch h
theorem sub_cons {α : Type} {a : α} {l r : List α} (h2 : ∀ p ∈ l, p ∈ r) (h : a ∈ r) : ∀ p ∈ a :: l, p ∈ r := List.forall_mem_cons.mpr ⟨h, h2⟩
theorem sub_skip {α : Type} {x : α} {l r : List α} (h : ∀ p ∈ l, p ∈ r) : ∀ p ∈ l, p ∈ x :: r := fun p hp => List.mem_cons_of_mem _ (h p hp)
section
variable {M : Model} {A : Around} {E : Value → Shared → Prop} {s : Shared} {env : Env} {h₀ : Heap} {L : Addr} {m : Str → Option Value} {led : List (Addr × Obj)}
/-- a value joined: what t gives is v, on every way -/
noncomputable def JV (h₀ : Heap) (L : Addr) (m : Str → Option Value) (led : List (Addr × Obj)) (s : Shared) (v v' : Value) (s' : Shared) : Prop := v' = v ∧ ∃ h' tk, s' = { s with heap := h', toks := tk } ∧ Fr h₀ L h' m ∧ News h₀ L h' led
theorem JV.mk {v v' : Value} {h' : Heap} {tk : Nat} (e : v' = v) (F : Fr h₀ L h' m) (N : News h₀ L h' led) : JV h₀ L m led s v v' { s with heap := h', toks := tk } := ⟨e, h', tk, rfl, F, N⟩
theorem evalJ {t : Sem Value} {Q : Value → Shared → Prop} (v : Value) (_F : Fr h₀ L s.heap m) (_N : News h₀ L s.heap led) (h : wpAny M A t (JV h₀ L m led s v) E s)
    (k : ∀ h' tk, Fr h₀ L h' m → News h₀ L h' led → Q v { s with heap := h', toks := tk }) : wpAny M A t Q E s :=
  wpAny_mono h (fun v' s' q => by obtain ⟨rfl, h', tk, rfl, F, N⟩ := q; exact k h' tk F N) fun _ _ x => x
noncomputable def JB (h₀ : Heap) (L : Addr) (m : Str → Option Value) (led : List (Addr × Obj)) (s : Shared) (c b : Bool) (s' : Shared) : Prop := b = c ∧ ∃ h' tk, s' = { s with heap := h', toks := tk } ∧ Fr h₀ L h' m ∧ News h₀ L h' led
theorem JB.mk {c b : Bool} {h' : Heap} {tk : Nat} (e : b = c) (F : Fr h₀ L h' m) (N : News h₀ L h' led) : JB h₀ L m led s c b { s with heap := h', toks := tk } := ⟨e, h', tk, rfl, F, N⟩
theorem IfJ {test : PySem.Expr} {body orelse : List Stmt} {pos : Pos} {Q : Flow → Shared → Prop} (c : Bool) (_F : Fr h₀ L s.heap m) (_N : News h₀ L s.heap led) (h : wpAny M A (isTrue test env (eval test env)) (JB h₀ L m led s c) E s)
    (h1 : c = true → ∀ h' tk, Fr h₀ L h' m → News h₀ L h' led → wpAny M A (execs body env) Q E { s with heap := h', toks := tk })
    (h2 : c = false → ∀ h' tk, Fr h₀ L h' m → News h₀ L h' led → wpAny M A (execs orelse env) Q E { s with heap := h', toks := tk }) : wpAny M A (exec (.If test body orelse pos) env) Q E s := by
  refine wpAny_If (wpAny_mono h (fun b s' q => ?_) fun _ _ x => x)
  obtain ⟨rfl, h', tk, rfl, F, N⟩ := q
  cases b with
  | true => exact h1 rfl h' tk F N
  | false => exact h2 rfl h' tk F N
end
section
variable {M : Model} {A : Around} {E : Value → Shared → Prop} {s : Shared} {h₀ : Heap} {L : Addr} {m : Str → Option Value} {led : List (Addr × Obj)}
/-- a list of ints joined: on every way a new list of the ints us -/
noncomputable def JL (h₀ : Heap) (L : Addr) (m : Str → Option Value) (led : List (Addr × Obj)) (s : Shared) (us : List Int) (v' : Value) (s' : Shared) : Prop :=
  ∃ l vs n h' tk, v' = .ref l ∧ IntsAre vs us ∧ AllLt l led ∧ s' = { s with heap := h', toks := tk } ∧ Fr h₀ L h' m ∧ News h₀ L h' ((l, listOf vs.toArray n) :: led)
theorem JL.mk {us us' : List Int} {l : Addr} {vs : List Value} {n : Nat} {h' : Heap} {tk : Nat} (hi : IntsAre vs us') (e : us' = us) (ha : AllLt l led) (F : Fr h₀ L h' m) (N : News h₀ L h' ((l, listOf vs.toArray n) :: led)) :
    JL h₀ L m led s us (.ref l) { s with heap := h', toks := tk } := ⟨l, vs, n, h', tk, rfl, e ▸ hi, ha, rfl, F, N⟩
theorem evalL {t : Sem Value} {Q : Value → Shared → Prop} (us : List Int) (_F : Fr h₀ L s.heap m) (_N : News h₀ L s.heap led) (h : wpAny M A t (JL h₀ L m led s us) E s)
    (k : ∀ l vs n h' tk, IntsAre vs us → AllLt l led → Fr h₀ L h' m → News h₀ L h' ((l, listOf vs.toArray n) :: led) → Q (.ref l) { s with heap := h', toks := tk }) : wpAny M A t Q E s :=
  wpAny_mono h (fun v' s' q => by obtain ⟨l, vs, n, h', tk, rfl, hi, ha, rfl, F, N⟩ := q; exact k l vs n h' tk hi ha F N) fun _ _ x => x
end

end
section
section use
variable {w : World} {f : Addr} {args : List Value} {led : List (Addr × Obj)} {d u : Nat} {R : Value → List (Addr × Obj) → Prop}
theorem Ctr.use (C : Ctr w f args led d u R) {mean : ExcName → Option Value} {mg mb : Str → Option Value} {dp un : Nat} {gd : Option (List Code)} {cn : Str} {cs : Scope} {a : Addr} {ccd : Value} {cl : List (Str × Addr)} {outer : List Env} {A₀ : Around} {base h₀ : Heap} {L : Addr} {m : Str → Option Value} {s : Shared} {Q E : Value → Shared → Prop}
    (B : Below A₀ base outer h₀) (F : Fr h₀ L s.heap m) (X : (hd.heap_39 w.params).In h₀) (N : News h₀ L s.heap led) (T : Top hd.view_39 (looseW hd.view_39 [Str.ofString "UniError"]) mean mg mb h₀) (hk : cs.kind = .function) (hd : dp + d < recursionLimit) (hu : un + u < cLine)
    (ret : ∀ v led' h' tk', R v led' → Fr h₀ L h' m → News h₀ L h' led' → Q v { s with heap := h', toks := tk' }) :
    wpAny (model PySem.Challenge.rw_nt0010_01.row.prog w) (ktrTop dp un gd cn cs L a ccd cl outer) (call (.ref f) args) Q E s :=
  C mean mg mb dp un gd cn cs a ccd cl outer A₀ base h₀ L m s Q E B F X N T hk hd hu ret
end use

noncomputable def RInt (news : List (Addr × Obj)) (x : Int) (v : Value) (led : List (Addr × Obj)) : Prop := ∃ y t, .int y t = v ∧ y = x ∧ news = led
noncomputable def RBool (news : List (Addr × Obj)) (x : Bool) (v : Value) (led : List (Addr × Obj)) : Prop := ∃ y, .bool y = v ∧ y = x ∧ news = led

theorem RInt.elim {news led : List (Addr × Obj)} {x : Int} {v : Value} (h : RInt news x v led) {M : Value → List (Addr × Obj) → Prop} (k : ∀ t, M (.int x t) news) : M v led := by
  obtain ⟨y, t, rfl, rfl, rfl⟩ := h
  exact k t
theorem RBool.elim {news led : List (Addr × Obj)} {x : Bool} {v : Value} (h : RBool news x v led) {M : Value → List (Addr × Obj) → Prop} (k : M (.bool x) news) : M v led := by
  obtain ⟨y, rfl, rfl, rfl⟩ := h
  exact k
theorem elim1 {β : Type} {A : β → Value} {news led : List (Addr × Obj)} {v : Value} (h : ∃ b, A b = v ∧ news = led) {M : Value → List (Addr × Obj) → Prop} (k : ∀ b, M (A b) news) : M v led := by
  obtain ⟨b, rfl, rfl⟩ := h
  exact k b
theorem elim2 {α β : Type} {A : α → β → Value} {C : α → β → Prop} {news led : List (Addr × Obj)} {v : Value} (h : ∃ a b, A a b = v ∧ C a b ∧ news = led) {M : Value → List (Addr × Obj) → Prop} (k : ∀ a b, C a b → M (A a b) news) : M v led := by
  obtain ⟨a, b, rfl, c, rfl⟩ := h
  exact k a b c

noncomputable def pyHigh (c : Int) : Bool := decide (55296 ≤ c ∧ c ≤ 56319)
noncomputable def pyLow (c : Int) : Bool := decide (56320 ≤ c ∧ c ≤ 57343)
noncomputable def pyCode (c : Int) : Bool := decide (0 ≤ c ∧ c ≤ 1114111)
noncomputable def pySur (c : Int) : Bool := decide (55296 ≤ c ∧ c ≤ 57343)
noncomputable def pyScalar (c : Int) : Bool := pyCode c && !pySur c
noncomputable def pyDirect (c : Int) : Bool := decide (32 ≤ c ∧ c ≤ 126) && decide (c ≠ 38)
noncomputable def pySign (v : Int) : Int := if v < 26 then 65 + v else if v < 52 then 97 + v - 26 else if v < 62 then 48 + v - 52 else if v = 62 then 43 else 44
noncomputable def pyValue (o : Int) : Option Int :=
  if 65 ≤ o ∧ o ≤ 90 then some (o - 65) else if 97 ≤ o ∧ o ≤ 122 then some (o - 97 + 26) else if 48 ≤ o ∧ o ≤ 57 then some (o - 48 + 52) else if o = 43 then some 62 else if o = 44 then some 63 else none
noncomputable def RVal (news : List (Addr × Obj)) (x : Option Int) (v : Value) (led : List (Addr × Obj)) : Prop := (∃ y t, .int y t = v ∧ x = some y ∧ news = led) ∨ (.none = v ∧ x = none ∧ news = led)
theorem RVal.elim {news led : List (Addr × Obj)} {x : Option Int} {v : Value} (h : RVal news x v led) {M : Value → List (Addr × Obj) → Prop} (k1 : ∀ y t, x = some y → M (.int y t) news) (k2 : x = none → M .none news) : M v led := by
  rcases h with ⟨y, t, rfl, h, rfl⟩ | ⟨rfl, h, rfl⟩
  · exact k1 y t h
  · exact k2 h
theorem RVal.some_ {news : List (Addr × Obj)} {x : Option Int} {y : Int} {t : Tok} (h : x = some y) : RVal news x (.int y t) news := .inl ⟨y, t, rfl, h, rfl⟩
theorem RVal.none_ {news : List (Addr × Obj)} {x : Option Int} (h : x = none) : RVal news x .none news := .inr ⟨rfl, h, rfl⟩

theorem high_ctr (w : World) (news : List (Addr × Obj)) (c : Int) (t : Tok) : Ctr w 73 [.int c t] news 1 8 (RBool news (pyHigh c)) := by
  k_with_none
  (unfold Ctr; k_fill; intros; rename_i hret; refine wpAny_call ?_; k_dflt cell_enter)
  k_steps
  all_goals (refine hret _ _ _ _ ⟨_, rfl, ?_, rfl⟩ (by k_asm) (by k_asm))
  all_goals (simp only [pyHigh, decide_eq_decide]; omega)
theorem low_ctr (w : World) (news : List (Addr × Obj)) (c : Int) (t : Tok) : Ctr w 80 [.int c t] news 1 8 (RBool news (pyLow c)) := by
  k_with_none
  (unfold Ctr; k_fill; intros; rename_i hret; refine wpAny_call ?_; k_dflt cell_enter)
  k_steps
  all_goals (refine hret _ _ _ _ ⟨_, rfl, ?_, rfl⟩ (by k_asm) (by k_asm))
  all_goals (simp only [pyLow, decide_eq_decide]; omega)
theorem code_ctr (w : World) (news : List (Addr × Obj)) (c : Int) (t : Tok) : Ctr w 66 [.int c t] news 1 8 (RBool news (pyCode c)) := by
  k_with_none
  (unfold Ctr; k_fill; intros; rename_i hret; refine wpAny_call ?_; k_dflt cell_enter)
  k_steps
  all_goals (refine hret _ _ _ _ ⟨_, rfl, ?_, rfl⟩ (by k_asm) (by k_asm))
  all_goals (simp only [pyCode, decide_eq_decide]; omega)
theorem sur_ctr (w : World) (news : List (Addr × Obj)) (c : Int) (t : Tok) : Ctr w 87 [.int c t] news 1 8 (RBool news (pySur c)) := by
  k_with_none
  (unfold Ctr; k_fill; intros; rename_i hret; refine wpAny_call ?_; k_dflt cell_enter)
  k_steps
  all_goals (refine hret _ _ _ _ ⟨_, rfl, ?_, rfl⟩ (by k_asm) (by k_asm))
  all_goals (simp only [pySur, decide_eq_decide]; omega)
theorem direct_ctr (w : World) (news : List (Addr × Obj)) (c : Int) (t : Tok) : Ctr w 115 [.int c t] news 1 8 (RBool news (pyDirect c)) := by
  k_with_none
  (unfold Ctr; k_fill; intros; rename_i hret; refine wpAny_call ?_; k_dflt cell_enter)
  k_steps
  all_goals (refine hret _ _ _ _ ⟨_, rfl, ?_, rfl⟩ (by k_asm) (by k_asm))
  all_goals (simp only [pyDirect, bne, BEq.beq]; first | (rw [Bool.eq_iff_iff]; simp; omega) | trace_state)
theorem sign_ctr (w : World) (news : List (Addr × Obj)) (c : Int) (t : Tok) : Ctr w 101 [.int c t, .bool true] news 1 8 (RInt news (pySign c)) := by
  k_with_none
  (unfold Ctr; k_fill; intros; rename_i hret; refine wpAny_call ?_; k_dflt cell_enter)
  k_steps
  all_goals (refine hret _ _ _ _ ⟨_, _, rfl, ?_, rfl⟩ (by k_asm) (by k_asm))
  all_goals (simp only [pySign]; split <;> omega)
theorem in_1 {a b c : Int} (h : a ≤ c) : decide (c ≤ b) = decide (a ≤ c ∧ c ≤ b) := decide_eq_decide.mpr ⟨fun x => ⟨h, x⟩, fun x => x.2⟩
theorem in_2 {a b c : Int} (h : ¬ a ≤ c) : false = decide (a ≤ c ∧ c ≤ b) := (decide_eq_false fun x => h x.1).symm
theorem pv_1 {c : Int} (h : decide (65 ≤ c ∧ c ≤ 90) = true) : pyValue c = some (c - 65) := if_pos (of_decide_eq_true h)
theorem pv_2 {c : Int} (h : decide (65 ≤ c ∧ c ≤ 90) = false) (h2 : decide (97 ≤ c ∧ c ≤ 122) = true) : pyValue c = some (c - 97 + 26) := (if_neg (of_decide_eq_false h)).trans (if_pos (of_decide_eq_true h2))
theorem pv_3 {c : Int} (h : decide (65 ≤ c ∧ c ≤ 90) = false) (h2 : decide (97 ≤ c ∧ c ≤ 122) = false) (h3 : decide (48 ≤ c ∧ c ≤ 57) = true) : pyValue c = some (c - 48 + 52) :=
  (if_neg (of_decide_eq_false h)).trans ((if_neg (of_decide_eq_false h2)).trans (if_pos (of_decide_eq_true h3)))
theorem pv_4 {c : Int} (h : decide (65 ≤ c ∧ c ≤ 90) = false) (h2 : decide (97 ≤ c ∧ c ≤ 122) = false) (h3 : decide (48 ≤ c ∧ c ≤ 57) = false) : pyValue c = if c = 43 then some 62 else if c = 44 then some 63 else none :=
  (if_neg (of_decide_eq_false h)).trans ((if_neg (of_decide_eq_false h2)).trans (if_neg (of_decide_eq_false h3)))
section
theorem value_ctr (w : World) (news : List (Addr × Obj)) (c : Int) (t : Tok) : Ctr w 108 [.int c t, .bool true] news 1 8 (RVal news (pyValue c)) := by
  k_with_none
  k_with "exec If" => refine Stop.mk ?_
  (unfold Ctr; k_fill; intros; rename_i hret; refine wpAny_call ?_; k_dflt cell_enter)
  k_steps
  with_reducible refine Stop.out ?_
  (with_reducible rename Fr _ _ _ _ => lF')
  (with_reducible rename News _ _ _ _ => lN')
  refine IfJ (decide (65 ≤ c ∧ c ≤ 90)) lF' lN' ?t1 ?y1 ?n1
  case t1 =>
    k_steps
    all_goals exact JB.mk (by first | exact in_1 (by with_reducible assumption) | exact in_2 (by with_reducible assumption)) (by k_asm) (by k_asm)
  case y1 =>
    intro hc1 h8 tk8 F8 N8
    clear lF' lN'
    k_steps
    exact hret _ _ _ _ (RVal.some_ (pv_1 hc1)) (by k_asm) (by k_asm)
  case n1 =>
    intro hc1 h8 tk8 F8 N8
    clear lF' lN'
    k_steps
    with_reducible refine Stop.out ?_
    (with_reducible rename Fr _ _ _ _ => lF')
    (with_reducible rename News _ _ _ _ => lN')
    refine IfJ (decide (97 ≤ c ∧ c ≤ 122)) lF' lN' ?t2 ?y2 ?n2
    case t2 =>
      k_steps
      all_goals exact JB.mk (by first | exact in_1 (by with_reducible assumption) | exact in_2 (by with_reducible assumption)) (by k_asm) (by k_asm)
    case y2 =>
      intro hc2 h7 tk7 F7 N7
      clear lF' lN'
      k_steps
      exact hret _ _ _ _ (RVal.some_ (pv_2 hc1 hc2)) (by k_asm) (by k_asm)
    case n2 =>
      intro hc2 h7 tk7 F7 N7
      clear lF' lN'
      k_steps
      with_reducible refine Stop.out ?_
      (with_reducible rename Fr _ _ _ _ => lF')
      (with_reducible rename News _ _ _ _ => lN')
      refine IfJ (decide (48 ≤ c ∧ c ≤ 57)) lF' lN' ?t3 ?y3 ?n3
      case t3 =>
        k_steps
        all_goals exact JB.mk (by first | exact in_1 (by with_reducible assumption) | exact in_2 (by with_reducible assumption)) (by k_asm) (by k_asm)
      case y3 =>
        intro hc3 h6 tk6 F6 N6
        clear lF' lN'
        k_steps
        exact hret _ _ _ _ (RVal.some_ (pv_3 hc1 hc2 hc3)) (by k_asm) (by k_asm)
      case n3 =>
        intro hc3 h6 tk6 F6 N6
        clear lF' lN'
        have e4 := pv_4 hc1 hc2 hc3
        k_steps
        with_reducible refine Stop.out ?_
        with_reducible refine wpAny_If ?_
        k_steps
        · exact hret _ _ _ _ (RVal.some_ (e4.trans (if_pos (by with_reducible assumption)))) (by k_asm) (by k_asm)
        · exact hret _ _ _ _ (RVal.some_ (e4.trans ((if_neg (by with_reducible assumption)).trans (if_pos (by with_reducible assumption))))) (by k_asm) (by k_asm)
        · exact hret _ _ _ _ (RVal.none_ (e4.trans ((if_neg (by with_reducible assumption)).trans (if_neg (by with_reducible assumption))))) (by k_asm) (by k_asm)
end
section
theorem scalar_ctr (w : World) (news : List (Addr × Obj)) (c : Int) (t : Tok) : Ctr w 94 [.int c t] news 2 16 (RBool news (pyScalar c)) := by
  k_with_none
  k_with "call ref" => (k_here; first | (refine' Ctr.use (code_ctr _ _ _ _) ?k1 ?k2 ?k3 ?k4 ?k5 ?kK ?kd ?ku ?_; (case k1 => k_asm); (case k2 => k_asm); (case k3 => k_asm); (case k4 => k_asm); (case k5 => k_asm); (case kK => first | exact rfl | assumption); (case kd => ktr_room); (case ku => ktr_units); intro cv cled h' tk' hR F' N'; revert N'; apply RBool.elim hR; clear hR; intro N'; (try dsimp only); (try k_fold)) | (refine' Ctr.use (sur_ctr _ _ _ _) ?k1 ?k2 ?k3 ?k4 ?k5 ?kK ?kd ?ku ?_; (case k1 => k_asm); (case k2 => k_asm); (case k3 => k_asm); (case k4 => k_asm); (case k5 => k_asm); (case kK => first | exact rfl | assumption); (case kd => ktr_room); (case ku => ktr_units); intro cv cled h' tk' hR F' N'; revert N'; apply RBool.elim hR; clear hR; intro N'; (try dsimp only); (try k_fold)))
  (unfold Ctr; k_fill; intros; rename_i hret; refine wpAny_call ?_; k_dflt cell_enter)
  k_steps
  all_goals trace_state
  all_goals (refine hret _ _ _ _ ⟨_, rfl, ?_, rfl⟩ (by k_asm) (by k_asm))
  all_goals (simp_all [pyScalar])
end

end
section
noncomputable def RInts (news : List (Addr × Obj)) (P : List Int → Prop) (v : Value) (led : List (Addr × Obj)) : Prop := ∃ l vs ns n, .ref l = v ∧ IntsAre vs ns ∧ P ns ∧ (l, listOf vs.toArray n) :: news = led ∧ AllLt l news
theorem RInts.elim {news led : List (Addr × Obj)} {P : List Int → Prop} {v : Value} (h : RInts news P v led) {M : Value → List (Addr × Obj) → Prop} (k : ∀ l vs ns n, IntsAre vs ns → P ns → AllLt l news → M (.ref l) ((l, listOf vs.toArray n) :: news)) : M v led := by
  obtain ⟨l, vs, ns, n, rfl, hi, hp, rfl, ha⟩ := h
  exact k l vs ns n hi hp ha
noncomputable def pyUnit (code : Int) : List Int := if code < 65536 then [code] else [55296 + (code - 65536) / 1024, 56320 + (code - 65536) % 1024]
noncomputable def pyUnits (codes : List Int) : List Int := codes.flatMap pyUnit
theorem pyUnits_snoc (p : List Int) (c : Int) : pyUnits (p ++ [c]) = pyUnits p ++ pyUnit c := by simp [pyUnits]
theorem and1023 (x : Int) : Builtin.bitAnd x 1023 = x % 1024 := kbt_mask x 10
theorem shr10 (x : Int) : x.fdiv (2 ^ Int.toNat 10) = x / 1024 := by
  rw [show ((2 : Int) ^ Int.toNat 10) = 1024 from by decide]; exact Int.fdiv_eq_ediv_of_nonneg _ (by decide)
theorem units_0 : ([] : List Int) = pyUnits [] ∧ ([] : List Int).length ≤ 2 * ([] : List Int).length := ⟨rfl, Nat.le_refl _⟩
theorem units_1 {us pre : List Int} {c : Int} (h : us = pyUnits pre) (hl : us.length ≤ 2 * pre.length) (hc : c < 65536) : us ++ [c] = pyUnits (pre ++ [c]) ∧ (us ++ [c]).length ≤ 2 * (pre ++ [c]).length := by
  refine ⟨by rw [pyUnits_snoc, h, pyUnit, if_pos hc], ?_⟩
  simp only [List.length_append, List.length_singleton]; omega
theorem units_2 {us pre : List Int} {c : Int} (h : us = pyUnits pre) (hl : us.length ≤ 2 * pre.length) (hc : ¬ c < 65536) :
    us ++ [55296 + (c - 65536).fdiv (2 ^ Int.toNat 10)] ++ [56320 + Builtin.bitAnd (c - 65536) 1023] = pyUnits (pre ++ [c]) ∧ (us ++ [55296 + (c - 65536).fdiv (2 ^ Int.toNat 10)] ++ [56320 + Builtin.bitAnd (c - 65536) 1023]).length ≤ 2 * (pre ++ [c]).length := by
  refine ⟨by rw [pyUnits_snoc, h, pyUnit, if_neg hc, and1023, shr10]; simp, ?_⟩
  simp only [List.length_append, List.length_singleton]; omega
theorem pyUnits_len : ∀ ns : List Int, (pyUnits ns).length ≤ 2 * ns.length := by
  intro ns
  induction ns with
  | nil => exact Nat.le_refl _
  | cons c r ih =>
    show (pyUnit c ++ pyUnits r).length ≤ _
    have : (pyUnit c).length ≤ 2 := by unfold pyUnit; split <;> simp
    simp only [List.length_append, List.length_cons]; omega
theorem pyUnit_in {c x : Int} (h0 : 0 ≤ c) (h1 : c ≤ 1114111) (hx : x ∈ pyUnit c) : 0 ≤ x ∧ x < 65536 := by
  unfold pyUnit at hx
  split at hx
  · rw [List.mem_singleton.mp hx]; omega
  · rcases List.mem_cons.mp hx with rfl | hx
    · omega
    · rw [List.mem_singleton.mp hx]; omega
theorem pyUnits_in {ns : List Int} (h : ∀ c ∈ ns, 0 ≤ c ∧ c ≤ 1114111) : ∀ x ∈ pyUnits ns, 0 ≤ x ∧ x < 65536 := by
  intro x hx
  obtain ⟨c, hc, hx⟩ := List.mem_flatMap.mp hx
  exact pyUnit_in (h c hc).1 (h c hc).2 hx
theorem ctr_mem {w : World} {f : Addr} {args : List Value} {led : List (Addr × Obj)} {e : Addr × Obj} {d u : Nat} {R R' : Value → List (Addr × Obj) → Prop} (hm : e ∈ led) (C : Ctr w f args (e :: led) d u R')
    (h : ∀ v led', R' v led' → ∃ led'', R v led'' ∧ ∀ p ∈ led'', p ∈ led') : Ctr w f args led d u R := by
  intro mean mg mb dp un gd cn cs a ccd cl outer A₀ base h₀ L m s Q E B F X N T hk hd hu ret
  refine C mean mg mb dp un gd cn cs a ccd cl outer A₀ base h₀ L m s Q E B F X (fun p hp => ?_) T hk hd hu (fun v led' h' tk' hR F' N' => ?_)
  · rcases List.mem_cons.mp hp with rfl | hp
    · exact N _ hm
    · exact N _ hp
  · obtain ⟨led'', hR', hs⟩ := h v led' hR
    exact ret v led'' h' tk' hR' F' (fun p hp => N' p (hs p hp))
theorem RInts.drop {news : List (Addr × Obj)} {e : Addr × Obj} {P : List Int → Prop} : ∀ v led', RInts (e :: news) P v led' → ∃ led'', RInts news P v led'' ∧ ∀ p ∈ led'', p ∈ led' := by
  rintro v led' ⟨l, vs, ns, n, hv, hi, hp, hl, ha⟩
  subst hl
  refine ⟨_, ⟨l, vs, ns, n, hv, hi, hp, rfl, ha.2⟩, fun p hp => ?_⟩
  rcases List.mem_cons.mp hp with rfl | hp
  · exact List.mem_cons_self
  · exact List.mem_cons_of_mem _ (List.mem_cons_of_mem _ hp)
theorem units_ctr' (w : World) (news : List (Addr × Obj)) (l : Addr) (vs : List Value) (ns : List Int) (n : Nat) (hi : IntsAre vs ns) (hn : ns.length ≤ 100) :
    Ctr w 122 [.ref l] ((l, listOf vs.toArray n) :: news) 1 8 (RInts ((l, listOf vs.toArray n) :: news) (fun us => us = pyUnits ns)) := by
  k_with_none
  (unfold Ctr; k_fill; intros; rename_i hret; refine wpAny_call ?_; k_dflt cell_enter)
  (k_with "state" => (first | exact units_0 | exact units_1 (by assumption) (by assumption) (by assumption) | exact units_2 (by assumption) (by assumption) (by assumption)))
  (k_with "pyIter ref" => k_state (fun pre units => units = pyUnits pre ∧ units.length ≤ 2 * pre.length) "units")
  k_steps
  all_goals (refine hret _ _ _ _ ⟨_, _, _, _, rfl, by assumption, by assumption, rfl, by assumption⟩ (by k_asm) (by k_asm))
theorem units_ctr (w : World) (news : List (Addr × Obj)) (l : Addr) (vs : List Value) (ns : List Int) (n : Nat) (hm : (l, listOf vs.toArray n) ∈ news) (hi : IntsAre vs ns) (hn : ns.length ≤ 100) :
    Ctr w 122 [.ref l] news 1 8 (RInts news (fun us => us = pyUnits ns)) := ctr_mem hm (units_ctr' w news l vs ns n hi hn) RInts.drop

end
section
noncomputable def valid (o : Int) : Bool := (pyValue o).isSome
noncomputable def runEnd (ks : List Int) (a : Int) : Int := a + (((ks.drop a.toNat).takeWhile valid).length : Nat)
theorem drop_getD {ks : List Int} {i : Nat} (h : i < ks.length) : ks.drop i = ks.getD i 0 :: ks.drop (i + 1) := by
  rw [List.drop_eq_getElem_cons h]; simp [List.getD_eq_getElem?_getD, List.getElem?_eq_getElem h]
theorem runEnd_step {ks : List Int} {i y : Int} (h0 : 0 ≤ i) (h1 : i < ks.length) (hv : pyValue (ks.getD i.toNat 0) = some y) : runEnd ks (i + 1) = runEnd ks i := by
  unfold runEnd
  have e : (i + 1).toNat = i.toNat + 1 := by omega
  rw [e, drop_getD (ks := ks) (i := i.toNat) (by omega), List.takeWhile_cons]
  have : valid (ks.getD i.toNat 0) = true := by unfold valid; rw [hv]; rfl
  rw [this]
  simp only [if_true, List.length_cons]
  omega
theorem runEnd_stop {ks : List Int} {i : Int} (h0 : 0 ≤ i) (hv : pyValue (ks.getD i.toNat 0) = none) : runEnd ks i = i := by
  unfold runEnd
  by_cases h : i.toNat < ks.length
  · rw [drop_getD h, List.takeWhile_cons]
    have : valid (ks.getD i.toNat 0) = false := by unfold valid; rw [hv]; rfl
    rw [this]; simp
  · rw [List.drop_of_length_le (by omega)]; simp
theorem runEnd_out {ks : List Int} {i : Int} (h1 : ¬ i < ks.length) : runEnd ks i = i := by
  unfold runEnd
  rw [List.drop_of_length_le (by omega)]; simp
theorem re_state {ks : List Int} {a i y : Int} (h0 : 0 ≤ a) (ha : a ≤ i) (h2 : runEnd ks i = runEnd ks a) (h1 : i < ks.length) (hv : pyValue (ks.getD i.toNat 0) = some y) :
    a ≤ i + 1 ∧ i + 1 ≤ ks.length ∧ runEnd ks (i + 1) = runEnd ks a := ⟨by omega, by omega, by rw [runEnd_step (by omega) h1 hv, h2]⟩
section
theorem run_end_ctr (w : World) (news : List (Addr × Obj)) (b : Array UInt8) (ks : List Int) (a : Int) (t u : Tok) (hb : KBw.bInts b = ks) (hlen : ks.length ≤ 1000) (h0 : 0 ≤ a) (h1 : a ≤ ks.length) :
    Ctr w 143 [.bytes b t, .int a u, .bool true] news 2 16 (RInt news (runEnd ks a)) := by
  k_with_none
  k_with "call ref" => (k_here; (refine' Ctr.use (value_ctr _ _ _ _) ?k1 ?k2 ?k3 ?k4 ?k5 ?kK ?kd ?ku ?_; (case k1 => k_asm); (case k2 => k_asm); (case k3 => k_asm); (case k4 => k_asm); (case k5 => k_asm); (case kK => first | exact rfl | assumption); (case kd => ktr_room); (case ku => ktr_units); intro cv cled h' tk' hR F' N'; revert N'; (apply RVal.elim hR <;> (clear hR; intros)); (all_goals (try (exfalso; exact val_no (by assumption) (by assumption)))); (all_goals (try dsimp only)); (all_goals (try k_fold))))
  (unfold Ctr; k_fill; intros; rename_i hret; refine wpAny_call ?_; k_dflt cell_enter)
  (k_with "exec While BoolOp" => k_while (fun _ i => a ≤ i ∧ i ≤ ks.length ∧ runEnd ks i = runEnd ks a) (fun _ i => (ks.length - i).toNat) "at")
  (k_with "state" => (first | exact re_state (by assumption) (by assumption) (by assumption) (by assumption) (by assumption)))
  (k_with "exec While BoolOp cons nil" => k_while (fun _ i => a ≤ i ∧ i ≤ ks.length ∧ runEnd ks i = runEnd ks a) (fun _ i => (ks.length - i).toNat) "at")
  k_steps
  all_goals (refine hret _ _ _ _ ⟨_, _, rfl, ?_, rfl⟩ (by k_asm) (by k_asm))
  · exact (runEnd_stop (by omega) (by assumption)).symm.trans (by assumption)
  · exact (runEnd_out (by assumption)).symm.trans (by assumption)
end

end
section
theorem nat_and_shl (r v k : Nat) (h : v < 2 ^ k) : (r * 2 ^ k) &&& v = 0 := by
  apply Nat.eq_of_testBit_eq
  intro i
  rw [Nat.testBit_and, Nat.zero_testBit, Nat.testBit_mul_two_pow]
  by_cases hi : k ≤ i
  · have : v.testBit i = false := Nat.testBit_lt_two_pow (Nat.lt_of_lt_of_le h (Nat.pow_le_pow_right (by decide) hi))
    simp [this]
  · simp [hi]
theorem toNat_shl {r : Int} (hr : 0 ≤ r) (k : Nat) : (r * 2 ^ k).toNat = r.toNat * 2 ^ k := by
  obtain ⟨n, rfl⟩ := Int.eq_ofNat_of_zero_le hr
  have : ((n : Int) * 2 ^ k) = ((n * 2 ^ k : Nat) : Int) := by rw [Int.natCast_mul, Int.natCast_pow]; rfl
  rw [this]; rfl
theorem or_shl {r v : Int} (k : Nat) (hr : 0 ≤ r) (h0 : 0 ≤ v) (h1 : v < 2 ^ k) : Builtin.bitOr (r * 2 ^ k) v = r * 2 ^ k + v := by
  have hp : (0 : Int) < 2 ^ k := kbt_pos k
  have hm : 0 ≤ r * 2 ^ k := Int.mul_nonneg hr (Int.le_of_lt hp)
  rw [bitOr_and, bitAnd_pp hm h0, toNat_shl hr, nat_and_shl _ _ _ ?_]
  · simp
  · have : ((v.toNat : Nat) : Int) < ((2 ^ k : Nat) : Int) := by rw [Int.toNat_of_nonneg h0, kbt_cast]; exact h1
    exact Int.ofNat_lt.mp this
theorem mask_eq (x : Int) (k : Nat) : Builtin.bitAnd x (1 * 2 ^ k - 1) = x % 2 ^ k := by rw [Int.one_mul]; exact kbt_mask x k
theorem shr_eq (x : Int) (k : Nat) : x.fdiv (2 ^ k) = x / 2 ^ k := Int.fdiv_eq_ediv_of_nonneg _ (Int.le_of_lt (kbt_pos k))

end
section
noncomputable def ruStep (st : List Int × Int × Int) (v : Int) : List Int × Int × Int :=
  if 16 ≤ st.2.2 + 6 then (st.1 ++ [(st.2.1 * 64 + v) / 2 ^ (st.2.2 + 6 - 16).toNat], (st.2.1 * 64 + v) % 2 ^ (st.2.2 + 6 - 16).toNat, st.2.2 + 6 - 16) else (st.1, st.2.1 * 64 + v, st.2.2 + 6)
noncomputable def vals (os : List Int) : List Int := os.map fun o => (pyValue o).getD 0
noncomputable def ruFold (os : List Int) : List Int × Int × Int := (vals os).foldl ruStep ([], 0, 0)
theorem ruFold_snoc (os : List Int) (o v : Int) (h : pyValue o = some v) : ruFold (os ++ [o]) = ruStep (ruFold os) v := by
  simp [ruFold, vals, h]
theorem pyValue_in {o v : Int} (h : pyValue o = some v) : 0 ≤ v ∧ v < 64 := by
  unfold pyValue at h
  (repeat' split at h) <;> first | (cases h; done) | (injection h with h; omega)
noncomputable def RuOk (pre units : List Int) (rest many : Int) : Prop := (units, rest, many) = ruFold pre ∧ 0 ≤ rest ∧ 0 ≤ many ∧ many < 16 ∧ rest < 2 ^ many.toNat ∧ units.length ≤ pre.length
theorem ru_0 : RuOk [] [] 0 0 := ⟨rfl, by decide, by decide, by decide, by decide, Nat.le_refl _⟩
theorem pow_le16 {m : Int} (h1 : m < 16) : (2 : Int) ^ m.toNat ≤ 2 ^ 15 := by
  have : m.toNat ≤ 15 := by omega
  have h := Nat.pow_le_pow_right (n := 2) (by decide) this
  have h' : ((2 ^ m.toNat : Nat) : Int) ≤ ((2 ^ 15 : Nat) : Int) := Int.ofNat_le.mpr h
  rw [kbt_cast, kbt_cast] at h'; exact h'
theorem RuOk.facts {pre units : List Int} {rest many : Int} (h : RuOk pre units rest many) : 0 ≤ rest ∧ rest < 32768 ∧ 0 ≤ many ∧ many < 16 ∧ units.length ≤ pre.length := by
  obtain ⟨_, h1, h2, h3, h4, h5⟩ := h
  exact ⟨h1, Int.lt_of_lt_of_le h4 (pow_le16 h3), h2, h3, h5⟩
theorem ru_low {rest v : Int} (hr : 0 ≤ rest) (hv : 0 ≤ v ∧ v < 64) : Builtin.bitOr (rest * 2 ^ Int.toNat 6) v = rest * 64 + v := by
  have := or_shl (r := rest) (v := v) 6 hr hv.1 (by have := hv.2; omega)
  exact this
theorem ru_turn1 {pre units : List Int} {rest many o v : Int} (h : RuOk pre units rest many) (hv : pyValue o = some v) (hc : 16 ≤ many + 6) :
    RuOk (pre ++ [o]) (units ++ [(Builtin.bitOr (rest * 2 ^ Int.toNat 6) v).fdiv (2 ^ (many + 6 - 16).toNat)]) (Builtin.bitAnd (Builtin.bitOr (rest * 2 ^ Int.toNat 6) v) (1 * 2 ^ (many + 6 - 16).toNat - 1)) (many + 6 - 16) := by
  obtain ⟨h0, h1, h2, h3, h4, h5⟩ := h
  have hr := pyValue_in hv
  rw [ru_low h1 hr, mask_eq, shr_eq]
  refine ⟨?_, ?_, ?_, ?_, ?_, ?_⟩
  · rw [ruFold_snoc pre o v hv, ← h0, ruStep, if_pos hc]
  · exact Int.emod_nonneg _ (Int.ne_of_gt (kbt_pos _))
  · omega
  · omega
  · exact Int.emod_lt_of_pos _ (kbt_pos _)
  · simp only [List.length_append, List.length_singleton]; omega
theorem ru_turn2 {pre units : List Int} {rest many o v : Int} (h : RuOk pre units rest many) (hv : pyValue o = some v) (hc : ¬ 16 ≤ many + 6) :
    RuOk (pre ++ [o]) units (Builtin.bitOr (rest * 2 ^ Int.toNat 6) v) (many + 6) := by
  obtain ⟨h0, h1, h2, h3, h4, h5⟩ := h
  have hr := pyValue_in hv
  rw [ru_low h1 hr]
  refine ⟨?_, ?_, ?_, ?_, ?_, ?_⟩
  · rw [ruFold_snoc pre o v hv, ← h0, ruStep, if_neg hc]
  · omega
  · omega
  · omega
  · have e : (many + 6).toNat = many.toNat + 6 := by omega
    rw [e, Int.pow_add]
    have : rest + 1 ≤ 2 ^ many.toNat := h4
    have := Int.mul_le_mul_of_nonneg_right this (by decide : (0 : Int) ≤ 64)
    have h64 : (2 : Int) ^ 6 = 64 := by decide
    rw [h64]; omega
  · simp only [List.length_append, List.length_singleton]; omega
theorem val_no {o : Int} (h : valid o = true) (h' : pyValue o = none) : False := by unfold valid at h; rw [h'] at h; cases h
noncomputable def slc (ks : List Int) (a e : Int) : List Int := List.take (clipAt ks.length e - clipAt ks.length a) (List.drop (clipAt ks.length a) ks)
noncomputable def RPair (news : List (Addr × Obj)) (us : List Int) (b : Bool) (v : Value) (led : List (Addr × Obj)) : Prop :=
  ∃ d l vs n, .ref d = v ∧ IntsAre vs us ∧ (d, ({ cls := .type "tuple", data := .seq #[.ref l, .bool b] } : Obj)) :: (l, listOf vs.toArray n) :: news = led ∧ AllLt l news ∧ l < d ∧ AllLt d news
theorem RPair.elim {news led : List (Addr × Obj)} {us : List Int} {b : Bool} {v : Value} (h : RPair news us b v led) {M : Value → List (Addr × Obj) → Prop} (k : ∀ d l vs n, IntsAre vs us → AllLt l news → l < d → AllLt d news → M (.ref d) ((d, ({ cls := .type "tuple", data := .seq #[.ref l, .bool b] } : Obj)) :: (l, listOf vs.toArray n) :: news)) : M v led := by
  obtain ⟨d, l, vs, n, rfl, hi, rfl, h1, h2, h3⟩ := h
  exact k d l vs n hi h1 h2 h3
theorem RPair.mk {news : List (Addr × Obj)} {us : List Int} {b b' : Bool} {d l : Addr} {vs : List Value} {n : Nat} (hi : IntsAre vs us) (hl : AllLt l news) (hd : l < d ∧ AllLt d news) (hb : b' = b) :
    RPair news us b (.ref d) ((d, ({ cls := .type "tuple", data := .seq #[.ref l, .bool b'] } : Obj)) :: (l, listOf vs.toArray n) :: news) := by
  subst hb; exact ⟨d, l, vs, n, rfl, hi, rfl, hl, hd.1, hd.2⟩
theorem News.tail {h₀ h : Heap} {L : Addr} {e : Addr × Obj} {led : List (Addr × Obj)} (N : News h₀ L h (e :: led)) : News h₀ L h led := fun p hp => N p (List.mem_cons_of_mem _ hp)
section
theorem bool_1 {p : Prop} [Decidable p] {z : Bool} (h : ¬ p) : decide p = (decide p && z) := by rw [decide_eq_false h]; rfl
theorem bool_2 {p : Prop} [Decidable p] {x : Int} (h : p) : (x == 0) = (decide p && decide (x = 0)) := by rw [decide_eq_true h, Bool.true_and]; rfl
theorem run_units_ctr (w : World) (news : List (Addr × Obj)) (b : Array UInt8) (ks : List Int) (a e : Int) (t u ue : Tok) (hb : KBw.bInts b = ks) (hlen : ks.length ≤ 1000) (hval : ∀ o ∈ slc ks a e, valid o = true) :
    Ctr w 150 [.bytes b t, .int a u, .int e ue, .bool true] news 2 16 (RPair news (ruFold (slc ks a e)).1 (decide ((ruFold (slc ks a e)).2.2 < 6) && decide ((ruFold (slc ks a e)).2.1 = 0))) := by
  k_with_none
  k_with "call ref" => (k_here; (refine' Ctr.use (value_ctr _ _ _ _) ?k1 ?k2 ?k3 ?k4 ?k5 ?kK ?kd ?ku ?_; (case k1 => k_asm); (case k2 => k_asm); (case k3 => k_asm); (case k4 => k_asm); (case k5 => k_asm); (case kK => first | exact rfl | assumption); (case kd => ktr_room); (case ku => ktr_units); intro cv cled h' tk' hR F' N'; revert N'; (apply RVal.elim hR <;> (clear hR; intros)); (all_goals (try (exfalso; exact val_no (by assumption) (by assumption)))); (all_goals (try dsimp only)); (all_goals (try k_fold))))
  k_with "exec For" => (k_here; (rename Fr _ _ _ _ => lF'); (with_unfolding_all refine' For_invVF lF' ?k1 ?k2 ?_; (case k1 => exact rfl); (case k2 => exact rfl); k_whole))
  k_with "pyIter bytes" => refine Stop.mk ?_
  k_with "eval BoolOp" => refine Stop.mk ?_
  (unfold Ctr; k_fill; intros; rename_i hret; refine wpAny_call ?_; k_dflt cell_enter)
  k_steps
  refine Stop.out ?_
  rename Fr _ _ _ _ => lF'
  rename News _ _ _ _ => lN'
  refine' KStb.kst_bytes (σ := List Value × List Int × Nat × Int × Tok × Int × Tok) (fun c => (_, listOf c.1.toArray c.2.2.1) :: news) (fun c => [(Str.ofString "rest", .int c.2.2.2.1 c.2.2.2.2.1), (Str.ofString "many", .int c.2.2.2.2.2.1 c.2.2.2.2.2.2)]) (fun c => IntsAre c.1 c.2.1) []
    (fun pre c => RuOk pre c.2.1 c.2.2.2.1 c.2.2.2.2.2.1) ([], [], 0, 0, _, 0, _) (by kba_ints2) rfl (by rfl) lF' (News.tail lN') ?kf ?kk ?kp ?turn ?done
  case kf => exact .nil
  case kk => kst_all
  case kp => exact ru_0
  case turn =>
    rintro ⟨xs, us, n, rest, tr, many, tm⟩ pre post k tk0 uu h9 tk9 own hEq hlt hk0 hk1 hOff hIs hOk F9 N9
    clear lF' lN'
    dsimp only at hIs hOk F9 N9 ⊢
    simp only [List.cons_append] at N9
    simp only [kstB, List.contains_nil, Bool.false_eq_true, if_false] at F9
    simp only [List.map_cons] at hOff
    obtain ⟨hr0, hr1, hm0, hm1, hul⟩ := hOk.facts
    have kMark := kstMark
    (k_with "state" => (first | exact ru_turn1 (by assumption) (by assumption) (by assumption) | exact ru_turn2 (by assumption) (by assumption) (by assumption)))
    have hvk : valid k = true := hval k (by rw [show slc ks a e = pre ++ k :: post from hEq]; simp)
    have hpl : pre.length < 1000 := by
      have := congrArg List.length hEq
      simp only [List.length_append, List.length_cons, List.length_take, List.length_drop] at this
      omega
    k_steps
  case done =>
    rintro ⟨xs, us, n, rest, tr, many, tm⟩ uu h9 tk9 hEq hIs hOk F9 N9
    clear lF' lN'
    dsimp only at hIs hOk F9 N9 ⊢
    simp only [kstB, List.contains_nil, Bool.false_eq_true, if_false] at F9
    obtain ⟨hr0, hr1, hm0, hm1, hul⟩ := hOk.facts
    have hf : ruFold (slc ks a e) = (us, rest, many) := hOk.1.symm
    rw [hf] at hret
    dsimp only at hret
    k_steps
    with_reducible refine Stop.out ?_
    (with_reducible rename Fr _ _ _ _ => lF')
    (with_reducible rename News _ _ _ _ => lN')
    refine evalJ (.bool (decide (many < 6) && decide (rest = 0))) lF' lN' ?jc ?_
    case jc =>
      with_reducible refine BoolOp_and ?_
      k_steps
      · with_reducible refine Stop.out ?_
        with_reducible refine BoolOp_one ?_
        k_steps
        exact JV.mk (congrArg Value.bool (bool_2 (by with_reducible assumption))) (by k_asm) (by k_asm)
      · exact JV.mk (congrArg Value.bool (bool_1 (by with_reducible assumption))) (by k_asm) (by k_asm)
    clear lF' lN'
    intro h5 tk5 F5 N5
    k_steps
    (refine' hret _ _ _ _ (RPair.mk ?hi ?hl ?hd ?hb) ?F ?N; (case F => k_asm); (case N => k_asm); (case hi => assumption); (case hl => first | assumption | exact allLt_of (by assumption)); (case hd => assumption); (case hb => rfl))
end

end
section
noncomputable def decU : List Int → Option (List Int)
  | [] => some []
  | u :: r =>
    if pyHigh u = true then
      match r with
      | [] => none
      | v :: r' => if pyLow v = true then (decU r').map ((65536 + (u - 55296) * 1024 + v - 56320) :: ·) else none
    else if pyLow u = true then none
    else if pyDirect u = true ∨ u = 38 then none
    else (decU r).map (u :: ·)
noncomputable def RdInv (us : List Int) (i : Int) (cv fv : List Value) : Prop :=
  0 ≤ i ∧ i ≤ us.length ∧ (cv.length : Int) ≤ i ∧ (fv.length : Int) ≤ i ∧
  ((fv = [] ∧ ∃ cs, IntsAre cv cs ∧ decU us = (decU (us.drop i.toNat)).map (cs ++ ·)) ∨ (fv ≠ [] ∧ decU us = none))
theorem rd_0 (us : List Int) : RdInv us 0 [] [] := ⟨by decide, by omega, by decide, by decide, .inl ⟨rfl, [], .nil, by simp⟩⟩
theorem IntsAre.snoc_ {vs : List Value} {ns : List Int} (h : IntsAre vs ns) (x : Int) (t : Tok) : IntsAre (vs ++ [.int x t]) (ns ++ [x]) := IntsAre.append h (IntsAre.cons x t IntsAre.nil)
theorem rd_at {us : List Int} {i : Int} (h0 : 0 ≤ i) (h1 : i < us.length) : us.drop i.toNat = us.getD i.toNat 0 :: us.drop (i + 1).toNat := by
  have e : (i + 1).toNat = i.toNat + 1 := by omega
  rw [e]; exact drop_getD (by omega)
theorem rd_pair {us : List Int} {i : Int} {cv fv : List Value} {t : Tok} (h : RdInv us i cv fv) (hi : i < us.length) (a1 : pyHigh (us.getD i.toNat 0) = true) (hn : i + 1 < us.length) (a2 : pyLow (us.getD (i + 1).toNat 0) = true) :
    RdInv us (i + 2) (cv ++ [.int (65536 + (us.getD i.toNat 0 - 55296) * 2 ^ Int.toNat 10 + us.getD (i + 1).toNat 0 - 56320) t]) fv := by
  obtain ⟨h0, h1, h2, h3, h4⟩ := h
  refine ⟨by omega, by omega, by simp only [List.length_append, List.length_singleton]; omega, by omega, ?_⟩
  rcases h4 with ⟨hf, cs, hc, hd⟩ | h4
  · refine .inl ⟨hf, cs ++ [_], IntsAre.snoc_ hc _ _, ?_⟩
    rw [hd, rd_at h0 hi, rd_at (i := i + 1) (by omega) hn, decU, if_pos a1, if_pos a2, show i + 1 + 1 = i + 2 by omega, show ((2 : Int) ^ Int.toNat 10) = 1024 from by decide]
    cases decU (us.drop (i + 2).toNat) <;> simp
  · exact .inr h4
theorem rd_bad {us : List Int} {i : Int} {cv fv : List Value} {c v : Value} (h : RdInv us i cv fv) (hi : i < us.length) (hb : decU (us.drop i.toNat) = none) : RdInv us (i + 1) (cv ++ [c]) (fv ++ [v]) := by
  obtain ⟨h0, h1, h2, h3, h4⟩ := h
  refine ⟨by omega, by omega, by simp only [List.length_append, List.length_singleton]; omega, by simp only [List.length_append, List.length_singleton]; omega, .inr ⟨by simp, ?_⟩⟩
  rcases h4 with ⟨hf, cs, hc, hd⟩ | h4
  · rw [hd, hb]; rfl
  · exact h4.2
theorem rd_lone1 {us : List Int} {i : Int} {cv fv : List Value} {c v : Value} (h : RdInv us i cv fv) (hi : i < us.length) (a1 : pyHigh (us.getD i.toNat 0) = true) (hn : ¬ i + 1 < us.length) : RdInv us (i + 1) (cv ++ [c]) (fv ++ [v]) := by
  refine rd_bad h hi ?_
  have h0 := h.1
  rw [rd_at h0 hi, List.drop_of_length_le (by omega), decU, if_pos a1]
theorem rd_lone2 {us : List Int} {i : Int} {cv fv : List Value} {c v : Value} (h : RdInv us i cv fv) (hi : i < us.length) (a1 : pyHigh (us.getD i.toNat 0) = true) (hn : i + 1 < us.length) (a2 : pyLow (us.getD (i + 1).toNat 0) = false) : RdInv us (i + 1) (cv ++ [c]) (fv ++ [v]) := by
  refine rd_bad h hi ?_
  have h0 := h.1
  rw [rd_at h0 hi, rd_at (i := i + 1) (by omega) hn, decU, if_pos a1, if_neg (by rw [a2]; decide)]
theorem rd_lone3 {us : List Int} {i : Int} {cv fv : List Value} {c v : Value} (h : RdInv us i cv fv) (hi : i < us.length) (a1 : pyHigh (us.getD i.toNat 0) = false) (a2 : pyLow (us.getD i.toNat 0) = true) : RdInv us (i + 1) (cv ++ [c]) (fv ++ [v]) := by
  refine rd_bad h hi ?_
  have h0 := h.1
  rw [rd_at h0 hi]
  cases us.drop (i + 1).toNat <;> (rw [decU, if_neg (by rw [a1]; decide), if_pos a2])
theorem rd_need1 {us : List Int} {i : Int} {cv fv : List Value} {c v : Value} (h : RdInv us i cv fv) (hi : i < us.length) (a1 : pyHigh (us.getD i.toNat 0) = false) (a2 : pyLow (us.getD i.toNat 0) = false) (a3 : pyDirect (us.getD i.toNat 0) = true) : RdInv us (i + 1) (cv ++ [c]) (fv ++ [v]) := by
  refine rd_bad h hi ?_
  have h0 := h.1
  rw [rd_at h0 hi]
  cases us.drop (i + 1).toNat <;> (rw [decU, if_neg (by rw [a1]; decide), if_neg (by rw [a2]; decide), if_pos (.inl a3)])
theorem rd_need2 {us : List Int} {i : Int} {cv fv : List Value} {c v : Value} (h : RdInv us i cv fv) (hi : i < us.length) (a1 : pyHigh (us.getD i.toNat 0) = false) (a2 : pyLow (us.getD i.toNat 0) = false) (a3 : us.getD i.toNat 0 = 38) : RdInv us (i + 1) (cv ++ [c]) (fv ++ [v]) := by
  refine rd_bad h hi ?_
  have h0 := h.1
  rw [rd_at h0 hi]
  cases us.drop (i + 1).toNat <;> (rw [decU, if_neg (by rw [a1]; decide), if_neg (by rw [a2]; decide), if_pos (.inr a3)])
theorem rd_plain {us : List Int} {i : Int} {cv fv : List Value} {t : Tok} (h : RdInv us i cv fv) (hi : i < us.length) (a1 : pyHigh (us.getD i.toNat 0) = false) (a2 : pyLow (us.getD i.toNat 0) = false) (a3 : pyDirect (us.getD i.toNat 0) = false) (a4 : us.getD i.toNat 0 ≠ 38) :
    RdInv us (i + 1) (cv ++ [.int (us.getD i.toNat 0) t]) fv := by
  obtain ⟨h0, h1, h2, h3, h4⟩ := h
  refine ⟨by omega, by omega, by simp only [List.length_append, List.length_singleton]; omega, by omega, ?_⟩
  rcases h4 with ⟨hf, cs, hc, hd⟩ | h4
  · refine .inl ⟨hf, cs ++ [_], IntsAre.snoc_ hc _ _, ?_⟩
    rw [hd, rd_at h0 hi]
    have e : decU (us.getD i.toNat 0 :: us.drop (i + 1).toNat) = (decU (us.drop (i + 1).toNat)).map (us.getD i.toNat 0 :: ·) := by
      rw [decU.eq_def]
      simp only [a1, a2, a3, Bool.false_eq_true, if_false, false_or, if_neg a4]
    rw [e]
    cases decU (us.drop (i + 1).toNat) <;> simp
  · exact .inr h4
theorem rd_end {us : List Int} {i : Int} {cv fv : List Value} (h : RdInv us i cv fv) (hi : ¬ i < us.length) : (fv = [] ∧ ∃ cs, IntsAre cv cs ∧ decU us = some cs) ∨ (fv ≠ [] ∧ decU us = none) := by
  obtain ⟨h0, h1, h2, h3, h4⟩ := h
  rcases h4 with ⟨hf, cs, hc, hd⟩ | h4
  · refine .inl ⟨hf, cs, hc, ?_⟩
    rw [hd, List.drop_of_length_le (by omega), decU]; simp
  · exact .inr h4
theorem ruStep_len (st : List Int × Int × Int) (v : Int) : (ruStep st v).1.length ≤ st.1.length + 1 := by
  unfold ruStep; split <;> simp
theorem ruFold_len (os : List Int) : (ruFold os).1.length ≤ os.length := by
  have : ∀ (l : List Int) (st : List Int × Int × Int), (l.foldl ruStep st).1.length ≤ st.1.length + l.length := by
    intro l
    induction l with
    | nil => intro st; simp
    | cons x r ih => intro st; have h1 := ih (ruStep st x); have h2 := ruStep_len st x; simp only [List.foldl_cons, List.length_cons]; omega
  have h := this (vals os) ([], 0, 0)
  simpa [ruFold, vals] using h
theorem slc_len (ks : List Int) (a e : Int) : (slc ks a e).length ≤ ks.length := by
  exact ((List.take_sublist _ _).trans (List.drop_sublist _ _)).length_le
theorem ruStep_in {st : List Int × Int × Int} {v : Int} (hv : 0 ≤ v ∧ v < 64) (h : 0 ≤ st.2.1 ∧ 0 ≤ st.2.2 ∧ st.2.2 < 16 ∧ st.2.1 < 2 ^ st.2.2.toNat ∧ ∀ x ∈ st.1, 0 ≤ x ∧ x < 65536) :
    0 ≤ (ruStep st v).2.1 ∧ 0 ≤ (ruStep st v).2.2 ∧ (ruStep st v).2.2 < 16 ∧ (ruStep st v).2.1 < 2 ^ (ruStep st v).2.2.toNat ∧ ∀ x ∈ (ruStep st v).1, 0 ≤ x ∧ x < 65536 := by
  obtain ⟨us, rest, many⟩ := st
  obtain ⟨h1, h2, h3, h4, h5⟩ := h
  dsimp only at h1 h2 h3 h4 h5
  have hp : rest + 1 ≤ 2 ^ many.toNat := h4
  have hmul := Int.mul_le_mul_of_nonneg_right hp (by decide : (0 : Int) ≤ 64)
  by_cases hc : 16 ≤ many + 6
  · have e : ruStep (us, rest, many) v = (us ++ [(rest * 64 + v) / 2 ^ (many + 6 - 16).toNat], (rest * 64 + v) % 2 ^ (many + 6 - 16).toNat, many + 6 - 16) := by rw [ruStep, if_pos hc]
    rw [e]
    dsimp only
    refine ⟨Int.emod_nonneg _ (Int.ne_of_gt (kbt_pos _)), by omega, by omega, Int.emod_lt_of_pos _ (kbt_pos _), ?_⟩
    intro x hx
    rcases List.mem_append.mp hx with hx | hx
    · exact h5 x hx
    · rw [List.mem_singleton.mp hx]
      refine ⟨Int.ediv_nonneg (by omega) (Int.le_of_lt (kbt_pos _)), ?_⟩
      rw [Int.ediv_lt_iff_lt_mul (kbt_pos _)]
      have e : (2 : Int) ^ many.toNat * 64 = 65536 * 2 ^ (many + 6 - 16).toNat := by
        have : many.toNat = (many + 6 - 16).toNat + 10 := by omega
        rw [this, Int.pow_add, show ((2 : Int) ^ 10) = 1024 from by decide, Int.mul_assoc, Int.mul_comm]; rfl
      rw [← e]; omega
  · have e : ruStep (us, rest, many) v = (us, rest * 64 + v, many + 6) := by rw [ruStep, if_neg hc]
    rw [e]
    dsimp only
    refine ⟨by omega, by omega, by omega, ?_, h5⟩
    have e : (many + 6).toNat = many.toNat + 6 := by omega
    rw [e, Int.pow_add, show ((2 : Int) ^ 6) = 64 from by decide]; omega
theorem ruFold_inv (os : List Int) (hv : ∀ o ∈ os, valid o = true) : 0 ≤ (ruFold os).2.1 ∧ 0 ≤ (ruFold os).2.2 ∧ (ruFold os).2.2 < 16 ∧ (ruFold os).2.1 < 2 ^ (ruFold os).2.2.toNat ∧ ∀ x ∈ (ruFold os).1, 0 ≤ x ∧ x < 65536 := by
  have : ∀ (l : List Int), (∀ v ∈ l, 0 ≤ v ∧ v < 64) → ∀ st : List Int × Int × Int, (0 ≤ st.2.1 ∧ 0 ≤ st.2.2 ∧ st.2.2 < 16 ∧ st.2.1 < 2 ^ st.2.2.toNat ∧ ∀ x ∈ st.1, 0 ≤ x ∧ x < 65536) →
      0 ≤ (l.foldl ruStep st).2.1 ∧ 0 ≤ (l.foldl ruStep st).2.2 ∧ (l.foldl ruStep st).2.2 < 16 ∧ (l.foldl ruStep st).2.1 < 2 ^ (l.foldl ruStep st).2.2.toNat ∧ ∀ x ∈ (l.foldl ruStep st).1, 0 ≤ x ∧ x < 65536 := by
    intro l
    induction l with
    | nil => intro _ st h; exact h
    | cons x r ih => intro hl st h; exact ih (fun v hv => hl v (List.mem_cons_of_mem _ hv)) _ (ruStep_in (hl x List.mem_cons_self) h)
  refine this (vals os) (fun v hv' => ?_) ([], 0, 0) ⟨by decide, by decide, by decide, by decide, fun x hx => nomatch hx⟩
  obtain ⟨o, ho, rfl⟩ := List.mem_map.mp hv'
  have := hv o ho
  unfold valid at this
  obtain ⟨y, hy⟩ := Option.isSome_iff_exists.mp this
  rw [hy]; exact pyValue_in hy
theorem getD_of_in {us : List Int} (h : ∀ x ∈ us, 0 ≤ x ∧ x < 65536) (j : Nat) : 0 ≤ us.getD j 0 ∧ us.getD j 0 < 65536 := by
  by_cases hj : j < us.length
  · rw [List.getD_eq_getElem?_getD, List.getElem?_eq_getElem hj]; exact h _ (List.getElem_mem hj)
  · rw [List.getD_eq_getElem?_getD, List.getElem?_eq_none (by omega)]; decide
noncomputable def rdU (us : List Int) (ev : Bool) : Option (List Int) := if ev = true then decU us else none
noncomputable def ROut (cv fv : List Value) (r : Option (List Int)) : Prop := cv.length ≤ 1001 ∧ fv.length ≤ 1001 ∧ ((fv = [] ∧ ∃ cs, IntsAre cv cs ∧ r = some cs) ∨ (fv ≠ [] ∧ r = none))
noncomputable def RRead (news : List (Addr × Obj)) (r : Option (List Int)) (v : Value) (led : List (Addr × Obj)) : Prop :=
  ∃ d lc lf cv nc fv nf, .ref d = v ∧ ROut cv fv r ∧ (d, ({ cls := .type "tuple", data := .seq #[.ref lc, .ref lf] } : Obj)) :: (lf, listOf fv.toArray nf) :: (lc, listOf cv.toArray nc) :: news = led ∧ AllLt lc news ∧ AllLt lf ((lc, listOf cv.toArray nc) :: news) ∧ AllLt d ((lf, listOf fv.toArray nf) :: (lc, listOf cv.toArray nc) :: news)
theorem RRead.elim {news led : List (Addr × Obj)} {r : Option (List Int)} {v : Value} (h : RRead news r v led) {M : Value → List (Addr × Obj) → Prop} (k : ∀ d lc lf cv nc fv nf, ROut cv fv r → AllLt lc news → AllLt lf ((lc, listOf cv.toArray nc) :: news) → AllLt d ((lf, listOf fv.toArray nf) :: (lc, listOf cv.toArray nc) :: news) →
    M (.ref d) ((d, ({ cls := .type "tuple", data := .seq #[.ref lc, .ref lf] } : Obj)) :: (lf, listOf fv.toArray nf) :: (lc, listOf cv.toArray nc) :: news)) : M v led := by
  obtain ⟨d, lc, lf, cv, nc, fv, nf, rfl, ho, rfl, h1, h2, h3⟩ := h
  exact k d lc lf cv nc fv nf ho h1 h2 h3
theorem RRead.mk {news : List (Addr × Obj)} {r : Option (List Int)} {d lc lf : Addr} {cv fv : List Value} {nc nf : Nat} (ho : ROut cv fv r) (h1 : AllLt lc news) (h2 : lc < lf) (h3 : AllLt lf news) (h4 : lf < d) (h5 : lc < d) (h6 : AllLt d news) :
    RRead news r (.ref d) ((d, ({ cls := .type "tuple", data := .seq #[.ref lc, .ref lf] } : Obj)) :: (lf, listOf fv.toArray nf) :: (lc, listOf cv.toArray nc) :: news) := ⟨d, lc, lf, cv, nc, fv, nf, rfl, ho, rfl, h1, ⟨h2, h3⟩, ⟨h4, h5, h6⟩⟩
theorem rout_even {us : List Int} {i : Int} {cv fv : List Value} {ev : Bool} (h : RdInv us i cv fv) (hl : us.length ≤ 1000) (hi : ¬ i < us.length) (he : ev = true) : ROut cv fv (rdU us ev) := by
  have e := rd_end h hi
  obtain ⟨h0, h1, h2, h3, _⟩ := h
  refine ⟨by omega, by omega, ?_⟩
  rw [rdU, if_pos he]; exact e
theorem rout_odd {us : List Int} {i : Int} {cv fv : List Value} {c v : Value} {ev : Bool} (h : RdInv us i cv fv) (hl : us.length ≤ 1000) (hi : ¬ i < us.length) (he : ev = false) : ROut (cv ++ [c]) (fv ++ [v]) (rdU us ev) := by
  obtain ⟨h0, h1, h2, h3, _⟩ := h
  refine ⟨by simp only [List.length_append, List.length_singleton]; omega, by simp only [List.length_append, List.length_singleton]; omega, .inr ⟨by simp, ?_⟩⟩
  rw [rdU, if_neg (by rw [he]; decide)]
theorem j1 {x y z : Bool} (a : x = false) : false = (x && (y && z)) := by subst a; rfl
theorem j2 {x z : Bool} {p : Prop} [Decidable p] (a : x = true) (b : ¬ p) : false = (x && (decide p && z)) := by subst a; rw [decide_eq_false b]; rfl
theorem j3 {x z : Bool} {p : Prop} [Decidable p] (a : x = true) (b : p) (c : z = false) : false = (x && (decide p && z)) := by subst a c; rw [decide_eq_true b]; rfl
theorem j4 {x z : Bool} {p : Prop} [Decidable p] (a : x = true) (b : p) (c : z = true) : true = (x && (decide p && z)) := by subst a c; rw [decide_eq_true b]; rfl
theorem o1 {x y : Bool} (a : x = true) : true = (x || y) := by subst a; rfl
theorem o2 {x y : Bool} (a : x = false) (b : y = true) : true = (x || y) := by subst a b; rfl
theorem o3 {x y : Bool} (a : x = false) (b : y = false) : false = (x || y) := by subst a b; rfl
theorem o4 {x : Bool} {p : Prop} [Decidable p] (a : x = false) (b : p) : true = (x || decide p) := by subst a; rw [decide_eq_true b]; rfl
theorem o5 {x : Bool} {p : Prop} [Decidable p] (a : x = false) (b : ¬ p) : false = (x || decide p) := by subst a; rw [decide_eq_false b]; rfl
theorem rd_lone {us : List Int} {i : Int} {cv fv : List Value} {c v : Value} (h : RdInv us i cv fv) (hi : i < us.length) (h1 : (pyHigh (us.getD i.toNat 0) && (decide (i + 1 < us.length) && pyLow (us.getD (i + 1).toNat 0))) = false)
    (h2 : (pyHigh (us.getD i.toNat 0) || pyLow (us.getD i.toNat 0)) = true) : RdInv us (i + 1) (cv ++ [c]) (fv ++ [v]) := by
  cases a1 : pyHigh (us.getD i.toNat 0) with
  | true =>
    rw [a1, Bool.true_and] at h1
    by_cases hn : i + 1 < us.length
    · rw [decide_eq_true hn, Bool.true_and] at h1
      exact rd_lone2 h hi a1 hn h1
    · exact rd_lone1 h hi a1 hn
  | false =>
    rw [a1, Bool.false_or] at h2
    exact rd_lone3 h hi a1 h2
theorem rd_need {us : List Int} {i : Int} {cv fv : List Value} {c v : Value} (h : RdInv us i cv fv) (hi : i < us.length) (h2 : (pyHigh (us.getD i.toNat 0) || pyLow (us.getD i.toNat 0)) = false)
    (h3 : (pyDirect (us.getD i.toNat 0) || decide (us.getD i.toNat 0 = 38)) = true) : RdInv us (i + 1) (cv ++ [c]) (fv ++ [v]) := by
  obtain ⟨a1, a2⟩ := Bool.or_eq_false_iff.mp h2
  rcases Bool.or_eq_true_iff.mp h3 with a3 | a3
  · exact rd_need1 h hi a1 a2 a3
  · exact rd_need2 h hi a1 a2 (of_decide_eq_true a3)
theorem rd_flat {us : List Int} {i : Int} {cv fv : List Value} {t : Tok} (h : RdInv us i cv fv) (hi : i < us.length) (h2 : (pyHigh (us.getD i.toNat 0) || pyLow (us.getD i.toNat 0)) = false)
    (h3 : (pyDirect (us.getD i.toNat 0) || decide (us.getD i.toNat 0 = 38)) = false) : RdInv us (i + 1) (cv ++ [.int (us.getD i.toNat 0) t]) fv := by
  obtain ⟨a1, a2⟩ := Bool.or_eq_false_iff.mp h2
  obtain ⟨a3, a4⟩ := Bool.or_eq_false_iff.mp h3
  exact rd_plain h hi a1 a2 a3 (of_decide_eq_false a4)
theorem rd_two {us : List Int} {i : Int} {cv fv : List Value} {t : Tok} (h : RdInv us i cv fv) (hi : i < us.length) (h1 : (pyHigh (us.getD i.toNat 0) && (decide (i + 1 < us.length) && pyLow (us.getD (i + 1).toNat 0))) = true) :
    RdInv us (i + 2) (cv ++ [.int (65536 + (us.getD i.toNat 0 - 55296) * 2 ^ (10 : Int).toNat + us.getD (i + 1).toNat 0 - 56320) t]) fv := by
  obtain ⟨a1, h1⟩ := Bool.and_eq_true_iff.mp h1
  obtain ⟨a2, a3⟩ := Bool.and_eq_true_iff.mp h1
  exact rd_pair h hi a1 (of_decide_eq_true a2) a3
section
theorem run_read_ctr (w : World) (news : List (Addr × Obj)) (b : Array UInt8) (ks : List Int) (a e : Int) (t u ue : Tok) (hb : KBw.bInts b = ks) (hlen : ks.length ≤ 1000) (hval : ∀ o ∈ slc ks a e, valid o = true) :
    Ctr w 157 [.bytes b t, .int a u, .int e ue, .bool true] news 3 24 (RRead news (rdU (ruFold (slc ks a e)).1 (decide ((ruFold (slc ks a e)).2.2 < 6) && decide ((ruFold (slc ks a e)).2.1 = 0)))) := by
  k_with_none
  k_with "execs cons" => first | (k_here; k_gentoks) | ((with_reducible refine wpAny_execs_cons ?_); (try dsimp only); (try k_fold))
  k_with "exec If" => refine Stop.mk ?_
  k_with "eval Call" => ((with_reducible show wpAny _ _ (eval (Expr.Call (Expr.Name _ _) _ [] _) _) _ _ _); refine Call_ ?_)
  k_with "call ref" => (k_here; first | (refine' Ctr.use (high_ctr _ _ _ _) ?k1 ?k2 ?k3 ?k4 ?k5 ?kK ?kd ?ku ?_; (case k1 => k_asm); (case k2 => k_asm); (case k3 => k_asm); (case k4 => k_asm); (case k5 => k_asm); (case kK => first | exact rfl | assumption); (case kd => ktr_room); (case ku => ktr_units); intro cv cled h' tk' hR F' N'; revert N'; apply RBool.elim hR; clear hR; intro N'; (try dsimp only); (try k_fold)) | (refine' Ctr.use (low_ctr _ _ _ _) ?k1 ?k2 ?k3 ?k4 ?k5 ?kK ?kd ?ku ?_; (case k1 => k_asm); (case k2 => k_asm); (case k3 => k_asm); (case k4 => k_asm); (case k5 => k_asm); (case kK => first | exact rfl | assumption); (case kd => ktr_room); (case ku => ktr_units); intro cv cled h' tk' hR F' N'; revert N'; apply RBool.elim hR; clear hR; intro N'; (try dsimp only); (try k_fold)) | (refine' Ctr.use (direct_ctr _ _ _ _) ?k1 ?k2 ?k3 ?k4 ?k5 ?kK ?kd ?ku ?_; (case k1 => k_asm); (case k2 => k_asm); (case k3 => k_asm); (case k4 => k_asm); (case k5 => k_asm); (case kK => first | exact rfl | assumption); (case kd => ktr_room); (case ku => ktr_units); intro cv cled h' tk' hR F' N'; revert N'; apply RBool.elim hR; clear hR; intro N'; (try dsimp only); (try k_fold)) | (refine' Ctr.use (run_units_ctr _ _ _ _ _ _ _ _ _ (by assumption) (by assumption) (by assumption)) ?k1 ?k2 ?k3 ?k4 ?k5 ?kK ?kd ?ku ?_; (case k1 => k_asm); (case k2 => k_asm); (case k3 => k_asm); (case k4 => k_asm); (case k5 => k_asm); (case kK => first | exact rfl | assumption); (case kd => ktr_room); (case ku => ktr_units); intro cv cled h' tk' hR F' N'; revert N'; apply RPair.elim hR; clear hR; intro d9 l9 vs9 n9 hIs9 hA1 hA2 hA3 N'; (try simp only [AllLt, and_true] at hA1 hA3); (try dsimp only); (try k_fold)))
  k_with "exec While" => refine Stop.mk ?_
  k_with "exec While Compare" => refine Stop.mk ?_
  k_with "exec While Compare cons nil" => refine Stop.mk ?_
  (unfold Ctr; k_fill; intros; rename_i hret; refine wpAny_call ?_; k_dflt cell_enter)
  k_steps
  with_reducible refine Stop.out ?_
  rename Fr _ _ _ _ => lF'
  rename News _ _ _ _ => lN'
  rename_i lc hh1 l1c lf hh2 l1f D0 hh3 l1d hh4 hh5 hh6 hh7
  generalize hev : (decide ((ruFold (slc ks a e)).2.2 < 6) && decide ((ruFold (slc ks a e)).2.1 = 0)) = ev at *
  generalize hus : (ruFold (slc ks a e)).1 = us at *
  have hul : us.length ≤ 1000 := by rw [← hus]; exact Nat.le_trans (ruFold_len _) (Nat.le_trans (slc_len _ _ _) hlen)
  have usIn : ∀ j, 0 ≤ us.getD j 0 ∧ us.getD j 0 < 65536 := fun j => getD_of_in (by rw [← hus]; exact (ruFold_inv _ hval).2.2.2.2) j
  refine' ksw_while (σ := Int × Tok × List Value × Nat × List Value × Nat) (fun c => (lf, listOf c.2.2.2.2.1.toArray c.2.2.2.2.2) :: (lc, listOf c.2.2.1.toArray c.2.2.2.1) :: (_, _) :: (_, listOf _ _) :: news) (fun c => [(Str.ofString "at", .int c.1 c.2.1)]) (fun c => True) [Str.ofString "unit", Str.ofString "place"]
    (fun c => RdInv us c.1 c.2.2.1 c.2.2.2.2.1) (fun c => (us.length - c.1).toNat) (0, _, [], 0, [], 0) lF' (News.tail lN') trivial ?kk ?kp ?turn
  case kk => kst_all
  case kp => exact rd_0 us
  rintro ⟨i, ti, cv, nc, fv, nf⟩ uu h9 tk9 - hOk F9 N9
  clear lF' lN'
  dsimp only at hOk F9 N9 ⊢
  simp only [kstB] at F9
  have hi0 : 0 ≤ i := hOk.1
  have hi1 : i ≤ us.length := hOk.2.1
  have hcl : (cv.length : Int) ≤ i := hOk.2.2.1
  have hfl : (fv.length : Int) ≤ i := hOk.2.2.2.1
  have kMark := kstMark
  have hu0 := (usIn i.toNat).1
  have hu1 := (usIn i.toNat).2
  (k_with "state" => (first | exact rd_two (by with_reducible assumption) (by with_reducible assumption) (by with_reducible assumption) | exact rd_lone (by with_reducible assumption) (by with_reducible assumption) (by with_reducible assumption) (by with_reducible assumption) | exact rd_need (by with_reducible assumption) (by with_reducible assumption) (by with_reducible assumption) (by with_reducible assumption) | exact rd_flat (by with_reducible assumption) (by with_reducible assumption) (by with_reducible assumption) (by with_reducible assumption)))
  k_steps
  · with_reducible refine Stop.out ?_
    (with_reducible rename Fr _ _ _ _ => lF')
    (with_reducible rename News _ _ _ _ => lN')
    refine IfJ (pyHigh (us.getD i.toNat 0) && (decide (i + 1 < us.length) && pyLow (us.getD (i + 1).toNat 0))) lF' lN' ?t1 ?y1 ?n1
    case t1 =>
      k_steps
      all_goals exact JB.mk (by first | exact j1 (by with_reducible assumption) | exact j2 (by with_reducible assumption) (by with_reducible assumption) | exact j3 (by with_reducible assumption) (by with_reducible assumption) (by with_reducible assumption) | exact j4 (by with_reducible assumption) (by with_reducible assumption) (by with_reducible assumption)) (by k_asm) (by k_asm)
    case y1 =>
      intro hc1 h8 tk8 F8 N8
      clear lF' lN'
      k_steps
    case n1 =>
      intro hc1 h8 tk8 F8 N8
      clear lF' lN'
      k_steps
      with_reducible refine Stop.out ?_
      (with_reducible rename Fr _ _ _ _ => lF')
      (with_reducible rename News _ _ _ _ => lN')
      refine IfJ (pyHigh (us.getD i.toNat 0) || pyLow (us.getD i.toNat 0)) lF' lN' ?t2 ?y2 ?n2
      case t2 =>
        k_steps
        all_goals exact JB.mk (by first | exact o1 (by with_reducible assumption) | exact o2 (by with_reducible assumption) (by with_reducible assumption) | exact o3 (by with_reducible assumption) (by with_reducible assumption)) (by k_asm) (by k_asm)
      case y2 =>
        intro hc2 h7 tk7 F7 N7
        clear lF' lN'
        k_steps
      case n2 =>
        intro hc2 h7 tk7 F7 N7
        clear lF' lN'
        k_steps
        with_reducible refine Stop.out ?_
        (with_reducible rename Fr _ _ _ _ => lF')
        (with_reducible rename News _ _ _ _ => lN')
        refine IfJ (pyDirect (us.getD i.toNat 0) || decide (us.getD i.toNat 0 = 38)) lF' lN' ?t3 ?y3 ?n3
        case t3 =>
          k_steps
          all_goals exact JB.mk (by first | exact o1 (by with_reducible assumption) | exact o4 (by with_reducible assumption) (by with_reducible assumption) | exact o5 (by with_reducible assumption) (by with_reducible assumption)) (by k_asm) (by k_asm)
        case y3 =>
          intro hc3 h6 tk6 F6 N6
          clear lF' lN'
          k_steps
        case n3 =>
          intro hc3 h6 tk6 F6 N6
          clear lF' lN'
          k_steps
  · with_reducible refine Stop.out ?_
    with_reducible refine wpAny_If ?_
    k_steps
    · rename lf < _ ∧ lc < _ ∧ _ ∧ _ ∧ AllLt _ _ => hz
      exact hret _ _ _ _ (RRead.mk (rout_even hOk hul (by assumption) (by assumption)) l1c.2.2 l1f.1 l1f.2.2.2 hz.1 hz.2.1 hz.2.2.2.2) (by k_asm) (cb_drop (by assumption) (by kcj_all))
    · rename _ < _ ∧ lf < _ ∧ lc < _ ∧ _ ∧ _ ∧ AllLt _ _ => hz
      rename News _ _ _ _ => nE
      simp only [List.push_toArray] at nE
      exact hret _ _ _ _ (RRead.mk (rout_odd hOk hul (by assumption) (by assumption)) l1c.2.2 l1f.1 l1f.2.2.2 hz.2.1 hz.2.2.1 hz.2.2.2.2.2) (by k_asm) (cb_drop nE (by kcj_all))
end

end
section
/-- The exception e, of class cls, its own dict dd, bears a traceback of its own (T), fl what T says of the flight. -/
noncomputable def TrD (h base : Heap) (e : Addr) (cls : Value) (dd : Option Addr) (fl : Value) : Prop :=
  ∃ (oe : Obj) (vs : Array Value) (T : Addr) (oT : Obj) (ts : Array Value), h.get? e = some oe ∧ (oe.cls = cls ∧ oe.dict = dd) ∧ oe.data = .fields vs ∧ vs[1]? = some (.ref T) ∧ base.get? T = none ∧ T ≠ e ∧ h.get? T = some oT ∧ oT.data = .fields ts ∧ ts[3]? = some fl
noncomputable def FlyD (base : Heap) (l : List Env) (e : Addr) (cls : Value) (dd : Option Addr) (fl : Value) (h : Heap) : Prop :=
  base.StaysIn h ∧ base.get? e = none ∧ h.FunFrames base l ∧ TrD h base e cls dd fl
section
variable {M : Model} {A : Around} {E : Value → Shared → Prop} {s : Shared} {base : Heap} {env : Env} {outer l : List Env} {L e : Addr} {cls fl : Value} {dd : Option Addr} {Q : Unit → Shared → Prop}

theorem dict_mapFields (o : Obj) (f : Array Value → Array Value) : (o.mapFields f).dict = o.dict := by unfold Obj.mapFields; split <;> rfl

theorem entryD {oe : Obj} {vs : Array Value} {head : Value} {hadNext : Bool}
    (hfr : A.frames = some (env :: outer)) (hl : s.heap.FunFrames base (env :: outer)) (hf : env.frame = some L)
    (he : s.heap.get? e = some oe) (hkb : base.StaysIn s.heap) (hen : base.get? e = none) (hd : oe.data = .fields vs) (hsz : 1 < vs.size)
    (h : ∀ h', FlyD base (env :: outer) e oe.cls oe.dict (rawInt L) h' → s.heap.UpToSlots h' → Q () { s with heap := h' }) :
    wpAny M A (do let a ← frameOf env; let pl ← entryPlaceOf L hadNext; let b ← EntryCells.newEntry head a .none (rawInt L) .none pl; setField (.ref e) 1 b) Q E s := by
  have off : e ∉ (env :: outer).filterMap (·.frame) := by
    intro hm
    obtain ⟨_, o, ho, hnf⟩ := hl.mem hm
    rw [he] at ho
    cases ho
    exact hnf vs hd
  refine wpAny_bind (wpAny_frameOf_fun hfr hl hf fun h₁ hs₁ => wpAny_bind (wpAny_entryPlaceOf fun pl hpl => ?_))
  unfold EntryCells.newEntry newFields
  refine wpAny_bind (wpAny_newObj_type ?_ (hpl.sizeOk5 _ _ _ _ _))
  generalize hob : ({ cls := .type "traceback", dict := none, data := .fields ([head, .ref L, .none, rawInt L, .none] ++ (if pl.isEmpty then List.replicate 6 Value.none else pl)).toArray } : Obj) = ob
  have hobd : ob.data = .fields ([head, .ref L, .none, rawInt L, .none] ++ (if pl.isEmpty then List.replicate 6 Value.none else pl)).toArray := by rw [← hob]
  have hobf : ob.isFreed = false := by rw [← hob]; rfl
  have he₁ : h₁.get? e = some oe := (hs₁.2.1 e off).trans he
  have he₂ : (h₁.push ob).get? e = some oe := Heap.get?_push_of_some ob he₁
  have hlt : e < h₁.objs.size := Heap.lt_size he₁
  have kb₁ : base.StaysIn h₁ := fun b o q => (hs₁.2.1 b fun hm => by rw [(hl.mem hm).1] at q; cases q).trans (hkb b o q)
  refine wpAny_setField he₂ hd hsz (h _ ?_ ?_)
  · have hd₃ := Obj.data_mapFields hd (·.setIfInBounds 1 (Value.ref h₁.objs.size))
    have keep : ∀ b o, b ≠ e → h₁.get? b = some o → ((h₁.push ob).update e (Obj.mapFields (·.setIfInBounds 1 (Value.ref h₁.objs.size)))).get? b = some o := fun b o hb q =>
      (Heap.get?_update_other _ _ (Ne.symm hb)).trans (Heap.get?_push_of_some ob q)
    refine ⟨fun b o q => keep b o (fun z => by rw [z, hen] at q; cases q) (kb₁ b o q), hen, hl.of_keeps fun b o q hn => ?_, ?_⟩
    · obtain ⟨sl, hs⟩ := hs₁.2.2 b o q
      exact ⟨_, keep b _ (fun z => by rw [z, he] at q; cases q; exact hn vs hd) hs, rfl⟩
    · exact ⟨_, _, h₁.objs.size, ob, _, Heap.get?_update_self _ he₂ (Obj.isFreed_of_fields hd₃), ⟨Obj.cls_mapFields _ _, dict_mapFields _ _⟩, hd₃, by simp [hsz], kb₁.fresh, Nat.ne_of_gt hlt,
        (Heap.get?_update_other _ _ (Nat.ne_of_lt hlt)).trans (Heap.get?_push_size h₁ hobf), hobd, by simp⟩
  · intro b o q hn
    obtain ⟨sl, hs⟩ := hs₁.2.2 b o q
    exact ⟨sl, (Heap.get?_update_other _ _ (fun z => by rw [← z, he] at q; cases q; exact hn vs hd)).trans (Heap.get?_push_of_some ob hs)⟩

/-- the first frame that an exception without a traceback meets -/
theorem note_firstD {oe : Obj} {vs : Array Value}
    (hfr : A.frames = some (env :: outer)) (hl : s.heap.FunFrames base (env :: outer)) (hf : env.frame = some L)
    (he : s.heap.get? e = some oe) (hkb : base.StaysIn s.heap) (hen : base.get? e = none) (hd : oe.data = .fields vs) (h1 : vs[1]? = some .none)
    (h : ∀ h', FlyD base (env :: outer) e oe.cls oe.dict (rawInt L) h' → s.heap.UpToSlots h' → Q () { s with heap := h' }) : wpAny M A (noteFrame (.ref e) env) Q E s := by
  unfold noteFrame
  simp only [hf]
  refine wpAny_bind (wpAny_field he hd h1 ?_)
  rw [if_neg (by decide)]
  exact entryD hfr hl hf he hkb hen hd (Array.getElem?_eq_some_iff.mp h1).1 h

theorem note_nextD (hfr : A.frames = some (env :: outer)) (hf : env.frame = some L) (X : FlyD base (env :: outer) e cls dd .none s.heap)
    (h : ∀ h', FlyD base (env :: outer) e cls dd (rawInt L) h' → s.heap.UpToSlots h' → Q () { s with heap := h' }) : wpAny M A (noteFrame (.ref e) env) Q E s := by
  obtain ⟨hkb, hen, hl, oe, vs, T, oT, ts, he, ⟨rfl, rfl⟩, hd, h1, hnT, hTe, hT, hdT, h3⟩ := X
  unfold noteFrame
  simp only [hf]
  refine wpAny_bind (wpAny_field he hd h1 ?_)
  rw [if_pos (show (Value.ref T != Value.none) = true from by simp)]
  refine wpAny_bind (wpAny_field hT hdT h3 ?_)
  rw [if_neg (show ¬ ((Value.none == rawInt L) = true) from by simp [rawInt])]
  refine wpAny_bind (wpAny_setField hT hdT (Array.getElem?_eq_some_iff.mp h3).1 ?_)
  have same : ∀ b, b ≠ T → (s.heap.update T (Obj.mapFields (·.setIfInBounds 3 Value.none))).get? b = s.heap.get? b := fun b hb => Heap.get?_update_other _ _ (Ne.symm hb)
  have offT : ∀ b o, s.heap.get? b = some o → (∀ vs, o.data ≠ .fields vs) → b ≠ T := fun b o q hn z => by rw [z, hT] at q; cases q; exact hn ts hdT
  refine entryD hfr (hl.of_keeps fun b o q hn => ⟨o, (same b (offT b o q hn)).trans q, rfl⟩) hf ((same e (Ne.symm hTe)).trans he)
    (fun b o q => (same b fun z => by rw [z, hnT] at q; cases q).trans (hkb b o q)) hen hd (Array.getElem?_eq_some_iff.mp h1).1 fun h' x1 x2 => h h' x1 fun b o q hn => x2 b o ((same b (offT b o q hn)).trans q) hn

theorem flightD (X : FlyD base l e cls dd fl s.heap) (h : ∀ h', FlyD base l e cls dd .none h' → s.heap.UpToSlots h' → Q () { s with heap := h' }) : wpAny M A (setFlight (.ref e) none) Q E s := by
  obtain ⟨hkb, hen, hl, oe, vs, T, oT, ts, he, hc, hd, h1, hnT, hTe, hT, hdT, h3⟩ := X
  have same : ∀ b, b ≠ T → (s.heap.update T (Obj.mapFields (·.setIfInBounds 3 ((none : Option Addr).elim Value.none fun f => rawInt f)))).get? b = s.heap.get? b := fun b hb => Heap.get?_update_other _ _ (Ne.symm hb)
  have offT : ∀ b o, s.heap.get? b = some o → (∀ vs, o.data ≠ .fields vs) → b ≠ T := fun b o q hn z => by rw [z, hT] at q; cases q; exact hn ts hdT
  have h3s : 3 < ts.size := (Array.getElem?_eq_some_iff.mp h3).1
  unfold setFlight
  refine wpAny_bind (wpAny_field he hd h1 ?_)
  rw [if_pos (show (Value.ref T != Value.none) = true from by simp)]
  refine wpAny_setField hT hdT h3s (h _ ⟨fun b o q => (same b fun z => by rw [z, hnT] at q; cases q).trans (hkb b o q), hen, hl.of_keeps fun b o q hn => ⟨o, (same b (offT b o q hn)).trans q, rfl⟩, ?_⟩
    fun b o q hn => ⟨o.slots, (same b (offT b o q hn)).trans q⟩)
  exact ⟨oe, vs, T, _, _, (same e (Ne.symm hTe)).trans he, hc, hd, h1, hnT, hTe, Heap.get?_update_self _ hT (Obj.isFreed_of_fields (Obj.data_mapFields hdT _)), Obj.data_mapFields hdT _, by simp [h3s]⟩

theorem FlyD.out {h : Heap} (X : FlyD base (env :: outer) e cls dd fl h) : FlyD base outer e cls dd fl h := by
  obtain ⟨k1, k2, ⟨_, _, k3⟩, k4⟩ := X
  exact ⟨k1, k2, k3, k4⟩
theorem leave_firstD {oe : Obj} {vs : Array Value}
    (hfr : A.frames = some (env :: outer)) (hl : s.heap.FunFrames base (env :: outer)) (hf : env.frame = some L)
    (he : s.heap.get? e = some oe) (hkb : base.StaysIn s.heap) (hen : base.get? e = none) (hd : oe.data = .fields vs) (h1 : vs[1]? = some .none)
    (h : ∀ h', FlyD base outer e oe.cls oe.dict .none h' → s.heap.UpToSlots h' → Q () { s with heap := h' }) : wpAny M A (leaving env (.ref e)) Q E s := by
  unfold leaving
  refine wpAny_bind (note_firstD hfr hl hf he hkb hen hd h1 fun h₁ x1 x2 => ?_)
  exact flightD x1 fun h₂ x3 x4 => h h₂ x3.out (x2.trans x4)
theorem leave_nextD (hfr : A.frames = some (env :: outer)) (hf : env.frame = some L) (X : FlyD base (env :: outer) e cls dd .none s.heap)
    (h : ∀ h', FlyD base outer e cls dd .none h' → s.heap.UpToSlots h' → Q () { s with heap := h' }) : wpAny M A (leaving env (.ref e)) Q E s := by
  unfold leaving
  refine wpAny_bind (note_nextD hfr hf X fun h₁ x1 x2 => ?_)
  exact flightD x1 fun h₂ x3 x4 => h h₂ x3.out (x2.trans x4)
end

end
section
section
variable {prog : Program} {w : World} {A : Around} {E : Value → Shared → Prop} {s : Shared} {K : Frag} {C e : Addr} {v : Value} {R : Result → Shared → Prop} {name : Str}
/-- what the store of one name leaves of the exception e: a dict of its own at d -/
noncomputable def Told (h h' : Heap) (e : Addr) (oe : Obj) (d : Addr) (name : Str) (v : Value) : Prop :=
  h.objs.size = d ∧ d ≠ e ∧ h'.get? e = some { oe with dict := some d } ∧ (∃ es n, h'.get? d = some { cls := .type "dict", data := .dict es n } ∧ ∃ hs tk, es = #[⟨hs, .str name tk, v⟩]) ∧ ∀ b o, b ≠ e → h.get? b = some o → h'.get? b = some o
theorem told_call {oe : Obj} {vs : Array Value} {tk : Tok} {cd : ClassData} {C2 : Addr} (X : K.In s.heap) (I : InstAt s.heap e oe C none) (hod : oe.data = .fields vs) (hc : clsIn K C = some cd) (hdct : cd.hasDict = true)
    (hm : cd.mro = [.ref C, .ref C2, .type "Exception", .type "BaseException", .type "object"]) (hsub : subIn K (.ref C) (.type "object") = some true) (ha : findIn K (.ref C) name = some none)
    (h : ∀ h' d tk', Told s.heap h' e oe d name v → R (.ok (.ret .none)) { s with heap := h', toks := tk' }) :
    codeAny (model prog w) A (.call (.builtin "object.__setattr__") ⟨[.ref e, .str name tk, v], []⟩) R s := by
  have SF := PySem.F.store_object
  have hmr : Looks (model prog w) s.heap (mroOf (.ref C)) cd.mro := (looks_clsIn X hc).andThen .now
  have sub : Looks (model prog w) s.heap (isInstance (.ref e) (.type "object")) true := I.type.andThen (looks_subIn X hsub)
  refine codeAny_call_builtin SF.slot.plain SF.entry (@check_slot (model prog w) _ _ s "object.__setattr__" "object" "__setattr__" (.ref e) [.str name tk, v] [] _ SF.kind SF.split sub (SF.args (.ref e) (.str name tk) v) ?_)
  rw [osa_eq, refuse_eq]
  refine wpAny_bind (wpAny_bind (I.type.here (wpAny_bind (hmr.here ?_))))
  rw [hm, refuseLoop_ref, refuseLoop_ref, PySem.F.store_Exception.passes]
  refine wpAny_pure (wpAny_bind (I.type.here (wpAny_bind ((looks_findIn X ha).here (wpAny_bind (wpAny_pure ?_))))))
  obtain ⟨hx, hcl, hn, hd0⟩ := I
  obtain ⟨oc, odi, oda, osl⟩ := oe
  dsimp only at hcl
  subst hcl
  have hodi : odi = none := by cases odi with | none => rfl | some _ => exact hd0.elim
  subst hodi
  dsimp only at hod
  subst hod
  have hlt : e < s.heap.objs.size := Heap.lt_size hx
  refine wpAny_bind (wpAny_pure (wpAny_bind (wpAny_bind (wpAny_loadPart hx (wpAny_bind ((looks_clsIn X hc).here ?_))))))
  rw [hdct]
  refine wpAny_bind ?_
  refine wpAny_alloc ?_
  have hx1 : (s.heap.push { cls := .type "dict", data := .dict #[] }).get? e = some { cls := .ref C, data := .fields vs, slots := osl } := Heap.get?_push_of_some _ hx
  refine wpAny_bind (wpAny_update hx1 ?_)
  have hx2 := Heap.get?_update_self (fun o : Obj => { o with dict := some s.heap.objs.size }) hx1 rfl
  have hne : s.heap.objs.size ≠ e := Nat.ne_of_gt hlt
  have hd1 : ((s.heap.push { cls := .type "dict", data := .dict #[] }).update e (fun o : Obj => { o with dict := some s.heap.objs.size })).get? s.heap.objs.size = some { cls := .type "dict", data := .dict #[] } :=
    (Heap.get?_update_other _ _ (Ne.symm hne)).trans (Heap.get?_push_size _ rfl)
  refine wpAny_pure ?_
  show wpAny _ _ (Builtin.ObjectAttr.storeInDict s.heap.objs.size (Value.str name tk) name v) _ _ _
  refine wpAny_bind (wpAny_pure (wpAny_bind ?_))
  unfold nsSet
  refine wpAny_bind (wpAny_bind (wpAny_askSetting (wpAny_pure (wpAny_bind (wpAny_mkText (wpAny_bind (wpAny_loadPart hd1 ?_)))))))
  dsimp only
  rw [aRefKeyMayBeTheName_at, show (!(#[] : Array DictEntry).any (·.key.isStr name) && (#[] : Array DictEntry).any (·.refKey)) = false from by simp]
  refine wpAny_updatePart hd1 ?_
  refine wpAny_bind (wpAny_lookBehind (Heap.get?_update_self _ hd1 rfl) rfl ?_)
  refine wpAny_pure (h _ s.heap.objs.size _ ⟨rfl, hne, (Heap.get?_update_other _ _ hne).trans hx2, ⟨_, _, Heap.get?_update_self _ hd1 rfl, _, s.toks, rfl⟩, fun b o hb q => ?_⟩)
  have hbl : b < s.heap.objs.size := Heap.lt_size q
  exact (Heap.get?_update_other _ _ (Nat.ne_of_gt hbl)).trans ((Heap.get?_update_other _ _ (Ne.symm hb)).trans (Heap.get?_push_of_some _ q))
end

end
section
section
variable {prog : Program} {w : World} {A : Around} {E : Value → Shared → Prop} {h : Heap} {g : Array GenState} {d : Drawn} {t : Nat} {os : OsState}
variable {nm q : Str} {C N U : Addr} {bs bm : List Value} {hdct : Bool} {sn : List Str} {sub : List Value} {ab : Bool} {col : Option Bool} {dd : Option Addr} {k0 k1 k2 k3 k5 : Option Value}

theorem exc_check_new (hbm : bm = [.ref U, .type "Exception", .type "BaseException", .type "object"]) {M : Model} {rest : List Value} {Q : Unit → Shared → Prop}
    (hC : h.get? C = some (excClassObj nm q C N bs bm hdct sn sub ab col dd k0 k1 k2 k3 k5 "Exception.__new__")) (hq : Q () ⟨h, g, d, t, os⟩) : wpAny M A (checkBuiltinCall "Exception.__new__" ⟨.ref C :: rest, []⟩) Q E ⟨h, g, d, t, os⟩ := by
  have F := PySem.F.excBase_Exception
  have hcont : (Value.ref C :: bm).contains (.type "Exception") = true := by rw [hbm]; simp
  have hstar := F.noStar
  simp only [checkBuiltinCall, F.newKind, F.newSplit, F.newRow]
  repeat (first | refine wpAny_loadPart_at hC ?_ | (refine wpAny_isSubtype_exc hC ?_; rw [hcont]) | refine wpAny_staticBase_exc hC ?_ | refine wpAny_madeBy_exc hC ?_ | simp only [bne_self_eq_false, Bool.false_eq_true, if_false] | wp_step)
  exact hq

theorem exc_code_new (hbm : bm = [.ref U, .type "Exception", .type "BaseException", .type "object"]) {R : Result → Shared → Prop} {rest : List Value}
    (hC : h.get? C = some (excClassObj nm q C N bs bm hdct sn sub ab col dd k0 k1 k2 k3 k5 "Exception.__new__"))
    (hq : R (.ok (.ret (.ref (h.objs.size + 1)))) ⟨(h.push { cls := .type "tuple", data := .seq rest.toArray }).push
      { cls := .ref C, data := .fields #[.ref h.objs.size, .none, .none, .none, .bool false, .none] }, g, d, t, os⟩) (hrest : rest.length ≤ sizeLine) :
    codeAny (model prog w) A (.builtin "Exception.__new__" ⟨.ref C :: rest, []⟩) R ⟨h, g, d, t, os⟩ := by
  have F := PySem.F.excBase_Exception
  have hends := F.ends
  have hcB : (Value.ref C :: bm).contains (.type "Exception") = true := by rw [hbm]; simp
  have hcA : (Value.ref C :: bm).contains (.type "AttributeError") = false := by rw [hbm]; simp
  have hcN : (Value.ref C :: bm).contains (.type "NameError") = false := by rw [hbm]; simp
  refine codeAny_builtinAt F.entry ?_
  unfold Builtin.«BaseException.__new__»
  refine PySem.wpAt_bind ?_
  show PySem.wpAt _ _ _ (stack >>= _) _ _ _
  refine PySem.wpAt_bind (PySem.wpAt_stack fun p below => PySem.wpAt_of_wpAny ?_)
  wp_walk
  refine PySem.wpAt_of_wpAny ?_
  rw [F.owner]
  repeat (first | with_reducible refine wpAny_madeHere_exc F.canon hC ?_ | with_reducible refine wpAny_loadPart_at hC ?_ | (with_reducible refine wpAny_isSubtype_exc hC ?_; first | rw [hcB] | rw [hcA] | rw [hcN]) | wp_step)
  show R _ _
  rw [Heap.size_push]
  exact hq

theorem exc_type_call (hbm : bm = [.ref U, .type "Exception", .type "BaseException", .type "object"]) {rest : List Value} {fI : Addr} {oI : Obj} {Q : PySem.Fin → Shared → Prop}
    (hC : h.get? C = some (excClassObj nm q C N bs bm hdct sn sub ab col dd k0 k1 k2 k3 k5 "Exception.__new__"))
    (hi : Looks (model prog w) h (typeLookup (.ref C) "__init__") (some (.ref fI))) (hfI : h.get? fI = some oI) (hfc : oI.cls = .type "function") (hrest : rest.length ≤ sizeLine)
    (hq : ∀ h' e, Heap.MadeExcOf h h' e (.ref C) rest →
      wpAny (model prog w) A (call (.ref fI) (.ref e :: rest)) (fun r s' => r = .none ∧ Q (.done (.ret (.ref e))) s') E ⟨h', g, d, t, os⟩) :
    wpAny (model prog w) A (Builtin.«type.__call__» ⟨.ref C :: rest, []⟩) Q E ⟨h, g, d, t, os⟩ := by
  have F := PySem.F.excBase_Exception
  repeat (first | with_reducible refine wpAny_loadPart_at hC ?_ | with_reducible refine wpAny_madeBy_exc hC ?_ | wp_step)
  refine codeAny_call_builtin_code (Code.quiet_builtin _ F.quiet) (exc_check_new hbm hC ?_)
  refine exc_code_new hbm hC ?_ hrest
  show wpAny _ _ _ _ _ _
  have up : ∀ b o, h.get? b = some o → ((h.push { cls := .type "tuple", data := .seq rest.toArray }).push { cls := .ref C, data := .fields #[.ref h.objs.size, .none, .none, .none, .bool false, .none] }).get? b = some o :=
    fun b o z => Heap.get?_push_of_some _ (Heap.get?_push_of_some _ z)
  have hget : ((h.push { cls := .type "tuple", data := .seq rest.toArray }).push
      { cls := .ref C, data := .fields #[.ref h.objs.size, .none, .none, .none, .bool false, .none] }).get? (h.objs.size + 1) = some
      { cls := .ref C, data := .fields #[.ref h.objs.size, .none, .none, .none, .bool false, .none] } := by heap_get
  have hC₁ := up _ _ hC
  have hcC : (Value.ref C :: bm).contains (.ref C) = true := by simp
  unfold isInstance
  repeat (first | with_reducible refine wpAny_loadPart_at hget ?_ | (with_reducible refine wpAny_isSubtype_exc hC₁ ?_; rw [hcC]) | wp_step)
  show wpAny _ _ (typeLookup (.ref C) _) _ _ _
  refine (hi.keeps up).here ?_
  refine wpAny_holding (wpAny_bind ?_)
  unfold bindSpecial
  refine wpAny_bind (wpAny_typeOf (T := "function") ⟨_, up _ _ hfI, hfc⟩ ?_)
  rw [if_pos (by decide)]
  refine wpAny_pure (wpAny_bind (wpAny_mono (hq _ (h.objs.size + 1) ⟨up, Heap.get?_none_of_le (Nat.le_succ _), h.objs.size, hget, Heap.get?_none_of_le (Nat.le_refl _), ?_⟩) (fun r s' hr => ?_) fun _ _ x => x))
  · exact Heap.get?_push_of_some _ (Heap.get?_push_at rfl rfl)
  · obtain ⟨rfl, hQ⟩ := hr
    wp_walk
    exact hQ
theorem exc_make (hbm : bm = [.ref U, .type "Exception", .type "BaseException", .type "object"]) {rest : List Value} {fI : Addr} {oI : Obj} {Q : Value → Shared → Prop}
    (hC : h.get? C = some (excClassObj nm q C N bs bm hdct sn sub ab col dd k0 k1 k2 k3 k5 "Exception.__new__"))
    (hi : Looks (model prog w) h (typeLookup (.ref C) "__init__") (some (.ref fI))) (hfI : h.get? fI = some oI) (hfc : oI.cls = .type "function") (hrest : rest.length ≤ sizeLine)
    (hq : ∀ h' e, Heap.MadeExcOf h h' e (.ref C) rest →
      wpAny (model prog w) (A.under (.builtin "type.__call__" ⟨.ref C :: rest, []⟩)) (call (.ref fI) (.ref e :: rest)) (fun r s' => r = .none ∧ Q (.ref e) s') E ⟨h', g, d, t, os⟩) :
    wpAny (model prog w) A (call (.ref C) rest) Q E ⟨h, g, d, t, os⟩ := by
  have f1 := tc_lookup
  have f2 := tc_bind (.ref C)
  have hT : (⟨h, g, d, t, os⟩ : Shared).TypeIs (.ref C) "type" := ⟨_, hC, rfl⟩
  refine wpAny_call (codeAny_of_tree ?_)
  show wpAny _ _ (callAny (.ref C) _) _ _ _
  repeat (any_goals (first | assumption | with_reducible refine wpAny_loadPart_at hC ?_ | wp_step))
  refine ⟨rfl, ?_⟩
  refine codeAny_call_builtin_at (Code.quiet_builtin _ (by decide +kernel)) entry_typeCall (wpAny_check_type_call_sub hC (exc_type_call hbm hC hi hfI hfc hrest fun h' e hm => ?_))
  exact hq h' e hm
end

end
section
noncomputable def ToldEs (es : Array DictEntry) (v : Value) : Prop := ∃ hs tk, es = #[⟨hs, .str (Str.ofString "told") tk, v⟩]
noncomputable def excObj (C t : Addr) (dd : Option Addr) : Obj := { cls := .ref C, dict := dd, data := .fields #[.ref t, .none, .none, .none, .bool false, .none] }
noncomputable def dictO (es : Array DictEntry) (n : Nat) : Obj := { cls := .type "dict", data := .dict es n }
structure ExcC (K : Frag) (C : Addr) : Prop where
  cls : ∃ cd, clsIn K C = some cd ∧ cd.hasDict = true ∧ cd.mro = [.ref C, .ref 32, .type "Exception", .type "BaseException", .type "object"]
  sub : subIn K (.ref C) (.type "object") = some true
  told : findIn K (.ref C) (Str.ofString "told") = some none
  set : findIn K (.ref C) (Str.ofString "__setattr__") = some (some (.builtin "object.__setattr__"))
theorem excC_45 (P : Params) : ExcC (hd.heap_39 P) 45 := ⟨⟨_, rfl, rfl, rfl⟩, rfl, rfl, rfl⟩
theorem excC_57 (P : Params) : ExcC (hd.heap_39 P) 57 := ⟨⟨_, rfl, rfl, rfl⟩, rfl, rfl, rfl⟩
section
variable {prog : Program} {w : World} {A : Around} {E : Value → Shared → Prop} {s : Shared} {K : Frag} {C e t L : Addr} {v : Value} {h₀ : Heap} {m : Str → Option Value} {news : List (Addr × Obj)} {Q : Unit → Shared → Prop}
theorem set_told (H : ExcC K C) (F : Fr h₀ L s.heap m) (X₀ : K.In h₀) (N : News h₀ L s.heap ((e, excObj C t none) :: news)) (hne : ∀ p ∈ news, p.1 ≠ e)
    (h : ∀ h' d es n tk', Fr h₀ L h' m → News h₀ L h' ((e, excObj C t (some d)) :: (d, dictO es n) :: news) → ToldEs es v → (∀ p ∈ news, p.1 < d) → e < d → Q () { s with heap := h', toks := tk' }) :
    wpAny (model prog w) A (setAttr (.ref e) (Str.ofString "told") v) Q E s := by
  obtain ⟨⟨cd, hc, hdct, hm⟩, hsub, htold, hset⟩ := H
  have X := X₀.keeps F.keep
  have He := N (e, excObj C t none) List.mem_cons_self
  have I : InstAt s.heap e (excObj C t none) C none := ⟨He.1, rfl, rfl, trivial⟩
  refine set_plain X I hset ?_
  refine told_call (s := { s with toks := s.toks + 1 }) (vs := #[.ref t, .none, .none, .none, .bool false, .none]) X I rfl hc hdct hm hsub htold fun h' d tk' hT => ?_
  obtain ⟨hdn, hde, hee, ⟨es, n, hdd, hs, tk, hes⟩, hk⟩ := hT
  have hdn0 : s.heap.objs.size = d := hdn
  have hdn' : s.heap.get? d = none := Heap.get?_none_of_le (Nat.le_of_eq hdn0)
  have hL : s.heap.get? L ≠ none := by obtain ⟨o, _, _, q, _⟩ := F.ns; rw [q]; exact fun z => by cases z
  have hdL : d ≠ L := fun z => hL (z ▸ hdn')
  have h0e : h₀.get? e = none := He.2.2
  have h0d : h₀.get? d = none := by
    cases q : h₀.get? d with
    | none => rfl
    | some o => have := F.keep _ _ q; rw [hdn'] at this; cases this
  have hdlt : ∀ b o, s.heap.get? b = some o → b < d := fun b o q => hdn0 ▸ Heap.lt_size q
  refine h h' d es n tk' ?_ ?_ ⟨hs, tk, hes⟩ ?_ ?_
  · obtain ⟨oL, a1, a2, q, a3⟩ := F.ns
    exact ⟨⟨oL, a1, a2, hk _ _ (Ne.symm He.2.1) q, a3⟩, fun b o z => hk b o (fun y => by rw [y, h0e] at z; cases z) (F.keep b o z), F.above⟩
  · intro p hp
    rcases List.mem_cons.mp hp with rfl | hp
    · exact ⟨hee, He.2.1, h0e⟩
    · rcases List.mem_cons.mp hp with rfl | hp
      · exact ⟨hdd, hdL, h0d⟩
      · have z := N p (List.mem_cons_of_mem _ hp)
        exact ⟨hk _ _ (hne p hp) z.1, z.2⟩
  · exact fun p hp => hdlt _ _ (N p (List.mem_cons_of_mem _ hp)).1
  · exact hdlt _ _ He.1
end

end
section
section
theorem init_ctr (w : World) (C e t : Addr) (v : Value) (news : List (Addr × Obj)) (H : ExcC (hd.heap_39 w.params) C) (hne : ∀ p ∈ news, p.1 ≠ e) :
    Ctr w 29 [.ref e, v] ((e, excObj C t none) :: news) 1 8 (fun r led => .none = r ∧ ∃ d es n, ToldEs es v ∧ (e, excObj C t (some d)) :: (d, dictO es n) :: news = led ∧ (∀ p ∈ news, p.1 < d) ∧ e < d) := by
  k_with_none
  k_with "setAttr ref" => (refine' set_told ?kH ?kF ?kX ?kN ?kne ?_; (case kH => assumption); (case kF => k_asm); (case kX => k_asm); (case kN => k_asm); (case kne => k_asm); intro h' d' es' n' tk' F' N' hT' hlt' hlt2'; (try dsimp only); (try k_fold))
  unfold Ctr
  k_fill
  intros
  rename_i hret
  refine wpAny_call ?_
  k_dflt (refine' code_def ?k1 ?k2 ?k3 ?k4 ?k5 ?kA ?kF ?kK ?k6 ?k7 ?k8 ?k9 ?kB ?_ ?c2 ?c3 ?c4 ?c5; (case kA => exact rfl); (case kF => exact rfl); (case kK => assumption); (case k1 => k_asm); (case k2 => k_asm); (case k3 => k_asm); (case k4 => k_asm); (case k5 => k_asm); (case k6 => k_is); (case k7 => k_is); (case k8 => ktr_room); (case k9 => exact binds_K (by k_in) rfl (by k_is) rfl rfl rfl); (case c5 => decide); (case kB => exact locs rfl); (case c2 => exact rfl); (case c3 => exact rfl); (case c4 => exact rfl); k_whole; intro g' L' h' FG' F' N' B' X' T'; (try dsimp only); (try k_lift B'); (try k_fold))
  k_steps
  all_goals (refine hret _ _ _ _ ⟨rfl, _, _, _, by assumption, rfl, by assumption, by assumption⟩ (by k_asm) (by k_asm))
end

end
section
theorem under_call (dp un : Nat) (gd : Option (List Code)) (cn : Str) (cs : Scope) (L a : Addr) (ccd : Value) (cl : List (Str × Addr)) (outer : List Env) (C : Addr) (rest : List Value) :
    (ktrTop dp un gd cn cs L a ccd cl outer).under (.builtin "type.__call__" ⟨.ref C :: rest, []⟩) = ktrTop (dp + 1) (un + 1) gd cn cs L a ccd cl outer := by
  have hg : (Code.builtin "type.__call__" ⟨.ref C :: rest, []⟩).isGuard = false := by show guardIds.contains "type.__call__" = false; decide +kernel
  have hf : (Code.builtin "type.__call__" ⟨.ref C :: rest, []⟩).frames = 0 := rfl
  have hw : (Code.builtin "type.__call__" ⟨.ref C :: rest, []⟩).weight = 1 := by unfold Code.weight; rw [hf, hg]; rfl
  have hu : (Code.builtin "type.__call__" ⟨.ref C :: rest, []⟩).cUnits = 1 := rfl
  have he : (Code.builtin "type.__call__" ⟨.ref C :: rest, []⟩).envs = [] := rfl
  have hgs : (Code.builtin "type.__call__" ⟨.ref C :: rest, []⟩).guards = [] := by unfold Code.guards; rw [hg]; rfl
  unfold Around.under
  rw [hw, hu, he, hgs]
  rfl
section
variable {w : World} {C L : Addr} {v : Value} {h₀ base : Heap} {m : Str → Option Value} {news : List (Addr × Obj)} {Q E : Value → Shared → Prop} {s : Shared}
  {mean : ExcName → Option Value} {mg mb : Str → Option Value} {dp un : Nat} {gd : Option (List Code)} {cn : Str} {cs : Scope} {a : Addr} {ccd : Value} {cl : List (Str × Addr)} {outer : List Env} {A₀ : Around}
theorem make_exc (H : ExcC (hd.heap_39 w.params) C)
    (hC : ∃ nm q N bs hdct sn sub ab col dd k0 k1 k2 k3 k5, (hd.heap_39 w.params).lookup C = some (excClassObj nm q C N bs [.ref 32, .type "Exception", .type "BaseException", .type "object"] hdct sn sub ab col dd k0 k1 k2 k3 k5 "Exception.__new__"))
    (hinit : findIn (hd.heap_39 w.params) (.ref C) (Str.ofString "__init__") = some (some (.ref 29)))
    (hI : ∃ oI, (hd.heap_39 w.params).lookup 29 = some oI ∧ oI.cls = .type "function")
    (B : Below A₀ base outer h₀) (F : Fr h₀ L s.heap m) (X : (hd.heap_39 w.params).In h₀) (N : News h₀ L s.heap news) (T : Top hd.view_39 (looseW hd.view_39 [Str.ofString "UniError"]) mean mg mb h₀) (hk : cs.kind = .function) (hd : dp + 2 < recursionLimit) (hu : un + 9 < cLine)
    (ret : ∀ e t d es n h' tk', Fr h₀ L h' m → News h₀ L h' ((e, excObj C t (some d)) :: (d, dictO es n) :: news) → ToldEs es v → (∀ p ∈ news, p.1 ≠ e) → e < d → (∀ p ∈ news, p.1 < d) → Q (.ref e) { s with heap := h', toks := tk' }) :
    wpAny (model PySem.Challenge.rw_nt0010_01.row.prog w) (ktrTop dp un gd cn cs L a ccd cl outer) (call (.ref C) [v]) Q E s := by
  obtain ⟨nm, q, N', bs, hdct, sn, sub, ab, col, dd, k0, k1, k2, k3, k5, hC⟩ := hC
  obtain ⟨oI, hI, hIc⟩ := hI
  have Xs := X.keeps F.keep
  refine exc_make rfl (Xs _ _ hC) (looks_findIn Xs hinit) (Xs _ _ hI) hIc (by show 1 ≤ sizeLine; decide) fun h' e hm => ?_
  rw [under_call]
  obtain ⟨hkp, hen, t, het, htn, _⟩ := hm
  have h0e : h₀.get? e = none := by
    cases z : h₀.get? e with
    | none => rfl
    | some o => have := F.keep _ _ z; rw [hen] at this; cases this
  have hLe : e ≠ L := fun z => by obtain ⟨o, _, _, y, _⟩ := F.ns; rw [z, y] at hen; cases hen
  have hne : ∀ p ∈ news, p.1 ≠ e := fun p hp z => by have := (N p hp).1; rw [z, hen] at this; cases this
  have F' : Fr h₀ L h' m := F.keeps hkp
  have N1 : News h₀ L h' ((e, excObj C t none) :: news) := fun p hp => by
    rcases List.mem_cons.mp hp with rfl | hp
    · exact ⟨het, hLe, h0e⟩
    · exact ⟨hkp _ _ (N p hp).1, (N p hp).2⟩
  refine Ctr.use (s := ⟨h', s.gens, s.drawn, s.toks, s.os⟩) (init_ctr w C e t v news H hne) B F' X N1 T hk (by omega) (by omega) fun r led h'' tk'' hR F2 N2 => ?_
  obtain ⟨hr, d, es, n, hes, hl, hlt, hed⟩ := hR
  subst hr hl
  exact ⟨rfl, ret e t d es n h'' tk'' F2 N2 hes hne hed hlt⟩
end

end
section
noncomputable def RaiseNow (E : Value → Shared → Prop) (v : Value) (s : Shared) : Prop :=
  ∃ e t dd C nm q N bs hdct sn sub ab col dd' k0 k1 k2 k3 k5, v = .ref e ∧ s.heap.get? C = some (excClassObj nm q C N bs [.ref 32, .type "Exception", .type "BaseException", .type "object"] hdct sn sub ab col dd' k0 k1 k2 k3 k5 "Exception.__new__") ∧
    s.heap.get? e = some { cls := .ref C, dict := dd, data := .fields #[.ref t, .none, .none, .none, .bool false, .none] } ∧ E (.ref e) s
theorem RaiseNow.mk {E : Value → Shared → Prop} {s : Shared} {e t : Addr} {dd : Option Addr} {C : Addr} {nm q N bs hdct sn sub ab col dd' k0 k1 k2 k3 k5}
    (he : s.heap.get? e = some { cls := .ref C, dict := dd, data := .fields #[.ref t, .none, .none, .none, .bool false, .none] })
    (hC : s.heap.get? C = some (excClassObj nm q C N bs [.ref 32, .type "Exception", .type "BaseException", .type "object"] hdct sn sub ab col dd' k0 k1 k2 k3 k5 "Exception.__new__")) (h : E (.ref e) s) : RaiseNow E (.ref e) s :=
  ⟨_, _, _, _, _, _, _, _, _, _, _, _, _, _, _, _, _, _, _, rfl, hC, he, h⟩
section
variable {M : Model} {A : Around} {E : Value → Shared → Prop} {s : Shared} {env : Env}
theorem raise_stmt {x : Sem Value} {Q : Flow → Shared → Prop} (hh : A.handled = none) (h : wpAny M A x (fun v s₁ => RaiseNow E v s₁) E s) : wpAny M A (raiseStmt env (some x) none) Q E s := by
  unfold raiseStmt
  refine wpAny_bind (wpAny_mono h (fun v s₁ h₁ => ?_) fun _ _ x => x)
  obtain ⟨e, t, dd, C, nm, q, N, bs, hdct, sn, sub, ab, col, dd', k0, k1, k2, k3, k5, rfl, hC, he, hE⟩ := h₁
  obtain ⟨hp, g, d, tk, os⟩ := s₁
  have hcB : (Value.ref C :: [.ref 32, .type "Exception", .type "BaseException", .type "object"]).contains (.type "BaseException") = true := by simp
  repeat (first | with_reducible refine wpAny_loadPart_at he ?_ | with_reducible refine wpAny_loadPart_at hC ?_ | (with_reducible refine wpAny_isSubtype_exc hC ?_; rw [hcB]) | wp_step)
  exact wpAny_raiseNew_none hh hE
theorem raise_rule {x : Expr} {pos : Pos} {Q : Flow → Shared → Prop} (hh : A.handled = none) (h : wpAny M A (eval x env) (fun v s₁ => RaiseNow E v s₁) E s) :
    wpAny M A (exec (.Raise (some x) none pos) env) Q E s := by
  rw [arm_exec_Raise]
  first
    | exact wpAny_bind (wpAny_standAt (raise_stmt hh (wpAny_bind (wpAny_mono h (fun v s₁ h₁ => wpAny_bind (wpAny_standAt (wpAny_pure h₁))) fun _ _ x => x))))
    | (simp only [evalOpt, Option.map]; exact wpAny_bind (wpAny_standAt (raise_stmt hh (wpAny_bind (wpAny_mono h (fun v s₁ h₁ => wpAny_bind (wpAny_standAt (wpAny_pure h₁))) fun _ _ x => x)))))
end
section
variable {M : Model} {A : Around} {E : Value → Shared → Prop} {s : Shared} {base g h : Heap} {outer : List Env} {L a e t : Addr} {m : Str → Option Value} {name : Str} {scope : Scope} {cd : Value} {Q : Unit → Shared → Prop} {news : List (Addr × Obj)} {C : Addr} {dd : Option Addr}
/-- an exception of the frame's own ledger leaves the frame -/
theorem leaveK1 (K : Below A base outer g) (F : Fr g L s.heap m) (N : News g L s.heap ((e, excObj C t dd) :: news))
    (hQ : ∀ h', FlyD base outer e (.ref C) dd .none h' → g.UpToSlots h' → s.heap.UpToSlots h' → Q () { s with heap := h' }) (hk : scope.kind = .function := by rfl) :
    wpAny M (A.deeper (envOf name scope L a cd)) (leaving (envOf name scope L a cd) (.ref e)) Q E s := by
  have K' := K.push (name := name) (a := a) (cd := cd) F hk
  have He := N (e, excObj C t dd) List.mem_cons_self
  have hen : base.get? e = none := by
    cases z : base.get? e with
    | none => rfl
    | some o => have := K.stays _ _ z; rw [He.2.2] at this; cases this
  exact leave_firstD K'.stack K'.frames rfl He.1 K'.stays hen rfl rfl fun h' x1 x2 => hQ h' x1 ((Heap.UpToSlots.of_keeps F.keep).trans x2) x2
/-- an exception from below passes through the frame -/
theorem leaveK2 {cls : Value} (K : Below A base outer g) (hfly : FlyD base (envOf name scope L a cd :: outer) e cls dd .none s.heap) (hg : ∃ g₂, Fr g L g₂ m ∧ g₂.UpToSlots s.heap)
    (hQ : ∀ h', FlyD base outer e cls dd .none h' → g.UpToSlots h' → s.heap.UpToSlots h' → Q () { s with heap := h' }) :
    wpAny M (A.deeper (envOf name scope L a cd)) (leaving (envOf name scope L a cd) (.ref e)) Q E s := by
  obtain ⟨g₂, F, hu⟩ := hg
  exact leave_nextD (Around.frames_deeper K.stack) rfl hfly fun h' x1 x2 => hQ h' x1 ((Heap.UpToSlots.of_keeps F.keep).trans (hu.trans x2)) x2
end

end
section
/-- a contract of a def that may raise an exception of class C -/
noncomputable def CtrX (w : World) (f : Addr) (args : List Value) (led : List (Addr × Obj)) (d u : Nat) (R : Value → List (Addr × Obj) → Prop) (RX : Addr → Prop) : Prop :=
  ∀ (mean : ExcName → Option Value) (mg mb : Str → Option Value) (dp un : Nat) (gd : Option (List Code)) (cn : Str) (cs : Scope) (a : Addr) (ccd : Value) (cl : List (Str × Addr)) (outer : List Env) (A₀ : Around) (base h₀ : Heap) (L : Addr) (m : Str → Option Value) (s : Shared) (Q E : Value → Shared → Prop),
    Below A₀ base outer h₀ → Fr h₀ L s.heap m → (hd.heap_39 w.params).In h₀ → News h₀ L s.heap led → Top hd.view_39 (looseW hd.view_39 [Str.ofString "UniError"]) mean mg mb h₀ → cs.kind = .function → dp + d < recursionLimit → un + u < cLine →
    (∀ v led' h' tk', R v led' → Fr h₀ L h' m → News h₀ L h' led' → Q v { s with heap := h', toks := tk' }) →
    (∀ e C dd h' tk', RX C → FlyD base (envX cn cs L a ccd cl :: outer) e (.ref C) dd .none h' → (∃ g₂, Fr h₀ L g₂ m ∧ g₂.UpToSlots h') → E (.ref e) { s with heap := h', toks := tk' }) →
    wpAny (model PySem.Challenge.rw_nt0010_01.row.prog w) (ktrTop dp un gd cn cs L a ccd cl outer) (call (.ref f) args) Q E s
section use
variable {w : World} {f : Addr} {args : List Value} {led : List (Addr × Obj)} {d u : Nat} {R : Value → List (Addr × Obj) → Prop} {RX : Addr → Prop}
theorem CtrX.use (C : CtrX w f args led d u R RX) {mean : ExcName → Option Value} {mg mb : Str → Option Value} {dp un : Nat} {gd : Option (List Code)} {cn : Str} {cs : Scope} {a : Addr} {ccd : Value} {cl : List (Str × Addr)} {outer : List Env} {A₀ : Around} {base h₀ : Heap} {L : Addr} {m : Str → Option Value} {s : Shared} {Q E : Value → Shared → Prop}
    (B : Below A₀ base outer h₀) (F : Fr h₀ L s.heap m) (X : (hd.heap_39 w.params).In h₀) (N : News h₀ L s.heap led) (T : Top hd.view_39 (looseW hd.view_39 [Str.ofString "UniError"]) mean mg mb h₀) (hk : cs.kind = .function) (hd : dp + d < recursionLimit) (hu : un + u < cLine)
    (ret : ∀ v led' h' tk', R v led' → Fr h₀ L h' m → News h₀ L h' led' → Q v { s with heap := h', toks := tk' })
    (exc : ∀ e C dd h' tk', RX C → FlyD base (envX cn cs L a ccd cl :: outer) e (.ref C) dd .none h' → (∃ g₂, Fr h₀ L g₂ m ∧ g₂.UpToSlots h') → E (.ref e) { s with heap := h', toks := tk' }) :
    wpAny (model PySem.Challenge.rw_nt0010_01.row.prog w) (ktrTop dp un gd cn cs L a ccd cl outer) (call (.ref f) args) Q E s :=
  C mean mg mb dp un gd cn cs a ccd cl outer A₀ base h₀ L m s Q E B F X N T hk hd hu ret exc
end use
theorem takeWhile_valid : ∀ l : List Int, ∀ o ∈ l.takeWhile valid, valid o = true := by
  intro l
  induction l with
  | nil => intro o ho; cases ho
  | cons x r ih =>
    intro o ho
    rw [List.takeWhile_cons] at ho
    split at ho
    · rename_i hx
      rcases List.mem_cons.mp ho with rfl | ho
      · exact hx
      · exact ih o ho
    · cases ho
theorem take_len_takeWhile : ∀ l : List Int, l.take (l.takeWhile valid).length = l.takeWhile valid := by
  intro l
  induction l with
  | nil => rfl
  | cons x r ih =>
    rw [List.takeWhile_cons]
    split
    · simp [ih]
    · rfl
theorem clipAt_in {n : Nat} {i : Int} (h0 : 0 ≤ i) (h1 : i ≤ n) : clipAt n i = i.toNat := by
  obtain ⟨k, rfl⟩ := Int.eq_ofNat_of_zero_le h0
  rw [clipAt_nat]; omega
theorem runEnd_le {ks : List Int} {a : Int} (h0 : 0 ≤ a) (h1 : a ≤ ks.length) : a ≤ runEnd ks a ∧ runEnd ks a ≤ ks.length := by
  unfold runEnd
  have : ((ks.drop a.toNat).takeWhile valid).length ≤ (ks.drop a.toNat).length := (List.takeWhile_sublist _).length_le
  rw [List.length_drop] at this
  omega
theorem slc_eq {ks : List Int} {a : Int} (h0 : 0 ≤ a) (h1 : a ≤ ks.length) : slc ks a (runEnd ks a) = (ks.drop a.toNat).takeWhile valid := by
  have h := runEnd_le h0 h1
  unfold slc
  rw [clipAt_in h0 h1, clipAt_in (by omega) h.2]
  have e : (runEnd ks a).toNat - a.toNat = ((ks.drop a.toNat).takeWhile valid).length := by unfold runEnd; omega
  rw [e, take_len_takeWhile]
theorem slc_valid {ks : List Int} {a : Int} (h0 : 0 ≤ a) (h1 : a ≤ ks.length) : ∀ o ∈ slc ks a (runEnd ks a), valid o = true := by
  rw [slc_eq h0 h1]; exact takeWhile_valid _
noncomputable def runRes (os : List Int) : Option (List Int) := rdU (ruFold os).1 (decide ((ruFold os).2.2 < 6) && decide ((ruFold os).2.1 = 0))
noncomputable def closed (ks : List Int) (en : Int) : Bool := decide (en < ks.length) && decide (ks.getD en.toNat 0 = 45)
noncomputable def mailRun (ks : List Int) (i : Int) (bo : Option Int) : Option (List Int × Int) :=
  if runEnd ks (i + 1) = i + 1 ∧ closed ks (runEnd ks (i + 1)) = true then some ([38], runEnd ks (i + 1) + 1)
  else if bo = some i then none
  else if runEnd ks (i + 1) = i + 1 then none
  else match runRes (slc ks (i + 1) (runEnd ks (i + 1))) with
    | none => none
    | some cs => if closed ks (runEnd ks (i + 1)) = true then some (cs, runEnd ks (i + 1) + 1) else none
noncomputable def IsOpt (v : Value) (o : Option Int) : Prop := (v = .none ∧ o = none) ∨ ∃ x t, v = .int x t ∧ o = some x
noncomputable def RMail (news : List (Addr × Obj)) (r : Option (List Int × Int)) (v : Value) (led : List (Addr × Obj)) : Prop :=
  ∃ d l vs n cs x tk, .ref d = v ∧ r = some (cs, x) ∧ IntsAre vs cs ∧ vs.length ≤ 1001 ∧ (d, ({ cls := .type "tuple", data := .seq #[.ref l, .int x tk] } : Obj)) :: (l, listOf vs.toArray n) :: news = led ∧ AllLt l news ∧ AllLt d ((l, listOf vs.toArray n) :: news)
theorem RMail.elim {news led : List (Addr × Obj)} {r : Option (List Int × Int)} {v : Value} (h : RMail news r v led) {M : Value → List (Addr × Obj) → Prop} (k : ∀ d l vs n cs x tk, r = some (cs, x) → IntsAre vs cs → vs.length ≤ 1001 → AllLt l news → AllLt d ((l, listOf vs.toArray n) :: news) →
    M (.ref d) ((d, ({ cls := .type "tuple", data := .seq #[.ref l, .int x tk] } : Obj)) :: (l, listOf vs.toArray n) :: news)) : M v led := by
  obtain ⟨d, l, vs, n, cs, x, tk, rfl, h1, h2, h3, rfl, h4, h5⟩ := h
  exact k d l vs n cs x tk h1 h2 h3 h4 h5

end
section
section
variable {prog : Program} {w : World} {A : Around} {E : Value → Shared → Prop} {s : Shared} {a b : Addr} {xs : Array Value} {v : Value} {r : List Value} {Q : Value → Shared → Prop}
theorem ne_some (ha : s.heap.IsList a (v :: r).toArray) (hb : s.heap.IsList b #[]) (hu : A.units < cLine) (h : Q (.bool true) s) :
    wpAny (model prog w) A (compareOp .NotEq (.ref a) (.ref b)) Q E s :=
  PySem.SeqAt.RcNeAt.lists_lengths ha hb (by simp) hu prog w E Q h
end
section
variable {ks : List Int} {i : Int} {bo : Option Int} {cs : List Int}
theorem mr_one (h1 : runEnd ks (i + 1) < ks.length) (h2 : ks.getD (runEnd ks (i + 1)).toNat 0 = 45) (h3 : runEnd ks (i + 1) = i + 1) : mailRun ks i bo = some ([38], runEnd ks (i + 1) + 1) := by
  unfold mailRun closed; rw [if_pos ⟨h3, by simp only [h1, h2, decide_true, Bool.and_self]⟩]
theorem mr_closed1 (h1 : ¬ runEnd ks (i + 1) < ks.length) : closed ks (runEnd ks (i + 1)) = false := by unfold closed; rw [decide_eq_false h1]; rfl
theorem mr_closed2 (h1 : ks.getD (runEnd ks (i + 1)).toNat 0 ≠ 45) : closed ks (runEnd ks (i + 1)) = false := by unfold closed; rw [decide_eq_false h1, Bool.and_false]
theorem mr_closed3 (h1 : runEnd ks (i + 1) < ks.length) (h2 : ks.getD (runEnd ks (i + 1)).toNat 0 = 45) : closed ks (runEnd ks (i + 1)) = true := by unfold closed; rw [decide_eq_true h1, decide_eq_true h2]; rfl
theorem mr_empty (h1 : closed ks (runEnd ks (i + 1)) = false) (h3 : runEnd ks (i + 1) = i + 1) : mailRun ks i bo = none := by
  unfold mailRun; rw [if_neg (by rw [h1]; simp)]
  by_cases hb : bo = some i
  · rw [if_pos hb]
  · rw [if_neg hb, if_pos h3]
theorem mr_split (h1 : closed ks (runEnd ks (i + 1)) = false) (h3 : bo = some i) : mailRun ks i bo = none := by
  unfold mailRun; rw [if_neg (by rw [h1]; simp), if_pos h3]
theorem mr_split2 (h1 : ¬ runEnd ks (i + 1) = i + 1) (h3 : bo = some i) : mailRun ks i bo = none := by
  unfold mailRun; rw [if_neg (fun h => h1 h.1), if_pos h3]
theorem mr_fault (h1 : ¬ runEnd ks (i + 1) = i + 1) (h2 : runRes (slc ks (i + 1) (runEnd ks (i + 1))) = none) : mailRun ks i bo = none := by
  unfold mailRun; rw [if_neg (fun h => h1 h.1)]
  by_cases hb : bo = some i
  · rw [if_pos hb]
  · rw [if_neg hb, if_neg h1, h2]
theorem mr_open (h1 : ¬ runEnd ks (i + 1) = i + 1) (h2 : closed ks (runEnd ks (i + 1)) = false) : mailRun ks i bo = none := by
  unfold mailRun; rw [if_neg (fun h => h1 h.1)]
  by_cases hb : bo = some i
  · rw [if_pos hb]
  · rw [if_neg hb, if_neg h1]
    cases runRes (slc ks (i + 1) (runEnd ks (i + 1))) with
    | none => rfl
    | some cs => simp only [h2]; rfl
theorem mr_ok (h1 : ¬ runEnd ks (i + 1) = i + 1) (h2 : closed ks (runEnd ks (i + 1)) = true) (h3 : ¬ bo = some i) (h4 : runRes (slc ks (i + 1) (runEnd ks (i + 1))) = some cs) : mailRun ks i bo = some (cs, runEnd ks (i + 1) + 1) := by
  unfold mailRun; rw [if_neg (fun h => h1 h.1), if_neg h3, if_neg h1, h4]; simp only [h2, if_true]
theorem mr_c1 {e : Int} (h : ¬ e < ks.length) : decide (e < (ks.length : Int)) = closed ks e := by unfold closed; rw [decide_eq_false h]; rfl
theorem mr_c2 {e : Int} (h : e < ks.length) : (ks.getD e.toNat 0 == 45) = closed ks e := by rw [Bool.eq_iff_iff]; simp [closed, h]
theorem mr_t1 {p : Prop} [Decidable p] {z : Bool} (a : p) (b : z = true) : true = (decide p && z) := by subst b; rw [decide_eq_true a]; rfl
theorem mr_t2 {p : Prop} [Decidable p] {z : Bool} (a : p) (b : z = false) : false = (decide p && z) := by subst b; rw [decide_eq_true a]; rfl
theorem mr_t3 {p : Prop} [Decidable p] {z : Bool} (a : ¬ p) : false = (decide p && z) := by rw [decide_eq_false a]; rfl
theorem mr_one' (h : (decide (runEnd ks (i + 1) = i + 1) && closed ks (runEnd ks (i + 1))) = true) : mailRun ks i bo = some ([38], runEnd ks (i + 1) + 1) := by
  obtain ⟨h1, h2⟩ := Bool.and_eq_true_iff.mp h
  unfold mailRun; rw [if_pos ⟨of_decide_eq_true h1, h2⟩]
theorem mr_split' (h1 : (decide (runEnd ks (i + 1) = i + 1) && closed ks (runEnd ks (i + 1))) = false) (h2 : decide (bo = some i) = true) : mailRun ks i bo = none := by
  unfold mailRun
  rw [if_neg (fun h => by rw [h.2, decide_eq_true h.1] at h1; cases h1), if_pos (of_decide_eq_true h2)]
theorem mr_empty' (h1 : (decide (runEnd ks (i + 1) = i + 1) && closed ks (runEnd ks (i + 1))) = false) (h3 : runEnd ks (i + 1) = i + 1) : mailRun ks i bo = none :=
  mr_empty (by rw [decide_eq_true h3, Bool.true_and] at h1; exact h1) h3
theorem RMail.mk {news : List (Addr × Obj)} {r : Option (List Int × Int)} {d l : Addr} {vs : List Value} {n : Nat} {x : Int} {tk : Tok} (hr : r = some (cs, x)) (hi : IntsAre vs cs) (hn : vs.length ≤ 1001) (h1 : AllLt l news) (h2 : AllLt d ((l, listOf vs.toArray n) :: news)) :
    RMail news r (.ref d) ((d, ({ cls := .type "tuple", data := .seq #[.ref l, .int x tk] } : Obj)) :: (l, listOf vs.toArray n) :: news) := ⟨d, l, vs, n, cs, x, tk, rfl, hr, hi, hn, rfl, h1, h2⟩
end
section
theorem mail_run_ctr (w : World) (news : List (Addr × Obj)) (b : Array UInt8) (ks : List Int) (i : Int) (bv : Value) (bo : Option Int) (t u : Tok) (hb : KBw.bInts b = ks) (hlen : ks.length ≤ 1000) (h0 : 0 ≤ i) (h1 : i < ks.length) (hbo : IsOpt bv bo) :
    CtrX w 164 [.bytes b t, .int i u, bv] news 4 120 (RMail news (mailRun ks i bo)) (fun C => C = 45 ∧ mailRun ks i bo = none) := by
  k_with_none
  k_with "eval Call" => ((with_reducible show wpAny _ _ (eval (Expr.Call (Expr.Name _ _) _ [] _) _) _ _ _); refine Call_ ?_)
  k_with "call ref" => (k_here; first | (refine' Ctr.use (run_end_ctr _ _ _ _ _ _ _ (by assumption) (by assumption) (by first | assumption | omega) (by first | assumption | omega)) ?k1 ?k2 ?k3 ?k4 ?k5 ?kK ?kd ?ku ?_; (case k1 => k_asm); (case k2 => k_asm); (case k3 => k_asm); (case k4 => k_asm); (case k5 => k_asm); (case kK => first | exact rfl | assumption); (case kd => ktr_room); (case ku => ktr_units); intro cv cled h' tk' hR F' N'; revert N'; apply RInt.elim hR; clear hR; intro ct N'; (try dsimp only); (try k_fold)) | (refine' Ctr.use (run_read_ctr _ _ _ _ _ _ _ _ _ (by assumption) (by assumption) (by assumption)) ?k1 ?k2 ?k3 ?k4 ?k5 ?kK ?kd ?ku ?_; (case k1 => k_asm); (case k2 => k_asm); (case k3 => k_asm); (case k4 => k_asm); (case k5 => k_asm); (case kK => first | exact rfl | assumption); (case kd => ktr_room); (case ku => ktr_units); intro cv cled h' tk' hR F' N'; revert N'; apply RRead.elim hR; clear hR; intro d9 lc9 lf9 cv9 nc9 fv9 nf9 hO9 hA1 hA2 hA3 N'; (try simp only [AllLt, and_true] at hA1 hA2 hA3); (try dsimp only); (try k_fold)) | (refine' make_exc (excC_45 _) ⟨_, _, _, _, _, _, _, _, _, _, _, _, _, _, _, rfl⟩ rfl ⟨_, rfl, rfl⟩ ?k1 ?k2 ?k3 ?k4 ?k5 ?kK ?kd ?ku ?_; (case k1 => k_asm); (case k2 => k_asm); (case k3 => k_asm); (case k4 => k_asm); (case k5 => k_asm); (case kK => first | exact rfl | assumption); (case kd => ktr_room); (case ku => ktr_units); intro e9 t9 d9 es9 n9 h' tk' F' N' hes9 hne9 hed9 hlt9; (try dsimp only); (try k_fold)))
  k_with "exec Raise some none" => (k_here; refine raise_rule rfl ?_; (try k_fold))
  k_with "RaiseNow" => ((have Xn := Frag.In.keeps (by k_asm) (Fr.keep (by k_asm))); refine' RaiseNow.mk ?k1 ?k2 ?_; (case k1 => exact News.get (by k_asm) List.mem_cons_self); (case k2 => exact Xn _ _ rfl); clear Xn)
  k_with "leaving ref" => (refine' leaveK1 ?k1 ?k2 ?k3 ?_ ?k4; (case k1 => k_asm); (case k2 => k_asm); (case k3 => k_asm); (case k4 => rfl); intro h' hfly' hug' hus'; (try dsimp only))
  k_with "compareOp NotEq ref ref" => refine Stop.mk ?_
  k_with "eval BoolOp" => refine Stop.mk ?_
  k_with "exec If" => refine Stop.mk ?_
  have hval := slc_valid (ks := ks) (a := i + 1) (by omega) (by omega)
  have hen := runEnd_le (ks := ks) (a := i + 1) (by omega) (by omega)
  (unfold CtrX; k_fill; intros; rename_i hret hexc; refine wpAny_call ?_; k_dflt cell_enter)
  k_steps
  with_reducible refine Stop.out ?_
  (with_reducible rename Fr _ _ _ _ => lF')
  (with_reducible rename News _ _ _ _ => lN')
  with_reducible refine evalJ (.bool (closed ks (runEnd ks (i + 1)))) lF' lN' ?jc ?_
  case jc =>
    with_reducible refine BoolOp_and ?_
    k_steps
    · with_reducible refine Stop.out ?_
      with_reducible refine BoolOp_one ?_
      k_steps
      exact JV.mk (congrArg Value.bool (mr_c2 (by with_reducible assumption))) (by k_asm) (by k_asm)
    · exact JV.mk (congrArg Value.bool (mr_c1 (by with_reducible assumption))) (by k_asm) (by k_asm)
  clear lF' lN'
  intro h9 tk9 F9 N9
  k_steps
  with_reducible refine Stop.out ?_
  (with_reducible rename Fr _ _ _ _ => lF')
  (with_reducible rename News _ _ _ _ => lN')
  refine IfJ (decide (runEnd ks (i + 1) = i + 1) && closed ks (runEnd ks (i + 1))) lF' lN' ?t1 ?y1 ?n1
  case t1 =>
    k_steps
    all_goals exact JB.mk (by first | exact mr_t1 (by with_reducible assumption) (by with_reducible assumption) | exact mr_t2 (by with_reducible assumption) (by with_reducible assumption) | exact mr_t3 (by with_reducible assumption)) (by k_asm) (by k_asm)
  case y1 =>
    intro hc1 h8 tk8 F8 N8
    clear lF' lN'
    k_steps
    rename News _ _ _ ((_, _) :: (_, listOf #[Value.int 38 _] _) :: _) => hN
    exact hret _ _ _ _ (RMail.mk (cs := [38]) (mr_one' hc1) (.cons 38 _ .nil) (by decide) (allLt_of (by assumption)) (by assumption)) (by k_asm) hN
  case n1 =>
    intro hc1 h8 tk8 F8 N8
    clear lF' lN'
    k_steps
    with_reducible refine Stop.out ?_
    (with_reducible rename Fr _ _ _ _ => lF')
    (with_reducible rename News _ _ _ _ => lN')
    refine IfJ (decide (bo = some i)) lF' lN' ?t2 ?y2 ?n2
    case t2 =>
      rcases hbo with ⟨rfl, rfl⟩ | ⟨bx, bt, rfl, rfl⟩
      · k_steps
        all_goals exact JB.mk (by first | rfl | (simp; done)) (by k_asm) (by k_asm)
      · k_steps
        all_goals exact JB.mk (by first | (symm; simp only [Option.some.injEq, decide_eq_true_eq, decide_eq_false_iff_not]; omega) | (simp_all; done)) (by k_asm) (by k_asm)
    case y2 =>
      intro hc2 h7 tk7 F7 N7
      clear lF' lN'
      k_steps
      (refine hexc _ _ _ _ _ ⟨rfl, mr_split' hc1 hc2⟩ (by assumption) ⟨_, by k_asm, by assumption⟩)
    case n2 =>
      intro hc2 h7 tk7 F7 N7
      clear lF' lN'
      k_steps
      with_reducible refine Stop.out ?_
      with_reducible refine wpAny_If ?_
      k_steps
      · (refine hexc _ _ _ _ _ ⟨rfl, mr_empty' hc1 (by with_reducible assumption)⟩ (by assumption) ⟨_, by k_asm, by assumption⟩)
      · with_reducible refine Stop.out ?_
        with_reducible refine wpAny_If ?_
        k_steps
        with_reducible refine Stop.out ?_
        with_reducible rename ROut _ _ _ => hO
        have hO3 := hO.2.2
        have hO1 := hO.1
        clear hO
        rcases hO3 with ⟨hO4, cs9, hO5, hO6⟩ | ⟨hO4, hO6⟩
        · change runRes (slc ks (i + 1) (runEnd ks (i + 1))) = _ at hO6
          subst hO4
          refine ke_ne_ints (by is_list) (by is_list) .nil .nil (by ke_room) ?_
          k_steps
          with_reducible refine Stop.out ?_
          with_reducible refine wpAny_If ?_
          k_steps
          · (with_reducible rename _ ∧ _ ∧ _ ∧ _ ∧ AllLt _ _ => hz)
            exact hret _ _ _ _ (RMail.mk (mr_ok (by with_reducible assumption) (by with_reducible assumption) (of_decide_eq_false hc2) hO6) hO5 hO1 (by with_reducible assumption) ⟨hz.2.2.2.1, hz.2.2.2.2⟩) (by k_asm) (cb_drop (by assumption) (by kcj_all))
          · (refine hexc _ _ _ _ _ ⟨rfl, mr_open (by with_reducible assumption) (by with_reducible assumption)⟩ (by assumption) ⟨_, by k_asm, by assumption⟩)
        · change runRes (slc ks (i + 1) (runEnd ks (i + 1))) = _ at hO6
          obtain ⟨v9, r9, hO7⟩ := List.exists_cons_of_ne_nil hO4
          subst hO7
          refine ne_some (by is_list) (by is_list) (by ktr_units) ?_
          k_steps
          (refine hexc _ _ _ _ _ ⟨rfl, mr_fault (by with_reducible assumption) hO6⟩ (by assumption) ⟨_, by k_asm, by assumption⟩)
end

end
section
noncomputable def decF (ks : List Int) : Nat → Int → Option Int → Option (List Int)
  | 0, _, _ => some []
  | n + 1, i, bo =>
    if i < ks.length then
      if ks.getD i.toNat 0 = 38 then
        match mailRun ks i bo with
        | none => none
        | some (cs, p) => (decF ks n p (if p > i + 2 then some p else none)).map (cs ++ ·)
      else if pyDirect (ks.getD i.toNat 0) = true then (decF ks n (i + 1) bo).map (ks.getD i.toNat 0 :: ·)
      else none
    else some []
noncomputable def decAll (ks : List Int) : Option (List Int) := decF ks ks.length 0 none
noncomputable def DecInv (ks : List Int) (i : Int) (bv : Value) (tv : List Value) : Prop :=
  0 ≤ i ∧ i ≤ ks.length ∧ (tv.length : Int) ≤ 1001 * i ∧ ∃ bo cs, ∃ n : Nat, IsOpt bv bo ∧ IntsAre tv cs ∧ ks.length ≤ i + n ∧ decAll ks = (decF ks n i bo).map (cs ++ ·)
noncomputable def RDec (news : List (Addr × Obj)) (r : Option (List Int)) (v : Value) (led : List (Addr × Obj)) : Prop :=
  ∃ l vs n cs, .ref l = v ∧ r = some cs ∧ IntsAre vs cs ∧ (l, listOf vs.toArray n) :: news = led ∧ AllLt l news
theorem RDec.elim {news led : List (Addr × Obj)} {r : Option (List Int)} {v : Value} (h : RDec news r v led) {M : Value → List (Addr × Obj) → Prop} (k : ∀ l vs n cs, r = some cs → IntsAre vs cs → AllLt l news → M (.ref l) ((l, listOf vs.toArray n) :: news)) : M v led := by
  obtain ⟨l, vs, n, cs, rfl, h1, h2, rfl, h3⟩ := h
  exact k l vs n cs h1 h2 h3
section
variable {ks : List Int} {i : Int} {bv : Value} {tv : List Value} {bo : Option Int}
theorem dec_0 (ks : List Int) : DecInv ks 0 .none [] := ⟨by omega, by omega, by decide, none, [], ks.length, .inl ⟨rfl, rfl⟩, .nil, by omega, by unfold decAll; cases decF ks ks.length 0 none <;> simp⟩
theorem mailRun_in (h0 : 0 ≤ i) (h1 : i < ks.length) {cs : List Int} {p : Int} (h : mailRun ks i bo = some (cs, p)) : i + 2 ≤ p ∧ p ≤ ks.length := by
  have hen := runEnd_le (ks := ks) (a := i + 1) (by omega) (by omega)
  have hcl : closed ks (runEnd ks (i + 1)) = true → runEnd ks (i + 1) < ks.length := by
    intro h; unfold closed at h; simp only [Bool.and_eq_true, decide_eq_true_eq] at h; exact h.1
  unfold mailRun at h
  by_cases a : runEnd ks (i + 1) = i + 1 ∧ closed ks (runEnd ks (i + 1)) = true
  · rw [if_pos a] at h; cases h; have := hcl a.2; omega
  · rw [if_neg a] at h
    by_cases b : bo = some i
    · rw [if_pos b] at h; cases h
    · rw [if_neg b] at h
      by_cases c : runEnd ks (i + 1) = i + 1
      · rw [if_pos c] at h; cases h
      · rw [if_neg c] at h
        revert h
        cases runRes (slc ks (i + 1) (runEnd ks (i + 1))) with
        | none => intro h; cases h
        | some q =>
          intro h
          by_cases d : closed ks (runEnd ks (i + 1)) = true
          · simp only [d, if_true] at h; cases h; have := hcl d; omega
          · simp only [d] at h; cases h
theorem dec_opt (h : DecInv ks i bv tv) : ∃ bo, IsOpt bv bo := by obtain ⟨_, _, _, bo, _, _, h, _⟩ := h; exact ⟨bo, h⟩
theorem IsOpt.inj {a b : Option Int} (h : IsOpt bv a) (h' : IsOpt bv b) : a = b := by
  rcases h with ⟨rfl, rfl⟩ | ⟨x, t, rfl, rfl⟩ <;> rcases h' with ⟨e, rfl⟩ | ⟨y, u, e, rfl⟩
  · rfl
  · cases e
  · cases e
  · cases e; rfl
theorem dec_step (h : DecInv ks i bv tv) (hi : i < ks.length) (hb : IsOpt bv bo) : ∃ n cs, IntsAre tv cs ∧ (ks.length : Int) ≤ i + (n + 1 : Nat) ∧ decAll ks = (decF ks (n + 1) i bo).map (cs ++ ·) := by
  obtain ⟨h0, h1, _, bo', cs, n, hb', hi', hn, hd⟩ := h
  cases hb.inj hb'
  cases n with
  | zero => omega
  | succ n => exact ⟨n, cs, hi', hn, hd⟩
theorem dec_plain {t : Tok} (h : DecInv ks i bv tv) (hi : i < ks.length) (a1 : ¬ ks.getD i.toNat 0 = 38) (a2 : pyDirect (ks.getD i.toNat 0) = true) : DecInv ks (i + 1) bv (tv ++ [.int (ks.getD i.toNat 0) t]) := by
  obtain ⟨bo, hb⟩ := dec_opt h
  obtain ⟨n, cs, hc, hn, hd⟩ := dec_step h hi hb
  refine ⟨by have := h.1; omega, by omega, by have := h.2.2.1; simp only [List.length_append, List.length_singleton]; omega, bo, cs ++ [ks.getD i.toNat 0], n, hb, IntsAre.snoc_ hc _ _, by omega, ?_⟩
  rw [hd, decF, if_pos hi, if_neg a1, if_pos a2]
  cases decF ks n (i + 1) bo <;> simp
theorem dec_run {vs : List Value} {cs : List Int} {p : Int} {bv' : Value} (h : DecInv ks i bv tv) (hi : i < ks.length) (a1 : ks.getD i.toNat 0 = 38) (hb : IsOpt bv bo) (hr : mailRun ks i bo = some (cs, p)) (hv : IntsAre vs cs) (hvn : vs.length ≤ 1001)
    (hb' : IsOpt bv' (if p > i + 2 then some p else none)) : DecInv ks p bv' (tv ++ vs) := by
  obtain ⟨n, c1, hc, hn, hd⟩ := dec_step h hi hb
  have hp := mailRun_in h.1 hi hr
  refine ⟨by have := h.1; omega, by omega, by have := h.2.2.1; simp only [List.length_append]; omega, _, c1 ++ cs, n, hb', IntsAre.append hc hv, by omega, ?_⟩
  rw [hd, decF, if_pos hi, if_pos a1, hr]
  dsimp only
  generalize decF ks n p _ = r
  cases r <;> simp
theorem opt_pos {p : Int} {t : Tok} (h : i + 2 < p) : IsOpt (.int p t) (if p > i + 2 then some p else none) := by rw [if_pos h]; exact .inr ⟨_, _, rfl, rfl⟩
theorem opt_neg {p : Int} (h : ¬ i + 2 < p) : IsOpt .none (if p > i + 2 then some p else none) := by rw [if_neg h]; exact .inl ⟨rfl, rfl⟩
theorem dec_none (h : DecInv ks i bv tv) (hi : i < ks.length) (a1 : ks.getD i.toNat 0 = 38) (hb : IsOpt bv bo) (hr : mailRun ks i bo = none) : decAll ks = none := by
  obtain ⟨n, c1, hc, hn, hd⟩ := dec_step h hi hb
  rw [hd, decF, if_pos hi, if_pos a1, hr]; rfl
theorem dec_bad (h : DecInv ks i bv tv) (hi : i < ks.length) (a1 : ¬ ks.getD i.toNat 0 = 38) (a2 : pyDirect (ks.getD i.toNat 0) = false) : decAll ks = none := by
  obtain ⟨bo, hb⟩ := dec_opt h
  obtain ⟨n, c1, hc, hn, hd⟩ := dec_step h hi hb
  rw [hd, decF, if_pos hi, if_neg a1, if_neg (by rw [a2]; decide)]; rfl
theorem dec_end (h : DecInv ks i bv tv) (hi : ¬ i < ks.length) : ∃ cs, decAll ks = some cs ∧ IntsAre tv cs := by
  obtain ⟨_, _, _, bo, cs, n, hb, hc, hn, hd⟩ := h
  refine ⟨cs, ?_, hc⟩
  rw [hd]
  cases n with
  | zero => simp [decF]
  | succ n => rw [decF, if_neg hi]; simp
end
section
variable {prog : Program} {w : World} {A : Around} {E : Value → Shared → Prop} {s : Shared} {h₀ h : Heap} {L D b d : Addr} {o : Obj} {m : Str → Option Value} {r : List (Addr × Obj)} {tv vs : List Value} {n n2 : Nat}
theorem ext_any {Q : Value → Shared → Prop} (F : Fr h₀ L s.heap m) (N : News h₀ L s.heap ((d, o) :: (b, listOf vs.toArray n2) :: (D, listOf tv.toArray n) :: r)) (h1 : D < b ∧ AllLt b r) (h2 : b < d ∧ D < d ∧ AllLt d r) (h3 : ∀ p ∈ r, p.1 < D)
    (hz : tv.length ≤ 2000000) (hz2 : vs.length ≤ 2000) (h : ∀ h' n', Fr h₀ L h' m → News h₀ L h' ((D, listOf (tv ++ vs).toArray n') :: r) → Q .none { s with heap := h' }) :
    wpAny (model prog w) A (call (.builtin "list.extend") [.ref D, .ref b]) Q E s := by
  have hsz : sizeLine = 16777216 := by decide
  have u1 : d ≠ D := by intro e; subst e; exact Nat.lt_irrefl _ h2.2.1
  have u2 : b ≠ D := by intro e; subst e; exact Nat.lt_irrefl _ h1.1
  have u3 : ∀ p ∈ r, p.1 ≠ D := fun p hp e => Nat.lt_irrefl _ (e ▸ h3 p hp)
  have hm : (b, listOf vs.toArray n2) ∈ (d, o) :: (b, listOf vs.toArray n2) :: (D, listOf tv.toArray n) :: r := List.mem_cons_of_mem _ List.mem_cons_self
  have hd : ¬(!tv.toArray.isEmpty && Builtin.List.listTooLong (tv.toArray.size + vs.toArray.size)) = true := by
    simp only [Builtin.List.listTooLong, List.size_toArray, Bool.and_eq_true, decide_eq_true_eq, not_and]; intro _; omega
  by_cases hv : vs = []
  · subst hv
    exact kxn_extend F N hm rfl (.tail u1 (.tail u2 (.head u3))) hd (by show tv.length ≤ _; omega) (by simp only [List.size_toArray]; omega) fun h' F' N' => h h' n F' (by rw [List.append_nil]; exact News.tail (News.tail N'))
  · exact kl_extend F N hm rfl (by show vs.length ≠ 0; cases vs with | nil => exact absurd rfl hv | cons a q => simp) (.tail u1 (.tail u2 (.head u3))) hd (by show tv.length ≤ _; omega) (by simp only [List.size_toArray]; omega) fun h' F' N' => h h' (n + 1) F' (News.tail (News.tail N'))
end
section
set_option maxHeartbeats 2000000 in
theorem decode_ctr (w : World) (news : List (Addr × Obj)) (b : Array UInt8) (ks : List Int) (t : Tok) (hb : KBw.bInts b = ks) (hlen : ks.length ≤ 1000) :
    CtrX w 171 [.bytes b t] news 5 140 (RDec news (decAll ks)) (fun C => C = 45 ∧ decAll ks = none) := by
  k_with_none
  k_with "execs cons" => first | (k_here; k_gentoks) | ((with_reducible refine wpAny_execs_cons ?_); (try dsimp only); (try k_fold))
  k_with "eval Call" => ((with_reducible show wpAny _ _ (eval (Expr.Call (Expr.Name _ _) _ [] _) _) _ _ _); refine Call_ ?_)
  k_with "call ref" => (k_here; first | (refine' CtrX.use (mail_run_ctr _ _ _ _ _ _ _ _ _ (by assumption) (by assumption) (by first | with_reducible assumption | omega) (by first | with_reducible assumption | omega) (by with_reducible assumption)) ?k1 ?k2 ?k3 ?k4 ?k5 ?kK ?kd ?ku ?kr ?ke; (case k1 => k_asm); (case k2 => k_asm); (case k3 => k_asm); (case k4 => k_asm); (case k5 => k_asm); (case kK => first | exact rfl | assumption); (case kd => ktr_room); (case ku => ktr_units); (case' kr => (intro cv cled h' tk' hR F' N'; revert N'; apply RMail.elim hR; clear hR; intro d9 l9 vs9 n9 cs9 x9 t9 hr9 hi9 hn9 hA1 hA2 N'; (have hp9 := mailRun_in (by with_reducible assumption) (by with_reducible assumption) hr9); (try simp only [AllLt, and_true] at hA1 hA2); (try dsimp only); (try k_fold))); (case' ke => (intro e9 C9 dd9 h' tk' hR hfly' hug'; obtain ⟨hC9, hM9⟩ := hR; subst hC9; (try dsimp only); (try k_fold)))) | (refine' Ctr.use (direct_ctr _ _ _ _) ?k1 ?k2 ?k3 ?k4 ?k5 ?kK ?kd ?ku ?_; (case k1 => k_asm); (case k2 => k_asm); (case k3 => k_asm); (case k4 => k_asm); (case k5 => k_asm); (case kK => first | exact rfl | assumption); (case kd => ktr_room); (case ku => ktr_units); intro cv cled h' tk' hR F' N'; revert N'; apply RBool.elim hR; clear hR; intro N'; (try dsimp only); (try k_fold)) | (refine' make_exc (excC_45 _) ⟨_, _, _, _, _, _, _, _, _, _, _, _, _, _, _, rfl⟩ rfl ⟨_, rfl, rfl⟩ ?k1 ?k2 ?k3 ?k4 ?k5 ?kK ?kd ?ku ?_; (case k1 => k_asm); (case k2 => k_asm); (case k3 => k_asm); (case k4 => k_asm); (case k5 => k_asm); (case kK => first | exact rfl | assumption); (case kd => ktr_room); (case ku => ktr_units); intro e9 t9 d9 es9 n9 h' tk' F' N' hes9 hne9 hed9 hlt9; (try dsimp only); (try k_fold)))
  k_with "exec Raise some none" => (k_here; refine raise_rule rfl ?_; (try k_fold))
  k_with "RaiseNow" => ((have Xn := Frag.In.keeps (by k_asm) (Fr.keep (by k_asm))); refine' RaiseNow.mk ?k1 ?k2 ?_; (case k1 => exact News.get (by k_asm) List.mem_cons_self); (case k2 => exact Xn _ _ rfl); clear Xn)
  k_with "leaving ref" => first | (refine' leaveK1 ?k1 ?k2 ?k3 ?_ ?k4; (case k1 => k_asm); (case k2 => k_asm); (case k3 => k_asm); (case k4 => rfl); intro h' hfly' hug' hus'; (try dsimp only)) | (refine' leaveK2 ?k1 ?k2 ?k3 ?_; (case k1 => k_asm); (case k2 => assumption); (case k3 => assumption); intro h' hfly' hug' hus'; (try dsimp only))
  k_with "call builtin:list.extend" => (k_here; refine' ext_any ?F ?N ?a1 ?a2 ?a3 ?z1 ?z2 ?_; (case F => k_asm); (case N => k_asm); (case a1 => with_reducible assumption); (case a2 => with_reducible assumption); (case a3 => with_reducible assumption); (case z1 => with_reducible assumption); (case z2 => omega); intro h' n' F' N'; (try dsimp only); (try k_fold))
  k_with "exec While Compare cons nil" => refine Stop.mk ?_
  (unfold CtrX; k_fill; intros; rename_i hret hexc; refine wpAny_call ?_; k_dflt cell_enter)
  k_steps
  refine Stop.out ?_
  rename Fr _ _ _ _ => lF'
  rename News _ _ _ _ => lN'
  rename_i lt hh1 l1t D0 hh2 l1d hh3 hh4 hh5 hh6
  refine' ksw_while (σ := Int × Tok × Value × List Value × Nat) (fun c => (lt, listOf c.2.2.2.1.toArray c.2.2.2.2) :: news) (fun c => [(Str.ofString "at", .int c.1 c.2.1), (Str.ofString "behind", c.2.2.1)]) (fun c => True) [Str.ofString "octet", Str.ofString "codes", Str.ofString "place"]
    (fun c => DecInv ks c.1 c.2.2.1 c.2.2.2.1) (fun c => (ks.length - c.1).toNat) (0, _, .none, [], 0) lF' (News.tail lN') trivial ?kk ?kp ?turn
  case kk => kst_all
  case kp => exact dec_0 ks
  rintro ⟨i, ti, bv, tv, n⟩ uu h9 tk9 - hOk F9 N9
  clear lF' lN'
  dsimp only at hOk F9 N9 ⊢
  simp only [kstB] at F9
  have hi0 : 0 ≤ i := hOk.1
  have hi1 : i ≤ ks.length := hOk.2.1
  have htl : tv.length ≤ 2000000 := by have := hOk.2.2.1; omega
  obtain ⟨bo, hbo⟩ := dec_opt hOk
  have kMark := kstMark
  (k_with "state" => (first | exact dec_plain (by assumption) (by assumption) (by assumption) (by assumption) | exact dec_run (by assumption) (by assumption) (by assumption) (by assumption) (by assumption) (by assumption) (by assumption) (opt_pos (by assumption)) | exact dec_run (by assumption) (by assumption) (by assumption) (by assumption) (by assumption) (by assumption) (by assumption) (opt_neg (by assumption))))
  k_steps
  · exact hexc _ _ _ _ _ ⟨rfl, dec_none hOk (by with_reducible assumption) (by with_reducible assumption) hbo (by with_reducible assumption)⟩ (by assumption) ⟨_, by k_asm, by assumption⟩
  · exact hexc _ _ _ _ _ ⟨rfl, dec_bad hOk (by with_reducible assumption) (by with_reducible assumption) (by with_reducible assumption)⟩ (by assumption) ⟨_, by k_asm, by assumption⟩
  · obtain ⟨cs, e1, e2⟩ := dec_end hOk (by with_reducible assumption)
    exact hret _ _ _ _ ⟨lt, tv, n, cs, rfl, e1, e2, rfl, allLt_of l1t⟩ (by k_asm) (by k_asm)
end

end
section
namespace BL
open Builtin
theorem attempt_int (x : Int) (u : Tok) : (asIndex (.int x u)).attempt = pure (.ok x) := by kernel_rfl
theorem containsIn_eq {id : String} {b : Array UInt8} {t u : Tok} {x : Int} (h0 : 0 ≤ x) (h1 : x < 256) : Bytes.containsIn id (.bytes b t) (.int x u) = pure (b.contains x.toNat.toUInt8) := by
  unfold Bytes.containsIn
  rw [attempt_int, KBy.buffer_eq]
  show (if (x < 0 || x ≥ 256) = true then _ else _) = _
  rw [if_neg (by simp; omega)]
theorem meets_contains (b : Array UInt8) (t u : Tok) (x : Int) (h0 : 0 ≤ x) (h1 : x < 256) :
    Meets («bytes.__contains__» ⟨[.bytes b t, .int x u], []⟩) (fun _ R s => R (.ok (.ret (.bool (b.contains x.toNat.toUInt8)))) s) := by
  refine .of_wp fun prog w A R s h => ?_
  show wpAny _ _ (Bytes.containsIn "bytes.__contains__" (.bytes b t) (.int x u) >>= fun r => _) _ _ s
  refine wpAny_bind (wpAny_of_eq (containsIn_eq h0 h1) ?_)
  exact wpAny_pure ⟨_, rfl, h⟩
section
variable {prog : Program} {w : World} {A : Around} {E : Value → Shared → Prop} {s : Shared} {b : Array UInt8} {ks : List Int} {x : Int} {t u : Tok} {Q : Value → Shared → Prop}
theorem contains_ints (hk : KBw.bInts b = ks) (h0 : 0 ≤ x) (h1 : x < 256) : b.contains x.toNat.toUInt8 = decide (x ∈ ks) := by
  subst hk
  rw [Bool.eq_iff_iff]
  simp only [Array.contains_iff_mem, decide_eq_true_eq, KBw.bInts, List.mem_map]
  constructor
  · intro h
    refine ⟨_, by simpa using h, ?_⟩
    show ((UInt8.ofNat x.toNat).toNat : Int) = x
    rw [UInt8.toNat_ofNat']
    omega
  · rintro ⟨c, hc, e⟩
    have : x.toNat.toUInt8 = c := by rw [← e]; simp
    rw [this]; simpa using hc
theorem notIn_bytes (hk : KBw.bInts b = ks) (h0 : 0 ≤ x) (h1 : x < 256) (h : Q (.bool (!decide (x ∈ ks))) s) : wpAny (model prog w) A (compareOp .NotIn (.int x u) (.bytes b t)) Q E s :=
  PySem.SeqRoads2.notIn_meets (typeIs_bytes s b t) FB.slot_bytes_contains FB.entry_bytes_contains (FB.args_bytes_contains_2 _ _) (meets_contains b t u x h0 h1) ⟨_, rfl, by rw [contains_ints hk h0 h1]; exact h⟩
end
end BL

end
section
namespace BL
open Builtin
theorem slot_bytes_index : Slot "bytes" "index" "bytes.index" :=
  .of (owner := "bytes") (n := "index") (by rw [typeLookup_type, builtinLookup_eq_fast]; kernel_rfl) (by decide +kernel) (by decide +kernel) (by decide +kernel)
    (by first | exact .inl (by decide +kernel) | exact .inr (by decide +kernel)) (by rw [isSubtype_type]; kernel_rfl)
theorem type_bytes_index : typeOf (.builtin "bytes.index") = pure (.type "method_descriptor") := by show builtinType _ = _; rw [builtinType_eq_fast]; kernel_rfl
theorem entry_bytes_index : entryFor table "bytes.index" = some Builtin.«bytes.index» := entryFor_of_tree (by kernel_rfl)
theorem args_bytes_index_2 (a b : Value) : argsOk "bytes.index" ⟨[a, b], []⟩ := by
  unfold argsOk; rw [signature?_of (id := "bytes.index") (n := ['x', 'e', 'd', 'n', 'i']) (o := ['s', 'e', 't', 'y', 'b']) (by kernel_rfl) FB.owner_bytes]; kernel_rfl
theorem slot_bytes_find : Slot "bytes" "find" "bytes.find" :=
  .of (owner := "bytes") (n := "find") (by rw [typeLookup_type, builtinLookup_eq_fast]; kernel_rfl) (by decide +kernel) (by decide +kernel) (by decide +kernel)
    (by first | exact .inl (by decide +kernel) | exact .inr (by decide +kernel)) (by rw [isSubtype_type]; kernel_rfl)
theorem type_bytes_find : typeOf (.builtin "bytes.find") = pure (.type "method_descriptor") := by show builtinType _ = _; rw [builtinType_eq_fast]; kernel_rfl
theorem entry_bytes_find : entryFor table "bytes.find" = some Builtin.«bytes.find» := entryFor_of_tree (by kernel_rfl)
theorem args_bytes_find_3 (a b c : Value) : argsOk "bytes.find" ⟨[a, b, c], []⟩ := by
  unfold argsOk; rw [signature?_of (id := "bytes.find") (n := ['d', 'n', 'i', 'f']) (o := ['s', 'e', 't', 'y', 'b']) (by kernel_rfl) FB.owner_bytes]; kernel_rfl
section
variable {b c : Array UInt8} {t u v : Tok} {x a : Int} {ks : List Int}
theorem buffer_int {id : String} : Bytes.buffer? id (.int x u) = pure none := by
  unfold Bytes.buffer?
  kernel_rfl
theorem bound_int : Bytes.bound? (some (.int x u)) = pure (some x) := by kernel_rfl
theorem special_index : specialOf (.int x u) "__index__" = pure (some (.builtin "int.__index__")) := by kernel_rfl
theorem held_int : Bytes.indexHeld [.bytes b t] (.int x u) = pure x := by kernel_rfl
theorem some_index (y : Value) : selfAndSome "bytes.index" "index" 1 3 ⟨[.bytes b t, y], []⟩ = pure (.bytes b t, [y]) := by kernel_rfl
theorem some_find (y z : Value) : selfAndSome "bytes.find" "find" 1 3 ⟨[.bytes b t, y, z], []⟩ = pure (.bytes b t, [y, z]) := by kernel_rfl
theorem window_none (n : Nat) : Bytes.window n none none = (0, (n : Int)) := by
  unfold Bytes.window
  simp only [Option.getD_none, Prod.mk.injEq]
  refine ⟨rfl, ?_⟩
  rw [if_neg (by omega)]
  exact Int.min_self _
theorem searchArgs_index (h0 : 0 ≤ x) (h1 : x < 256) (hb : 0 < b.size) : Bytes.searchArgs .bytes "index" ⟨[.bytes b t, .int x u], []⟩ = pure (b, #[x.toNat.toUInt8], some (0, b.size)) := by
  unfold Bytes.searchArgs
  show (selfAndSome "bytes.index" "index" 1 3 ⟨[.bytes b t, .int x u], []⟩ >>= fun r => _) = _
  rw [some_index]
  show (Bytes.buffer? "bytes.index" (.int x u) >>= fun r => _) = _
  rw [buffer_int]
  show (specialOf (.int x u) "__index__" >>= fun r => _) = _
  rw [special_index]
  show (Bytes.indexHeld [.bytes b t] (.int x u) >>= fun r => _) = _
  rw [held_int]
  show (if (x < 0 || x ≥ 256) = true then _ else _) = _
  rw [if_neg (by simp; omega)]
  show (pure (b, #[x.toNat.toUInt8], if (Bytes.window b.size none none).2 - (Bytes.window b.size none none).1 < ((1 : Nat) : Int) then none else some ((Bytes.window b.size none none).1.toNat, (Bytes.window b.size none none).2.toNat)) : Sem _) = _
  rw [window_none, if_neg (by show ¬ ((b.size : Int) - 0 < ((1 : Nat) : Int)); omega)]
  rfl
theorem extract_one (b : Array UInt8) (i : Nat) (h : i < b.size) (c : UInt8) : (b.extract i (i + 1) == #[c]) = (b[i] == c) := by
  have e : b.extract i (i + 1) = #[b[i]] := by
    apply Array.ext
    · simp; omega
    · intro k h1 h2
      have : k = 0 := by simp at h2; omega
      subst this
      simp
  rw [e]
  simp
theorem at_eq (b : Array UInt8) (i : Nat) (h : i < b.size) (y : Int) (h0 : 0 ≤ y) (h1 : y < 256) : (b[i] == y.toNat.toUInt8) = decide ((KBw.bInts b)[i]'(by rw [KBw.ints_length]; exact h) = y) := by
  rw [Bool.eq_iff_iff]
  simp only [beq_iff_eq, decide_eq_true_eq, KBw.bInts, List.getElem_map, Array.getElem_toList]
  constructor
  · intro e
    rw [e]
    show ((UInt8.ofNat y.toNat).toNat : Int) = y
    rw [UInt8.toNat_ofNat']
    omega
  · intro e
    rw [← e]; simp
theorem find_range (l : List Int) (y : Int) (b : Array UInt8) (hk : KBw.bInts b = l) (h0 : 0 ≤ y) (h1 : y < 256) (hm : y ∈ l) :
    Bytes.find? b #[y.toNat.toUInt8] 0 b.size = some (l.idxOf y) := by
  subst hk
  unfold Bytes.find?
  have hlt : (KBw.bInts b).idxOf y < b.size := by rw [← KBw.ints_length]; exact List.idxOf_lt_length_of_mem hm
  have e : (fun x : Nat => x + 0) = _root_.id := rfl
  show List.find? _ (List.map (fun x => x + 0) (List.range (b.size + 1 - (0 + 1)))) = _
  rw [e, List.map_id, Nat.zero_add, Nat.add_sub_cancel, List.find?_range_eq_some]
  refine ⟨?_, List.mem_range.mpr hlt, fun j hj => ?_⟩
  · show (b.extract _ (_ + 1) == _) = true
    rw [extract_one b _ hlt, at_eq b _ hlt y h0 h1]
    simp
  · show (!(b.extract _ (_ + 1) == _)) = true
    rw [extract_one b _ (by omega), at_eq b _ (by omega) y h0 h1]
    have := List.not_of_lt_findIdx (p := (· == y)) hj
    simpa using this
theorem meets_index (hk : KBw.bInts b = ks) (h0 : 0 ≤ x) (h1 : x < 256) (hm : x ∈ ks) :
    Meets («bytes.index» ⟨[.bytes b t, .int x u], []⟩) (fun _ R s => ∀ t' k, R (.ok (.ret (.int (ks.idxOf x) t'))) { s with toks := k }) := by
  refine .of_wp fun prog w A R s h => ?_
  have hb : 0 < b.size := by rw [← KBw.ints_length, hk]; cases ks with | nil => cases hm | cons a r => simp
  show wpAny _ _ (Bytes.searchArgs .bytes "index" ⟨[.bytes b t, .int x u], []⟩ >>= fun r => _) _ _ s
  refine wpAny_bind (wpAny_of_eq (searchArgs_index h0 h1 hb) ?_)
  show wpAny _ _ (match (Bytes.find? b #[x.toNat.toUInt8] 0 b.size) with | some i => _ | none => _) _ _ s
  rw [find_range ks x b hk h0 h1 hm]
  show wpAny _ _ (retInt _) _ _ s
  unfold retInt
  exact wpAny_bind (wpAny_mkInt (wpAny_pure ⟨_, rfl, h _ _⟩))
end
end BL

end
section
namespace BL
open Builtin
section
variable {prog : Program} {w : World} {A : Around} {E : Value → Shared → Prop} {s : Shared} {b c : Array UInt8} {ks ls : List Int} {x a : Int} {t u v : Tok}
theorem m_index {M : Model} {pl : Sem Bool} {Q : Value × List Value → Shared → Prop} (h : Q (.builtin "bytes.index", [.bytes b t]) s) : wpAny M A (getMethod (.bytes b t) "index" pl) Q E s := by
  with_reducible exact KBd.method_of (.bytes b t) (typeIs_bytes _ _ _) slot_bytes_index type_bytes_index KBd.noRef h
theorem m_find {M : Model} {pl : Sem Bool} {Q : Value × List Value → Shared → Prop} (h : Q (.builtin "bytes.find", [.bytes b t]) s) : wpAny M A (getMethod (.bytes b t) "find" pl) Q E s := by
  with_reducible exact KBd.method_of (.bytes b t) (typeIs_bytes _ _ _) slot_bytes_find type_bytes_find KBd.noRef h
theorem index_K {Q : Value → Shared → Prop} (hk : KBw.bInts b = ks) (h0 : 0 ≤ x) (h1 : x < 256) (hm : x ∈ ks) (h : ∀ t' k, Q (.int (ks.idxOf x) t') { s with toks := k }) : wpAny (model prog w) A (call (.builtin "bytes.index") [.bytes b t, .int x u]) Q E s :=
  call_meets slot_bytes_index (typeIs_bytes _ _ _) entry_bytes_index (args_bytes_index_2 _ _) (meets_index hk h0 h1 hm) h
end
end BL

end
section
namespace BL
open Builtin
theorem find_congr {α : Type} {p q : α → Bool} : ∀ {l : List α}, (∀ x ∈ l, p x = q x) → l.find? p = l.find? q := by
  intro l
  induction l with
  | nil => intro _; rfl
  | cons x r ih =>
    intro h
    rw [List.find?_cons, List.find?_cons, h x List.mem_cons_self, ih fun y hy => h y (List.mem_cons_of_mem _ hy)]
theorem range_find {q : Int → Bool} : ∀ l : List Int, (List.range l.length).find? (fun i => q (l.getD i 0)) = l.findIdx? q := by
  intro l
  induction l with
  | nil => rfl
  | cons x r ih =>
    rw [List.length_cons, List.range_succ_eq_map, List.find?_cons, List.findIdx?_cons]
    show (match q x with | true => some 0 | false => _) = _
    cases q x with
    | true => rfl
    | false =>
      show List.find? _ (List.map Nat.succ (List.range r.length)) = _
      rw [List.find?_map]
      show Option.map _ (List.find? (fun i => q (r.getD i 0)) (List.range r.length)) = _
      rw [ih]; rfl
/-- where the sign y stands in ks at or behind a -/
noncomputable def findAt (ks : List Int) (y : Int) (a : Nat) : Option Nat := ((ks.drop a).findIdx? fun x => decide (x = y)).map (· + a)
noncomputable def findInt (ks : List Int) (y : Int) (a : Nat) : Int := match findAt ks y a with | some i => (i : Int) | none => -1
theorem find_at (l : List Int) (y : Int) (b : Array UInt8) (hk : KBw.bInts b = l) (h0 : 0 ≤ y) (h1 : y < 256) (a : Nat) (ha : a < b.size) :
    Bytes.find? b #[y.toNat.toUInt8] a b.size = findAt l y a := by
  subst hk
  unfold Bytes.find? findAt
  show List.find? _ (List.map (fun x => x + a) (List.range (b.size + 1 - (a + 1)))) = _
  rw [List.find?_map]
  have hl : b.size + 1 - (a + 1) = ((KBw.bInts b).drop a).length := by rw [List.length_drop, KBw.ints_length]; omega
  rw [hl, ← range_find]
  congr 1
  refine find_congr fun i hi => ?_
  have hi := List.mem_range.mp hi
  rw [← hl] at hi
  show (b.extract (i + a) (i + a + 1) == _) = _
  rw [extract_one b _ (by omega), at_eq b _ (by omega) y h0 h1]
  congr 2
  rw [List.getD_eq_getElem?_getD, List.getElem?_drop, List.getElem?_eq_getElem (by rw [KBw.ints_length]; omega), Option.getD_some]
  congr 1
  omega
section
variable {b : Array UInt8} {t u v : Tok} {x a : Int} {ks : List Int}
theorem window_some {n : Nat} (h0 : 0 ≤ a) : Bytes.window n (some a) none = (a, (n : Int)) := by
  unfold Bytes.window
  simp only [Option.getD_none, Option.getD_some, Prod.mk.injEq]
  refine ⟨by rw [if_neg (by omega)], ?_⟩
  rw [if_neg (by omega)]
  exact Int.min_self _
theorem searchArgs_find {c : Array UInt8} (h0 : 0 ≤ a) (h1 : a < b.size) (hc : c.size = 1) : Bytes.searchArgs .bytes "find" ⟨[.bytes b t, .bytes c u, .int a v], []⟩ = pure (b, c, some (a.toNat, b.size)) := by
  unfold Bytes.searchArgs
  show (selfAndSome "bytes.find" "find" 1 3 ⟨[.bytes b t, .bytes c u, .int a v], []⟩ >>= fun r => _) = _
  rw [some_find]
  show (Bytes.bound? (some (.int a v)) >>= fun r => _) = _
  rw [bound_int]
  show (Bytes.buffer? "bytes.find" (.bytes c u) >>= fun r => _) = _
  rw [KBy.buffer_eq]
  show (pure (b, c, if (Bytes.window b.size (some a) none).2 - (Bytes.window b.size (some a) none).1 < ((c.size : Nat) : Int) then none else some ((Bytes.window b.size (some a) none).1.toNat, (Bytes.window b.size (some a) none).2.toNat)) : Sem _) = _
  rw [window_some h0, if_neg (by show ¬ ((b.size : Int) - a < ((c.size : Nat) : Int)); rw [hc]; omega)]
  rfl
theorem meets_find (hk : KBw.bInts b = ks) (h0 : 0 ≤ x) (h1 : x < 256) (ha : 0 ≤ a) (hb : a < b.size) :
    Meets («bytes.find» ⟨[.bytes b t, .bytes #[x.toNat.toUInt8] u, .int a v], []⟩) (fun _ R s => ∀ t' k, R (.ok (.ret (.int (findInt ks x a.toNat) t'))) { s with toks := k }) := by
  refine .of_wp fun prog w A R s h => ?_
  show wpAny _ _ (Bytes.searchArgs .bytes "find" ⟨[.bytes b t, .bytes #[x.toNat.toUInt8] u, .int a v], []⟩ >>= fun r => _) _ _ s
  refine wpAny_bind (wpAny_of_eq (searchArgs_find ha hb rfl) ?_)
  show wpAny _ _ (match (Bytes.find? b #[x.toNat.toUInt8] a.toNat b.size) with | some i => _ | none => _) _ _ s
  rw [find_at ks x b hk h0 h1 a.toNat (by omega)]
  unfold findInt at h
  cases e : findAt ks x a.toNat with
  | some i =>
    rw [e] at h
    show wpAny _ _ (retInt _) _ _ s
    unfold retInt
    exact wpAny_bind (wpAny_mkInt (wpAny_pure ⟨_, rfl, h _ _⟩))
  | none =>
    rw [e] at h
    refine wpAny_bind (wpAny_rule ?_)
    show wpAny _ _ (retInt _) _ _ s
    unfold retInt
    exact wpAny_bind (wpAny_mkInt (wpAny_pure ⟨_, rfl, h _ _⟩))
variable {prog : Program} {w : World} {A : Around} {E : Value → Shared → Prop} {s : Shared}
theorem find_K {Q : Value → Shared → Prop} (hk : KBw.bInts b = ks) (h0 : 0 ≤ x) (h1 : x < 256) (ha : 0 ≤ a) (hb : a < b.size) (h : ∀ t' k, Q (.int (findInt ks x a.toNat) t') { s with toks := k }) :
    wpAny (model prog w) A (call (.builtin "bytes.find") [.bytes b t, .bytes #[x.toNat.toUInt8] u, .int a v]) Q E s :=
  call_meets slot_bytes_find (typeIs_bytes _ _ _) entry_bytes_find (args_bytes_find_3 _ _ _) (meets_find hk h0 h1 ha hb) h
end
end BL

end
section
section
variable {α β : Type} {M : Model} {A : Around} {E : Value → Shared → Prop} {s : Shared}
theorem G_of {t : Sem α} {Q : α → Shared → Prop} (h : wpAny M A t Q E s) : wpG M A t Q E s := fun Γ p hΓ _ _ => h Γ p hΓ
theorem G_pure {a : α} {Q : α → Shared → Prop} (h : Q a s) : wpG M A (pure a) Q E s := fun _ _ _ _ _ => h
theorem G_mono {t : Sem α} {Q Q' : α → Shared → Prop} {E' : Value → Shared → Prop} (h : wpG M A t Q E s)
    (hQ : ∀ a s, Q a s → Q' a s) (hE : ∀ e s, E e s → E' e s) : wpG M A t Q' E' s :=
  fun Γ p hΓ a b => Sem.wp_mono M Γ t (fun a _ s => hQ a s) (fun e _ s => hE e s) p s (h Γ p hΓ a b)
theorem G_bind {m : Sem α} {f : α → Sem β} {Q : β → Shared → Prop} (h : wpG M A m (fun a s' => wpG M A (f a) Q E s') E s) :
    wpG M A (m >>= f) Q E s := fun Γ p hΓ a b => by
  rw [Sem.wp_bind']
  exact Sem.wp_mono M Γ m (fun x p' s' h' => h' Γ p' hΓ a b) (fun _ _ _ h' => h') p s (h Γ p hΓ a b)
theorem G_bindA {m : Sem α} {f : α → Sem β} {Q : β → Shared → Prop} (h : wpAny M A m (fun a s' => wpG M A (f a) Q E s') E s) :
    wpG M A (m >>= f) Q E s := G_bind (G_of h)
theorem G_onRaise {m : Sem α} {k : Value → Sem Unit} {Q : α → Shared → Prop}
    (h : wpG M A m Q (fun e s' => wpG M A (k e) (fun _ s'' => E e s'') E s') s) : wpG M A (m.onRaise k) Q E s := fun Γ p hΓ a b => by
  rw [Sem.wp_onRaise]
  exact Sem.wp_mono M Γ m (fun _ _ _ h' => h') (fun e p' s' h' => h' Γ p' hΓ a b) p s (h Γ p hΓ a b)
theorem G_tryCatch {m : Sem α} {k : Value → Sem α} {Q : α → Shared → Prop} (h : wpG M A m Q (fun e s' => wpG M A (k e) Q E s') s) :
    wpG M A (tryCatch m k) Q E s := fun Γ p hΓ a b => by
  rw [Sem.wp_tryCatch']
  exact Sem.wp_mono M Γ m (fun _ _ _ h' => h') (fun e p' s' h' => h' Γ p' hΓ a b) p s (h Γ p hΓ a b)
theorem G_holding {vs : List Value} {m : Sem α} {Q : α → Shared → Prop} (h : wpG M A m Q E s) : wpG M A (holding vs m) Q E s :=
  fun Γ p hΓ a b => by rw [Sem.wp_holding]; exact h Γ p hΓ a b
theorem G_keep {vs : List Value} {m : Sem α} {Q : α → Shared → Prop} (h : wpG M A m Q E s) : wpG M A (m.keep vs) Q E s :=
  fun Γ p hΓ a b => by rw [Sem.wp_keep]; exact h Γ p hΓ a b
theorem G_enter {Γ : PySem.Ctx} {p : Pos} (a : okCode Γ.code = true) (b : OkSt Γ.below) {c : Code} {h : Option Value} : OkSt (Γ.enter c h p).below := by
  intro x hx
  rcases List.mem_cons.mp hx with rfl | hx
  · exact a
  · exact b x hx
theorem G_run {c : Code} {h : Option Value} {Q : Flow → Shared → Prop}
    (hc : codeG M (A.mark h) c (fun r s' => match r with | .ok f => Q f s' | .error e => E e s') s) (hnb : h ≠ some byPass := by intro x; cases x) :
    wpG M A (run c h) Q E s :=
  fun Γ p hΓ a b => by rw [Sem.wp_run]; exact hc _ p rfl (hΓ.enter c h p hnb) (G_enter a b)
theorem G_runValue {c : Code} {Q : Value → Shared → Prop}
    (hc : codeG M A c (fun r s' => match r with | .ok (.ret v) => Q v s' | .ok _ => False | .error e => E e s') s) :
    wpG M A (runValue c) Q E s := fun Γ p hΓ a b => by rw [Sem.wp_runValue]; exact hc _ p rfl (hΓ.enter c none p (by intro x; cases x)) (G_enter a b)
theorem G_call {f : Value} {pos : List Value} {kw : List (Str × Value)} {Q : Value → Shared → Prop}
    (hc : codeG M A (.call f ⟨pos, kw⟩) (fun r s' => match r with | .ok (.ret v) => Q v s' | .ok _ => False | .error e => E e s') s) :
    wpG M A (call f pos kw) Q E s := G_runValue hc
theorem codeG_of_tree {c : Code} {R : Result → Shared → Prop} (hk : okCode c = true)
    (h : wpG M (A.under c) (M.den c) (fun fin s' => match fin with | .done f => R (.ok f) s' | .again c' => c'.quiet = true ∧ codeG M A c' R s')
      (fun e s' => R (.error e) s') s) : codeG M A c R s := fun Γ p hc hΓ b => by
  rw [wpCode_iff_wp, hc]
  refine Sem.wp_mono M Γ _ (fun fin p' s' h' => ?_) (fun _ _ _ h' => h') p s (h Γ p (hc ▸ hΓ.in) (hc ▸ hk) b)
  cases fin with
  | done f => exact h'
  | again c' => exact ⟨h'.1, h'.2 (Γ.goto c') p' rfl (hΓ.goto c') b⟩
theorem codeG_of {c : Code} {R : Result → Shared → Prop} (h : codeAny M A c R s) : codeG M A c R s := fun Γ p hc hΓ _ => h Γ p hc hΓ
theorem codeG_mono {c : Code} {R R' : Result → Shared → Prop} (h : codeG M A c R s) (hR : ∀ r s, R r s → R' r s) : codeG M A c R' s :=
  fun Γ p hc hΓ b => wpCode_mono hR (h Γ p hc hΓ b)
theorem codeG_loop {c : Code} {R : Result → Shared → Prop} (hq : c.quiet = true) (hk : okCode c = true) (I : Nat → Shared → Prop)
    (turn : ∀ n s, I n s → wpG M (A.under c) (M.den c)
      (fun fin s' => match fin with | .done f => R (.ok f) s' | .again c' => (c' = c ∧ ∃ m, m < n ∧ I m s') ∨ (c'.quiet = true ∧ codeG M A c' R s')) (fun e s' => R (.error e) s') s)
    (n : Nat) (h : I n s) : codeG M A c R s := by
  induction n using Nat.strongRecOn generalizing s with
  | ind n ih =>
    refine codeG_of_tree hk (G_mono (turn n s h) (fun fin s' hf => ?_) fun _ _ h' => h')
    cases fin with
    | done f => exact hf
    | again c' =>
      rcases hf with ⟨rfl, m, hm, hI⟩ | hf
      · exact ⟨hq, ih m hm hI⟩
      · exact hf
theorem any_ok {f : Code × Pos → Bool} (hf : ∀ c p, okCode c = true → f (c, p) = false) {l : List (Code × Pos)} (h : OkSt l) : l.any f = false := by
  rw [List.any_eq_false]
  rintro ⟨c, q⟩ hx
  rw [hf c q (h _ hx)]; decide
theorem exported_G {v : Value} {Q : Bool → Shared → Prop} (h : Q false s) : wpG M A (Builtin.Bytes.exported v) Q E s := fun Γ p hΓ a b => by
  show Q (List.any ((Γ.code, p) :: Γ.below) _) s
  rw [any_ok ?_ ?_]
  · exact h
  · intro c q hc
    cases c with
    | builtin id args =>
      have hn : ∀ x ∈ badIds, id ≠ x := fun x hx e => by
        subst e
        have : badIds.contains id = true := List.contains_iff_mem.mpr hx
        have hc2 : (!badIds.contains id) = true := hc
        rw [this] at hc2
        cases hc2
      have n1 := hn "bytearray.__contains__" (by decide)
      have n2 := hn "bytearray.__mod__" (by decide)
      have n3 := hn "bytearray.__rmod__" (by decide)
      have n4 := hn "_struct.pack_into.held" (by decide)
      have n5 := hn "bytearray.find.held" (by decide)
      obtain ⟨pos, kw⟩ := args
      delta Builtin.Bytes.exported.match_1
      refine (dif_neg n1).trans ?_
      refine (dif_neg n2).trans ?_
      refine (dif_neg n3).trans ?_
      refine (dif_neg n4).trans ?_
      refine (dif_neg n5).trans ?_
      cases pos with
      | nil => rfl
      | cons z r =>
        show (Builtin.Bytes.sameRef z v && Builtin.Bytes.decodersThatHold.contains id) = false
        have hd : Builtin.Bytes.decodersThatHold.contains id = false := by
          cases e : Builtin.Bytes.decodersThatHold.contains id with
          | false => rfl
          | true => exact absurd rfl (hn id (List.mem_append_right _ (List.contains_iff_mem.mp e)))
        rw [hd, Bool.and_false]
    | _ => rfl
  · intro x hx
    rcases List.mem_cons.mp hx with rfl | hx
    · exact a
    · exact b x hx
end
section
variable {M : Model} {A : Around} {E : Value → Shared → Prop} {s : Shared} {env : Env}
theorem G_execs_nil {Q : Flow → Shared → Prop} (h : Q .next s) : wpG M A (execs [] env) Q E s := fun _ _ _ _ _ => h
theorem G_execs_cons {st : Stmt} {rest : List Stmt} {Q : Flow → Shared → Prop}
    (h : wpG M A (exec st env) (fun f s' => match f with | .next => wpG M A (execs rest env) Q E s' | f => Q f s') E s) :
    wpG M A (execs (st :: rest) env) Q E s := fun Γ p hΓ a b => by
  rw [execs_cons, Sem.wp_bind']
  refine Sem.wp_mono M Γ _ (fun f p' s' h' => ?_) (fun _ _ _ h' => h') _ _ (h Γ p hΓ a b)
  cases f <;> first | exact h' Γ p' hΓ a b | exact h'
theorem G_If {test : Expr} {body orelse : List Stmt} {pos : Pos} {Q : Flow → Shared → Prop}
    (h : wpG M A (isTrue test env (eval test env))
      (fun b s₂ => if b then wpG M A (execs body env) Q E s₂ else wpG M A (execs orelse env) Q E s₂) E s) :
    wpG M A (exec (.If test body orelse pos) env) Q E s := by
  rw [exec_If]
  refine G_bindA (wpAny_standAt (G_bind (G_mono h (fun b s₂ h₂ => ?_) fun _ _ x => x)))
  cases b <;> exact h₂
theorem G_IfA {test : Expr} {body orelse : List Stmt} {pos : Pos} {Q : Flow → Shared → Prop}
    (h : wpAny M A (isTrue test env (eval test env))
      (fun b s₂ => if b then wpG M A (execs body env) Q E s₂ else wpG M A (execs orelse env) Q E s₂) E s) :
    wpG M A (exec (.If test body orelse pos) env) Q E s := G_If (G_of h)
theorem G_noted {m : Sem α} {Q : α → Shared → Prop} (h : wpG M A m Q (notedBy M A env E) s) : wpG M A (m.onRaise fun x => do noteFrame x env; theTreesLotGoes x) Q E s :=
  G_onRaise (G_mono h (fun _ _ q => q) fun _ _ hx => G_bindA (wpAny_mono hx (fun _ _ e => G_of (wpAny_theTreesLotGoes e)) fun _ _ e => e))
theorem G_runOwn {c : Code} {h : Option Value} {Q : Flow → Shared → Prop}
    (hc : codeG M (A.mark h) c (fun r s' => match r with | .ok f => Q f s' | .error e => cameBackBy M A env E e s') s) (hnb : h ≠ some byPass := by intro x; cases x) :
    wpG M A (runOwn c env h) Q E s := by
  unfold runOwn
  exact G_onRaise (G_mono (G_run (E := fun e s' => cameBackBy M A env E e s') hc hnb) (fun _ _ x => x) fun _ _ x => G_of x)
theorem G_While {test : Expr} {body orelse : List Stmt} {pos : Pos} {Q : Flow → Shared → Prop}
    (h : codeG M A (.whileLoop test body orelse env) (fun r s' => match r with | .ok f => Q f s' | .error e => cameBackBy M A env E e s') s) :
    wpG M A (exec (.While test body orelse pos) env) Q E s := by
  rw [exec_While]; exact G_bindA (wpAny_standAt (G_runOwn h))
theorem G_For {target iter : Expr} {body orelse : List Stmt} {pos : Pos} {Q : Flow → Shared → Prop}
    (h : wpAny M A (eval iter env) (fun x s₁ => wpAny M A (pyIter x) (fun it s₂ =>
      codeG M A (.forLoop target it body orelse env) (fun r s' => match r with | .ok f => Q f s' | .error e => cameBackBy M A env E e s') s₂) E s₁) E s)
    (hs : ∀ x, foldedSetIterable iter env x = pure x := by intro _; rfl) :
    wpG M A (exec (.For target iter body orelse pos) env) Q E s := by
  rw [exec_For]
  exact G_bindA (wpAny_standAt (G_bindA (wpAny_mono h (fun x s₁ h₁ => G_bindA (wpAny_of_eq (hs x) (G_bindA (wpAny_standAt (G_bindA (wpAny_holding
    (wpAny_mono h₁ (fun it s₂ h₂ => G_runOwn h₂) fun _ _ h' => h'))))))) fun _ _ h' => h')))
theorem G_Expr {e : Expr} {pos : Pos} {Q : Flow → Shared → Prop} (h : wpG M A (eval e env) (fun v s' => match v with | .ref _ => False | _ => Q .next s') E s)
    (hi : interactive env = false := by rfl) (hs : swapsWith e none pos.line env = pure false := by rfl) :
    wpG M A (exec (.Expr e pos) env) Q E s := by
  rw [exec_Expr env e pos hi hs]
  refine G_bindA (wpAny_standAt (G_bind (G_mono h (fun v s' h' => ?_) fun _ _ x => x)))
  have hv : ∀ a, v ≠ .ref a := fun a hva => by subst hva; exact h'
  rw [dropValue_plain hv]
  refine G_pure ?_
  cases v <;> first | exact h' | exact (hv _ rfl).elim
end
section
variable {prog : Program} {w : World} {A : Around} {E : Value → Shared → Prop} {R : Result → Shared → Prop} {s : Shared} {env : Env}
theorem codeG_whileLoop {test : Expr} {body orelse : List Stmt} (I : Nat → Shared → Prop)
    (turn : ∀ n s, I n s →
      wpG (model prog w) A (isTrue test env (eval test env)) (fun b s₂ =>
        if b then wpG (model prog w) A (execs body env) (fun f s₃ => match f with
            | .next | .cont => ∃ m, m < n ∧ I m s₃
            | .brk => R (.ok .next) s₃
            | .ret v => R (.ok (.ret v)) s₃) (notedBy (model prog w) A env fun e s' => R (.error e) s') s₂
        else wpG (model prog w) A (execs orelse env) (fun f s₃ => R (.ok f) s₃) (notedBy (model prog w) A env fun e s' => R (.error e) s') s₂)
        (notedBy (model prog w) A env fun e s' => R (.error e) s') s)
    (n : Nat) (h : I n s) : codeG (model prog w) A (.whileLoop test body orelse env) R s := by
  refine codeG_loop rfl rfl I (fun n s hI => ?_) n h
  show wpG _ A ((whileTurn test body orelse env).onRaise (fun x => do noteFrame x env; theTreesLotGoes x)) _ _ s
  refine G_noted ?_
  simp only [whileTurn]
  refine G_bind (G_mono (turn n s hI) (fun b s₂ h₂ => ?_) fun _ _ h' => h')
  cases b with
  | false =>
    simp only [Bool.false_eq_true, if_false] at h₂ ⊢
    exact G_bind (G_mono h₂ (fun f s₃ h₃ => G_pure h₃) fun _ _ h' => h')
  | true =>
    simp only [if_true] at h₂ ⊢
    refine G_bind (G_mono h₂ (fun f s₃ h₃ => ?_) fun _ _ h' => h')
    cases f with
    | next => exact G_pure (.inl ⟨rfl, h₃⟩)
    | cont => exact G_pure (.inl ⟨rfl, h₃⟩)
    | brk => exact G_pure h₃
    | ret v => exact G_pure h₃
theorem codeG_forLoop {target : Expr} {it : Value} {body : List Stmt} (I : Nat → Shared → Prop)
    (turn : ∀ n s, I n s → wpAny (model prog w) A (pyNext it) (fun r s₁ => match r with
      | none => R (.ok .next) s₁
      | some v => wpAny (model prog w) A (assign target env v) (fun _ s₂ => wpG (model prog w) A (execs body env) (fun f s₃ => match f with
          | .next | .cont => ∃ m, m < n ∧ I m s₃
          | .brk => R (.ok .next) s₃
          | .ret v => R (.ok (.ret v)) s₃) (notedBy (model prog w) A env fun e s' => R (.error e) s') s₂) (notedBy (model prog w) A env fun e s' => R (.error e) s') s₁) (notedBy (model prog w) A env fun e s' => R (.error e) s') s)
    (n : Nat) (h : I n s) (ht : ∀ v, letOwnedTupleGo target it v = pure () := by intro _; rfl) : codeG (model prog w) A (.forLoop target it body [] env) R s := by
  refine codeG_loop rfl rfl I (fun n s hI => ?_) n h
  show wpG _ _ ((forTurn target it body [] env).onRaise (fun x => do noteFrame x env; theTreesLotGoes x)) _ _ s
  refine G_noted ?_
  simp only [forTurn]
  refine G_bindA (wpAny_standAt (G_bindA (wpAny_onRaise (wpAny_mono (turn n s hI) (fun r s₁ h₁ => ?_) fun _ _ h' => wpAny_standAt h'))))
  cases r with
  | none => exact G_pure (.inr ⟨rfl, codeG_of (codeAny_block (wpAny_execs_nil h₁))⟩)
  | some v =>
    refine G_bindA (wpAny_of_eq (ht v) ?_)
    refine G_bindA (wpAny_mono h₁ (fun _ s₂ h₂ => G_bind (G_mono h₂ (fun f s₃ h₃ => ?_) fun _ _ h' => h')) fun _ _ h' => h')
    cases f with
    | next => exact G_pure (.inl ⟨rfl, h₃⟩)
    | cont => exact G_pure (.inl ⟨rfl, h₃⟩)
    | brk => exact G_pure h₃
    | ret v => exact G_pure h₃
theorem codeG_func {body : List Stmt}
    (h : wpG (model prog w) (A.deeper env) (execs body env) (fun f s' => R (.ok (.ret (match f with | .ret v => v | _ => .none))) s')
      (fun e s' => wpAny (model prog w) (A.deeper env) (leaving env e) (fun _ s'' => R (.error e) s'') (fun e' s'' => R (.error e') s'') s') s) :
    codeG (model prog w) A (.func body env) R s := by
  refine codeG_of_tree rfl ?_
  show wpG _ (A.deeper env) (do point; match ← (execs body env).onRaise (leaving env) with | .ret v => ret v | _ => ret .none) _ _ s
  refine G_bindA (wpAny_point (G_bind (G_onRaise (G_mono h (fun f s' h' => ?_) fun _ _ h' => G_of h'))))
  cases f <;> exact G_pure h'
theorem codeG_call_function {a : Addr} {args : Args} {o : Obj} {fd : FuncData} {body : List Stmt} (hroom : A.depth < recursionLimit)
    (ho : s.heap.get? a = some o)
    (hd' : o.data = .func fd) (hco : fd.scope.isCoroutine = false) (hgen : fd.scope.isGenerator = false) (hbody : fd.body = .stmts body) (hcd : s.heap.CodeRec fd.code fd.qualname)
    (h : wpAny (model prog w) A.in1 (bindArgs fd args) (fun binds s₁ =>
      wpAny (model prog w) A.in1 (newFunctionEnv fd.scope fd.globals fd.closure binds (fd.qualname ++ ".<locals>.") (some a) fd.code none fd.builtins)
        (fun env s₂ => s₂.heap.NoLimit ∧ codeG (model prog w) A (.func body env) R s₂) (fun e s' => R (.error e) s') s₁) (fun e s' => R (.error e) s') s) :
    codeG (model prog w) A (.call (.ref a) args) R s := by
  refine codeG_of_tree rfl ?_
  show wpG _ A.in1 (callAny (.ref a) args) _ _ s
  simp only [callAny]
  refine G_bindA (wpAny_load ho ?_)
  obtain ⟨c, oc, vs, tq, hc, hoc, hdc, hq⟩ := hcd
  simp only [hd', callFunction, hco, hgen, hbody, hc]
  rw [hc] at h
  refine G_bindA (m := field (.ref c) 1) (wpAny_field hoc hdc hq (G_bindA (wpAny_pure ?_)))
  exact G_bindA (wpAny_mono h (fun binds s₁ h₁ => G_bindA (wpAny_mono h₁ (fun env s₂ h₂ => G_bindA (wpAny_enterFrame h₂.1 hroom
    (G_pure (And.intro rfl h₂.2)))) fun _ _ h' => h')) fun _ _ h' => h')
theorem codeG_call_def {a : Addr} {o : Obj} {fd : FuncData} {body : List Stmt} {args : Args} {binds : List (Str × Value)}
    (hroom : A.depth < recursionLimit) (ho : s.heap.get? a = some o) (hdata : o.data = .func fd) (hlim : s.heap.NoLimit) (hcd : s.heap.CodeRec fd.code fd.qualname)
    (hbody : fd.body = .stmts body) (hbind : BindsTo s fd args binds)
    (hcell : ∀ x ∈ fd.scope.names, x.2 ≠ .cell) (hloc : ∀ x ∈ binds, fd.scope.names.lookup x.1 = some .local)
    (h : ∀ h₀, h₀.Ns s.heap.objs.size (fun x => binds.reverse.lookup x) → (∀ b o, s.heap.get? b = some o → h₀.get? b = some o) →
      wpG (model prog w) (A.deeper (callEnv fd s.heap.objs.size a)) (execs body (callEnv fd s.heap.objs.size a)) (fun f s' => R (.ok (.ret (match f with | .ret v => v | _ => .none))) s')
        (fun e s' => wpAny (model prog w) (A.deeper (callEnv fd s.heap.objs.size a)) (leaving (callEnv fd s.heap.objs.size a) e) (fun _ s'' => R (.error e) s'') (fun e' s'' => R (.error e') s'') s')
        { s with heap := h₀, toks := s.toks + binds.length })
    (hco : fd.scope.isCoroutine = false := by rfl) (hgen : fd.scope.isGenerator = false := by rfl) (hk : fd.scope.kind = .function := by rfl) :
    codeG (model prog w) A (.call (.ref a) args) R s := by
  refine codeG_call_function hroom ho hdata hco hgen hbody hcd (hbind _ _ _ _ ?_)
  refine wpAny_newFunctionEnv hcell hloc (fun h₀ hns₀ hsb₀ => ⟨hlim.fresh _ hsb₀, codeG_func (h h₀ hns₀ fun b o e => ?_)⟩) hk
  exact hsb₀.extBut b o (Nat.ne_of_lt (Heap.lt_size e)) (Heap.get?_push_of_some _ e)
end

end
section
namespace BA
open Builtin
theorem mro : mroOf (.type "bytearray") = pure [.type "bytearray", .type "object"] := by rw [mroOf_type]; kernel_rfl
theorem lookup_new : typeLookup (.type "bytearray") "__new__" = pure (some (.builtin "bytearray.__new__")) := by rw [typeLookup_type, builtinLookup_eq_fast]; kernel_rfl
theorem slot_init : Slot "bytearray" "__init__" "bytearray.__init__" :=
  .of (owner := "bytearray") (n := "__init__") (by rw [typeLookup_type, builtinLookup_eq_fast]; kernel_rfl) (by decide +kernel) (by decide +kernel) (by decide +kernel)
    (by first | exact .inl (by decide +kernel) | exact .inr (by decide +kernel)) (by rw [isSubtype_type]; kernel_rfl)
theorem slot_append : Slot "bytearray" "append" "bytearray.append" :=
  .of (owner := "bytearray") (n := "append") (by rw [typeLookup_type, builtinLookup_eq_fast]; kernel_rfl) (by decide +kernel) (by decide +kernel) (by decide +kernel)
    (by first | exact .inl (by decide +kernel) | exact .inr (by decide +kernel)) (by rw [isSubtype_type]; kernel_rfl)
theorem slot_extend : Slot "bytearray" "extend" "bytearray.extend" :=
  .of (owner := "bytearray") (n := "extend") (by rw [typeLookup_type, builtinLookup_eq_fast]; kernel_rfl) (by decide +kernel) (by decide +kernel) (by decide +kernel)
    (by first | exact .inl (by decide +kernel) | exact .inr (by decide +kernel)) (by rw [isSubtype_type]; kernel_rfl)
theorem type_append : typeOf (.builtin "bytearray.append") = pure (.type "method_descriptor") := by show builtinType _ = _; rw [builtinType_eq_fast]; kernel_rfl
theorem type_extend : typeOf (.builtin "bytearray.extend") = pure (.type "method_descriptor") := by show builtinType _ = _; rw [builtinType_eq_fast]; kernel_rfl
theorem entry_new : entryFor table "bytearray.__new__" = some Builtin.«list.__new__» :=
  entryFor_alias (id' := "list.__new__") (by kernel_rfl) (by first | rfl | decide +kernel) (by decide +kernel) (by kernel_rfl)
theorem entry_init : entryFor table "bytearray.__init__" = some Builtin.«bytearray.__init__» := by first | exact entryFor_of_tree (by kernel_rfl) | exact entryFor_of_fast (by kernel_rfl)
theorem entry_append : entryFor table "bytearray.append" = some Builtin.«bytearray.append» := by first | exact entryFor_of_tree (by kernel_rfl) | exact entryFor_of_fast (by kernel_rfl)
theorem entry_extend : entryFor table "bytearray.extend" = some Builtin.«bytearray.extend» := by first | exact entryFor_of_tree (by kernel_rfl) | exact entryFor_of_fast (by kernel_rfl)
theorem plain_new : plainId "bytearray.__new__" = true := by decide +kernel
theorem typeCall : checkTypeCall "bytearray" ⟨[], []⟩ = pure () := by kernel_rfl
theorem newCall : checkBuiltinCall "bytearray.__new__" ⟨[.type "bytearray"], []⟩ = pure () := by kernel_rfl
theorem sub_self : isSubtype (.type "bytearray") (.type "bytearray") = pure true := by rw [isSubtype_type]; kernel_rfl
theorem called : TypeCalled "bytearray" "bytearray.__new__" "bytearray.__init__" :=
  ⟨by decide +kernel, by decide +kernel, ⟨_, _, mro⟩, madeBy_type mro lookup_new (by decide +kernel), by decide +kernel, by rw [isSubtype_type]; kernel_rfl, slot_init⟩
theorem owner : Manifest.owners.lookup (String.ofList ['y', 'a', 'r', 'r', 'a', 'e', 't', 'y', 'b'].reverse) = some Manifest.sig_bytearray := by kernel_rfl
theorem args_init (a : Value) : argsOk "bytearray.__init__" ⟨[a], []⟩ := by
  unfold argsOk; rw [signature?_of (id := "bytearray.__init__") (n := ['_', '_', 't', 'i', 'n', 'i', '_', '_']) (o := ['y', 'a', 'r', 'r', 'a', 'e', 't', 'y', 'b']) (by kernel_rfl) owner]; kernel_rfl
theorem args_append (a b : Value) : argsOk "bytearray.append" ⟨[a, b], []⟩ := by
  unfold argsOk; rw [signature?_of (id := "bytearray.append") (n := ['d', 'n', 'e', 'p', 'p', 'a']) (o := ['y', 'a', 'r', 'r', 'a', 'e', 't', 'y', 'b']) (by kernel_rfl) owner]; kernel_rfl
theorem args_extend (a b : Value) : argsOk "bytearray.extend" ⟨[a, b], []⟩ := by
  unfold argsOk; rw [signature?_of (id := "bytearray.extend") (n := ['d', 'n', 'e', 't', 'x', 'e']) (o := ['y', 'a', 'r', 'r', 'a', 'e', 't', 'y', 'b']) (by kernel_rfl) owner]; kernel_rfl
theorem plainAttrs : PlainAttrs "bytearray" :=
  ⟨⟨"bytearray.__getattribute__", by rw [typeLookup_type, builtinLookup_eq_fast]; kernel_rfl, by decide +kernel⟩, by rw [typeLookup_type, builtinLookup_eq_fast]; kernel_rfl⟩
set_option maxHeartbeats 4000000 in
theorem owner_new : ("bytearray.__new__".splitOn ".__new__").headD "" = "bytearray" := by simp +decide [String.splitOn, String.splitOnAux]
/-- the object of a bytearray -/
noncomputable def ba (b : Array UInt8) : Obj := { cls := .type "bytearray", data := .bytearray b }
section
variable {prog : Program} {w : World} {A : Around} {E : Value → Shared → Prop} {R : Result → Shared → Prop} {s : Shared}
theorem codeG_builtin {id : String} {args : Args} {b : Builtin} (hk : okCode (.builtin id args) = true) (hb : entryFor table id = some b)
    (h : wpG (model prog w) (A.under (.builtin id args)) (b args)
      (fun fin s' => match fin with | .done f => R (.ok f) s' | .again c' => c'.quiet = true ∧ codeG (model prog w) A c' R s') (fun e s' => R (.error e) s') s) :
    codeG (model prog w) A (.builtin id args) R s := by
  refine codeG_of_tree hk ?_
  show wpG _ _ (match entryFor table id with | some b => b args | none => unsupported ((withoutEnding? id "#data").getD id)) _ _ s
  rw [hb]; exact h
theorem codeG_call_builtin {id : String} {args : Args} {b : Builtin} (hq : plainId id = true) (hk : okCode (.builtin id args) = true) (hb : entryFor table id = some b)
    (h : wpAny (model prog w) A.in1 (checkBuiltinCall id args) (fun _ s₁ => wpG (model prog w) A.in1 (b args)
      (fun fin s' => match fin with | .done f => R (.ok f) s' | .again c' => c'.quiet = true ∧ codeG (model prog w) A c' R s') (fun e s' => R (.error e) s') s₁)
      (fun e s' => R (.error e) s') s) : codeG (model prog w) A (.call (.builtin id) args) R s := by
  refine codeG_of_tree rfl ?_
  show wpG _ A.in1 (do checkBuiltinCall id args; again (.builtin id args)) _ _ s
  refine G_bindA (wpAny_mono h (fun _ s₁ h₁ => G_pure ⟨plainId_quiet hq args, codeG_builtin hk hb ?_⟩) fun _ _ h' => h')
  rw [Around.under_plainId hq args]; exact h₁
theorem checkResize_G {M : Model} {a : Addr} {b : Array UInt8} {Q : Unit → Shared → Prop} (ha : s.heap.get? a = some (ba b)) (h : Q () s) : wpG M A (Bytes.checkResize (.ref a)) Q E s := by
  unfold Bytes.checkResize
  refine G_bind (G_bind (exported_G ?_))
  show wpG _ _ (do let n ← Bytes.exportsOf (.ref a); pure (decide (n > 0))) _ _ s
  unfold Bytes.exportsOf
  refine G_bindA (wpAny_bind (wpAny_load ha (wpAny_pure ?_)))
  exact G_pure (G_pure h)
theorem write_any {M : Model} {a : Addr} {b : Array UInt8} {f : Array UInt8 → Array UInt8} {Q : Unit → Shared → Prop} (ha : s.heap.get? a = some (ba b)) (hz : (f b).size ≤ sizeLine)
    (h : ∀ h', h'.get? a = some (ba (f b)) → Heap.SameBut a s.heap h' → Q () { s with heap := h' }) : wpAny M A (Bytes.write (.ref a) f) Q E s := by
  show wpAny _ _ (updateBytearray a f) _ _ _
  unfold updateBytearray
  refine wpAny_bind (wpAny_load ha ?_)
  show wpAny _ _ (update a (Obj.mapBytearray f) >>= fun _ => lookBehind a) _ _ _
  refine wpAny_bind (wpAny_update ha ?_)
  have h₂ : (s.heap.update a (Obj.mapBytearray f)).get? a = some (ba (f b)) := Heap.get?_update_self (Obj.mapBytearray f) ha rfl
  refine wpAny_lookBehind h₂ ?_ (h _ h₂ (Heap.SameBut.update ..))
  show (if (f b).size > sizeLine then some "bytearray:memory" else none) = none
  rw [if_neg (by omega)]
theorem append_G {a : Addr} {b : Array UInt8} {x : Int} {t : Tok} {Q : Value → Shared → Prop} (ha : s.heap.get? a = some (ba b)) (h0 : 0 ≤ x) (h1 : x < 256) (hz : b.size + 1 ≤ sizeLine)
    (h : ∀ h', h'.get? a = some (ba (b.push x.toNat.toUInt8)) → Heap.SameBut a s.heap h' → Q .none { s with heap := h' }) : wpG (model prog w) A (call (.builtin "bytearray.append") [.ref a, .int x t]) Q E s := by
  refine G_call (codeG_call_builtin slot_append.plain (by show (!badIds.contains "bytearray.append") = true; decide +kernel) entry_append (slot_append.check _ _ _ _ _ _ _ _ ⟨_, ha, rfl⟩ (args_append _ _) ?_))
  show wpG _ _ (selfAndOne "bytearray.append" ⟨[.ref a, .int x t], []⟩ >>= _) _ _ _
  refine G_bindA (wpAny_of_eq (a := (.ref a, .int x t)) (by kernel_rfl) ?_)
  show wpG _ _ (Bytes.byteValue (.int x t) >>= _) _ _ _
  refine G_bindA ?_
  unfold Bytes.byteValue
  refine wpAny_bind (wpAny_of_eq (rfl : asIndex (.int x t) = pure x) ?_)
  refine bm_if_false (by simp only [Bool.or_eq_false_iff, decide_eq_false_iff_not]; omega) (wpAny_pure ?_)
  refine G_bind (checkResize_G ha ?_)
  refine G_bindA (write_any ha (by simpa using hz) fun h' h2 h3 => ?_)
  exact G_pure (h h' h2 h3)
theorem take_eq {M : Model} {id : String} {c : Array UInt8} {t : Tok} {Q : Option (Array UInt8 × Option Value) → Shared → Prop} (h : Q (some (c, none)) s) : wpAny M A (Bytes.takeBufferQuiet? id (.bytes c t) 0) Q E s := by
  unfold Bytes.takeBufferQuiet? Bytes.takeBuffer?
  rw [KBy.special_eq KBy.look_buffer, KBy.own_buffer]
  refine wpAny_bind (wpAny_attempt (wpAny_bind (wpAny_pure ?_)))
  refine wpAny_bind (wpAny_pure (wpAny_bind (wpAny_pure ?_)))
  have e : Bytes.buffer? id (.bytes c t) (0 == Bytes.fullReadOnly) = pure (some c) := KBy.buffer_eq
  show wpAny _ _ (Bytes.buffer? id (.bytes c t) (0 == Bytes.fullReadOnly) >>= _) _ _ _
  rw [e]
  exact wpAny_bind (wpAny_pure (wpAny_pure (wpAny_pure h)))
theorem payload_any {M : Model} {a : Addr} {b : Array UInt8} {Q : Array UInt8 → Shared → Prop} (ha : s.heap.get? a = some (ba b)) (h : Q b s) : wpAny M A (Bytes.payload (.ref a)) Q E s := by
  unfold Bytes.payload Bytes.payload?
  exact wpAny_bind (wpAny_bind (wpAny_load ha (wpAny_pure (wpAny_pure h))))
theorem extend_G {a : Addr} {b c : Array UInt8} {t : Tok} {Q : Value → Shared → Prop} (ha : s.heap.get? a = some (ba b)) (hz : b.size + c.size ≤ sizeLine)
    (h : ∀ h', h'.get? a = some (ba (b ++ c)) → Heap.SameBut a s.heap h' → Q .none { s with heap := h' }) : wpG (model prog w) A (call (.builtin "bytearray.extend") [.ref a, .bytes c t]) Q E s := by
  refine G_call (codeG_call_builtin slot_extend.plain (by show (!badIds.contains "bytearray.extend") = true; decide +kernel) entry_extend (slot_extend.check _ _ _ _ _ _ _ _ ⟨_, ha, rfl⟩ (args_extend _ _) ?_))
  show wpG _ _ (selfAndOne "bytearray.extend" ⟨[.ref a, .bytes c t], []⟩ >>= _) _ _ _
  refine G_bindA (wpAny_of_eq (a := (.ref a, .bytes c t)) (by kernel_rfl) ?_)
  refine G_bindA (wpAny_of_eq (a := some (.builtin "bytes.__buffer__")) (KBy.special_eq KBy.look_buffer) ?_)
  refine G_bindA (wpAny_rule ?_)
  refine G_bindA (payload_any ha ?_)
  refine G_bindA (take_eq ?_)
  show wpG _ _ (if (!c.isEmpty) = true then Bytes.checkResize (.ref a) >>= fun _ => Bytes.write (.ref a) (· ++ c) >>= fun _ => ret .none else Bytes.write (.ref a) (· ++ c) >>= fun _ => ret .none) _ _ _
  have last : wpG (model prog w) A.in1 (do Bytes.write (.ref a) (· ++ c); ret .none) (fun fin s' => match fin with | .done f => (fun r s' => match r with | .ok (.ret v) => Q v s' | .ok _ => False | .error e => E e s') (Except.ok f) s' | .again c' => c'.quiet = true ∧ codeG (model prog w) A c' (fun r s' => match r with | .ok (.ret v) => Q v s' | .ok _ => False | .error e => E e s') s') (fun e s' => E e s') s :=
    G_bindA (write_any ha (by simpa using hz) fun h' h2 h3 => G_pure (h h' h2 h3))
  by_cases hc : (!c.isEmpty) = true
  · rw [if_pos hc]
    exact G_bind (checkResize_G ha last)
  · rw [if_neg hc]
    exact last
end
end BA

end
section
namespace BA
open Builtin
theorem look_release : typeLookup (.type "bytearray") "__release_buffer__" = pure (some (.builtin "bytearray.__release_buffer__")) := by rw [typeLookup_type, builtinLookup_eq_fast]; kernel_rfl
theorem look_buffer : typeLookup (.type "bytearray") "__buffer__" = pure (some (.builtin "bytearray.__buffer__")) := by rw [typeLookup_type, builtinLookup_eq_fast]; kernel_rfl
theorem look_bytes : typeLookup (.type "bytearray") "__bytes__" = pure none := by rw [typeLookup_type, builtinLookup_eq_fast]; kernel_rfl
theorem look_index : typeLookup (.type "bytearray") "__index__" = pure none := by rw [typeLookup_type, builtinLookup_eq_fast]; kernel_rfl
section
variable {prog : Program} {w : World} {A : Around} {E : Value → Shared → Prop} {R : Result → Shared → Prop} {s : Shared}
theorem own_release {M : Model} {a : Addr} {b : Array UInt8} {Q : Bool → Shared → Prop} (ha : s.heap.get? a = some (ba b)) (h : Q false s) : wpAny M A (Bytes.ownRelease (.ref a)) Q E s := by
  have hT : s.TypeIs (.ref a) "bytearray" := ⟨_, ha, rfl⟩
  unfold Bytes.ownRelease Bytes.slotIsOwn
  refine wpAny_bind (wpAny_bind (wpAny_specialOf hT look_release ?_))
  show wpAny _ _ (if (!("bytearray.__release_buffer__".endsWith ("." ++ "__release_buffer__"))) = true then _ else _) _ _ _
  refine bm_if_false (by decide +kernel) ?_
  have e : ("bytearray.__release_buffer__".dropRight ("__release_buffer__".length + 1)) = "bytearray" := by decide +kernel
  rw [e]
  exact wpAny_isInstance hT sub_self (wpAny_pure h)
theorem own_buffer {M : Model} {a : Addr} {b : Array UInt8} {Q : Bool → Shared → Prop} (ha : s.heap.get? a = some (ba b)) (h : Q true s) : wpAny M A (Bytes.slotIsOwn (.ref a) "__buffer__") Q E s := by
  have hT : s.TypeIs (.ref a) "bytearray" := ⟨_, ha, rfl⟩
  unfold Bytes.slotIsOwn
  refine wpAny_bind (wpAny_specialOf hT look_buffer ?_)
  show wpAny _ _ (if (!("bytearray.__buffer__".endsWith ("." ++ "__buffer__"))) = true then _ else _) _ _ _
  refine bm_if_false (by decide +kernel) ?_
  have e : ("bytearray.__buffer__".dropRight ("__buffer__".length + 1)) = "bytearray" := by decide +kernel
  rw [e]
  exact wpAny_isInstance hT sub_self h
theorem buffer_any {M : Model} {id : String} {f : Bool} {a : Addr} {b : Array UInt8} {Q : Option (Array UInt8) → Shared → Prop} (ha : s.heap.get? a = some (ba b)) (h : Q (some b) s) : wpAny M A (Bytes.buffer? id (.ref a) f) Q E s := by
  have hT : s.TypeIs (.ref a) "bytearray" := ⟨_, ha, rfl⟩
  unfold Bytes.buffer?
  refine wpAny_bind (wpAny_specialOf hT look_buffer ?_)
  refine wpAny_bind (own_buffer ha ?_)
  refine bm_if_false rfl ?_
  refine wpAny_bind (wpAny_specialOf hT look_buffer ?_)
  refine wpAny_bind (own_release ha ?_)
  refine bm_if_false rfl ?_
  exact wpAny_bind (payload_any ha (wpAny_pure h))
theorem code_new {Q₁ : Value → Shared → Prop}
    (h : Q₁ (.ref s.heap.objs.size) { s with heap := s.heap.push (ba #[]) }) :
    codeAny (model prog w) A (.call (.builtin "bytearray.__new__") ⟨[.type "bytearray"], []⟩) (wants Q₁ E) s := by
  refine codeAny_of_tree ?_
  show wpAny _ A.in1 (do checkBuiltinCall "bytearray.__new__" ⟨[.type "bytearray"], []⟩; again (.builtin "bytearray.__new__" ⟨[.type "bytearray"], []⟩)) _ _ s
  refine wpAny_bind (wpAny_of_eq newCall (wpAny_pure ⟨plainId_quiet plain_new _, codeAny_builtin_stack entry_new rfl fun p st => ?_⟩))
  rw [Around.under_plainId plain_new _]
  have hsub := sub_self
  have hown := owner_new
  obtain ⟨hp, g, d, tk, os⟩ := s
  simp only [hown]
  wp_walk
  exact h
theorem bind_none : Bytes.bindOptional "bytearray.__init__" "bytearray" ["source", "encoding", "errors"] [] [] = pure [none, none, none] := by kernel_rfl
theorem init_G {a : Addr} {Q : Value → Shared → Prop} (ha : s.heap.get? a = some (ba #[]))
    (h : ∀ h', h'.get? a = some (ba #[]) → Heap.SameBut a s.heap h' → Q .none { s with heap := h' }) : codeG (model prog w) A (.call (.builtin "bytearray.__init__") ⟨[.ref a], []⟩) (wants Q E) s := by
  refine codeG_call_builtin slot_init.plain (by show (!badIds.contains "bytearray.__init__") = true; decide +kernel) entry_init (slot_init.check _ _ _ _ _ _ _ _ ⟨_, ha, rfl⟩ (args_init _) ?_)
  refine G_bindA (own_release ha ?_)
  show wpG _ _ (Bytes.bindOptional "bytearray.__init__" "bytearray" ["source", "encoding", "errors"] [] [] >>= _) _ _ _
  refine G_bindA (wpAny_of_eq bind_none ?_)
  refine G_bindA (wpAny_of_eq (a := ()) rfl ?_)
  refine G_bindA (wpAny_of_eq (a := ()) rfl ?_)
  refine G_bind (G_bind (exported_G ?_))
  show wpG _ _ (do let n ← Bytes.exportsOf (.ref a); pure (decide (n > 0))) _ _ s
  unfold Bytes.exportsOf
  refine G_bindA (wpAny_bind (wpAny_load ha (wpAny_pure ?_)))
  refine G_pure ?_
  refine G_bindA (write_any ha (Nat.zero_le _) fun h' h2 h3 => ?_)
  exact G_pure (h h' h2 h3)
theorem type_call_eq : Builtin.«type.__call__» ⟨[.type "bytearray"], []⟩ = (do
    let obj ← holding [.builtin "bytearray.__new__"] (call (.builtin "bytearray.__new__") [.type "bytearray"] [])
    if !(← isInstance obj (.type "bytearray")) then do rule "type.call.new-gave-other-type"; return ← ret obj
    match ← holding [obj] (callSpecial? obj "__init__" [] []) with
    | none => ret obj
    | some r =>
      if r != .none then
        rule "type.call.init-returned-value"
        raiseError "TypeError" s!"__init__() should return None, not '{← typeNameOf r}'"
      ret obj) := by
  have h1 := called.notType
  have h2 := called.canCreate
  have h3 := called.made
  unfold Builtin.«type.__call__»
  simp only [h1, h2, mro, h3, typeCall, pure_bind, Bool.false_eq_true, if_false, List.isEmpty_cons]
  rfl
theorem bytearray_G {Q : Value → Shared → Prop}
    (h : ∀ h', h'.get? s.heap.objs.size = some (ba #[]) → (∀ b o, s.heap.get? b = some o → h'.get? b = some o) → Q (.ref s.heap.objs.size) { s with heap := h' }) :
    wpG (model prog w) A (call (.type "bytearray") []) Q E s := by
  refine G_call (codeG_of_tree rfl ?_)
  show wpG _ _ (callAny (.type "bytearray") _) _ _ _
  refine G_pure ⟨Code.quiet_builtin _ (by decide +kernel), codeG_builtin (by show (!badIds.contains "type.__call__") = true; decide +kernel) F.entry_type_call ?_⟩
  rw [Around.under_plain (weight_type_call_type "bytearray" [] []) rfl, type_call_eq]
  refine G_bindA (wpAny_holding (wpAny_call (codeAny_mono (code_new (E := E) (Q₁ := fun v s' => v = .ref s.heap.objs.size ∧ s' = { s with heap := s.heap.push (ba #[]) }) ⟨rfl, rfl⟩) fun r s₁ hr => ?_)))
  cases r with
  | error e => exact hr
  | ok fl =>
    cases fl with
    | ret obj =>
      obtain ⟨rfl, rfl⟩ := hr
      have ha : (s.heap.push (ba #[])).get? s.heap.objs.size = some (ba #[]) := Heap.get?_push_size _ rfl
      have hT : ({ s with heap := s.heap.push (ba #[]) } : Shared).TypeIs (.ref s.heap.objs.size) "bytearray" := ⟨_, ha, rfl⟩
      refine G_bindA (wpAny_isInstance hT sub_self ?_)
      show wpG _ _ (holding [.ref s.heap.objs.size] (callSpecial? (.ref s.heap.objs.size) "__init__" [] []) >>= _) _ _ _
      refine G_bind (G_holding ?_)
      unfold callSpecial?
      refine G_bindA (wpAny_specialOf hT slot_init.lookup ?_)
      refine G_holding ?_
      refine G_bindA (wpAny_of_eq (slot_init.bind _) ?_)
      refine G_bind (G_call (codeG_mono (init_G (E := E) (Q := fun v s' => v = .none ∧ Q (.ref s.heap.objs.size) s') ha fun h' e1 e2 => ⟨rfl, h h' e1 fun b o e => e2.extBut b o (Nat.ne_of_lt (Heap.lt_size e)) (Heap.get?_push_of_some _ e)⟩) fun r₂ s₂ hr₂ => ?_))
      cases r₂ with
      | error e => exact hr₂
      | ok fl₂ =>
        cases fl₂ with
        | ret r =>
          obtain ⟨rfl, hq⟩ := hr₂
          exact G_pure (G_pure hq)
        | _ => exact hr₂.elim
    | _ => exact hr.elim
end
end BA

end
section
namespace BA
open Builtin
section
variable {prog : Program} {w : World} {A : Around} {E : Value → Shared → Prop} {R : Result → Shared → Prop} {s : Shared}
theorem bytes_new {a : Addr} {b : Array UInt8} {Q : Value → Shared → Prop} (ha : s.heap.get? a = some (ba b)) (hz : b.size ≤ sizeLine)
    (h : ∀ t k, Q (.bytes b t) { s with toks := k }) : codeAny (model prog w) A (.call (.builtin "bytes.__new__") ⟨[.type "bytes", .ref a], []⟩) (wants Q E) s := by
  refine codeAny_of_tree ?_
  show wpAny _ A.in1 (do checkBuiltinCall "bytes.__new__" ⟨[.type "bytes", .ref a], []⟩; again (.builtin "bytes.__new__" ⟨[.type "bytes", .ref a], []⟩)) _ _ s
  refine wpAny_bind (wpAny_of_eq (F.bm_newCall _) (wpAny_pure ⟨plainId_quiet F.bm_plain _, codeAny_builtin F.bm_entry ?_⟩))
  rw [Around.under_plainId F.bm_plain _]
  have hT : s.TypeIs (.ref a) "bytearray" := ⟨_, ha, rfl⟩
  unfold Builtin.«bytes.__new__»
  refine wpAny_bind (wpAny_of_eq (a := true) rfl ?_)
  refine bm_if_false rfl ?_
  refine wpAny_bind (wpAny_of_eq F.bm_sub ?_)
  refine bm_if_false rfl ?_
  refine wpAny_bind (wpAny_of_eq (F.bm_bind _) ?_)
  refine wpAny_bind (wpAny_of_eq (a := ()) rfl ?_)
  refine wpAny_bind (wpAny_of_eq (a := ()) rfl ?_)
  refine bm_if_false rfl ?_
  refine wpAny_bind (wpAny_specialOf hT look_bytes ?_)
  refine wpAny_bind (wpAny_bind ?_)
  show wpAny _ _ (load a >>= _) _ _ _
  refine wpAny_bind (wpAny_load ha ?_)
  refine wpAny_pure (wpAny_pure ?_)
  refine bm_if_false rfl ?_
  refine wpAny_bind (wpAny_specialOf hT look_index ?_)
  refine bm_if_true rfl ?_
  first
    | show wpAny _ _ (Builtin.Bytes.buffer? "bytes.__new__" (.ref a) true >>= _) _ _ _
    | (refine wpAny_bind ?_; show wpAny _ _ (Builtin.Bytes.buffer? "bytes.__new__" (.ref a) true >>= _) _ _ _)
  refine wpAny_bind (buffer_any ha ?_)
  refine wpAny_bind (wpAny_rule ?_)
  refine wpAny_bind (wpAny_mkBytes ?_ hz)
  show wpAny _ _ (if (Value.type "bytes" == Value.type "bytes") = true then _ else _) _ _ _
  refine bm_if_true (by decide) ?_
  first
    | exact wpAny_pure (h _ _)
    | exact wpAny_bind (wpAny_pure (wpAny_pure (h _ _)))
theorem bytes_ba {a : Addr} {b : Array UInt8} {Q : Value → Shared → Prop} (ha : s.heap.get? a = some (ba b)) (hz : b.size ≤ sizeLine)
    (h : ∀ t k, Q (.bytes b t) { s with toks := k }) : wpAny (model prog w) A (call (.type "bytes") [.ref a]) Q E s := by
  refine callType_codes (Q₁ := fun obj s₁ => s₁.TypeIs obj "bytes" ∧ Q obj s₁) F.bm_called (F.bm_typeCall _) F.entry_object_init
    (bytes_new ha hz fun t k => ⟨PySem.W.typeIs_bytes _ _ _, h t k⟩) fun obj s₁ h₁ => ?_
  exact ⟨h₁.1, F.args_object_init_2 obj _, object_init_meets F.bm_called.init.lookup F.bm_called.made (by decide) prog w A.in1 _ s₁ ⟨h₁.1, rfl, h₁.2⟩⟩
end
end BA
section
variable {M : Model} {A : Around} {E : Value → Shared → Prop} {s : Shared} {env : Env}
theorem G_ite {α : Type} {c : Prop} [Decidable c] {a b : Sem α} {Q : α → Shared → Prop} (h : if c then wpG M A a Q E s else wpG M A b Q E s) :
    wpG M A (if c then a else b) Q E s := by split <;> simp_all
theorem G_spliced_cons {x : Sem Value} {rest : List (Bool × Sem Value)} {Q : List Value → Shared → Prop}
    (h : wpG M A x (fun v s₁ => wpG M A (spliced rest) (fun vs s₂ => Q (v :: vs) s₂) E s₁) E s) : wpG M A (spliced ((false, x) :: rest)) Q E s := by
  rw [spliced]
  refine G_bind (G_mono h (fun v s₁ h₁ => ?_) fun _ _ x => x)
  simp only [Bool.false_eq_true, if_false]
  exact G_bind (G_pure (G_bind (G_holding (G_mono h₁ (fun vs s₂ h₂ => G_pure h₂) fun _ _ x => x))))
theorem G_args1 {e : Expr} {pos : Pos} {Q : List Value → Shared → Prop} (h : wpG M A (eval e env) (fun v s₁ => Q [v] s₁) E s)
    (he : starEach [e] env = [(false, eval e env)] := by rfl) : wpG M A (spliced (backTo pos (starEach [e] env))) Q E s := by
  rw [he]
  exact G_spliced_cons (G_mono h (fun v s₁ h₁ => G_of (Calls.spliced_nil h₁)) fun _ _ x => x)
theorem G_evalArgs {f : Value} {x : Sem Value} {rest : List (Bool × Sem Value)} {Q : Args → Shared → Prop}
    (h : wpG M A (spliced ((false, x) :: rest)) (fun vs s' => Q ⟨vs, []⟩ s') E s) : wpG M A (evalArgs f true ((false, x) :: rest) []) Q E s := by
  unfold evalArgs
  show wpG M A (spliced ((false, x) :: rest) >>= _) Q E s
  refine G_bind (G_mono h (fun vs s' h' => ?_) fun _ _ x => x)
  refine G_holding ?_
  exact G_bind (G_pure (G_bind (G_pure (G_pure h'))))
theorem G_callWith_builtin {pos : Pos} {id : String} {first : List Value} {args : List (Bool × Sem Value)} {Q : Value → Shared → Prop} (hplain : args.any (·.1) = false)
    (h : wpG M A (evalArgs (.builtin id) true args []) (fun a s₁ => wpG M A (call (.builtin id) (first ++ a.pos) a.kw) Q E s₁) E s) :
    wpG M A (callWith pos (.builtin id) first args []) Q E s := by
  unfold callWith
  refine G_bind (G_holding (G_mono h (fun a s₁ h₁ => G_bindA (wpAny_standAt ?_)) fun _ _ x => x))
  simp only [hplain, List.any_nil, Bool.or_false]
  refine G_bindA (wpAny_pure ?_)
  exact G_bind (G_mono h₁ (fun r s₂ hr => G_of (wpAny_bind (wpAny_holding (wpAny_point (wpAny_pure hr))))) fun _ _ x => x)
theorem G_callWith_type0 {pos : Pos} {T : String} {Q : Value → Shared → Prop}
    (h : wpG M A (call (.type T) []) Q E s) : wpG M A (callWith pos (.type T) [] [] []) Q E s := by
  unfold callWith
  refine G_bindA (wpAny_holding (PyProof.Rows.evalArgs_none (G_bindA (wpAny_standAt ?_))))
  refine G_bindA (wpAny_pure ?_)
  exact G_bind (G_mono h (fun r s₂ hr => G_of (wpAny_bind (wpAny_holding (wpAny_point (wpAny_pure hr))))) fun _ _ x => x)
theorem G_Call {func : Expr} {args : List Expr} {pos : Pos} {Q : Value → Shared → Prop}
    (h : wpAny M A (eval func env) (fun f s₁ => wpG M A (callWith pos f [] (backTo pos (starEach args env)) []) Q E s₁) E s)
    (he : eval (.Call func args [] pos) env = (do callWith pos (← eval func env) [] (backTo pos (starEach args env)) (backToKw pos (keywordEach [] env))) := by rfl) :
    wpG M A (eval (.Call func args [] pos) env) Q E s := by
  rw [he]; exact G_bindA h
theorem G_BinOp {l r : Expr} {op : Operator} {pos : Pos} {Q : Value → Shared → Prop}
    (h : wpG M A (eval l env) (fun a s₁ => wpG M A (eval r env) (fun b s₂ => wpAny M A (binaryOp op a b) Q E s₂) E s₁) E s) :
    wpG M A (eval (.BinOp l op r pos) env) Q E s := fun Γ p hΓ c d => by
  simp only [eval_BinOp, Sem.wp_bind', Sem.wp_holding, Sem.wp_cmd_standAt, Sem.wp_operate]
  exact Sem.wp_mono M Γ _ (fun a p₁ s₁ h₁ => Sem.wp_mono M Γ _ (fun b _ s₂ h₂ => h₂ Γ _ hΓ) (fun _ _ _ h' => h') _ _ (h₁ Γ p₁ hΓ c d))
    (fun _ _ _ h' => h') _ _ (h Γ p hΓ c d)
end
section
variable {prog : Program} {w : World} {A : Around} {E : Value → Shared → Prop} {s : Shared} {env : Env}
theorem G_Call_method {o : Expr} {name : Str} {apos pos : Pos} {args : List Expr} {T id : String} {Q : Value → Shared → Prop}
    (hbase : attributeBase o name env (eval o env) = eval o env)
    (hfew : ((backTo pos (starEach args env)).all (fun x => !x.1) && (backToKw pos (keywordEach [] env)).all (fun x => x.1.isSome)
      && decide (args.length + ([] : List Keyword).length + (if ([] : List Keyword).isEmpty then 0 else 1) < 30)) = true)
    (hline : (apos.endLine == pos.line) = true)
    (pa : PlainAttrs T) (slot : Slot T name id) (hty : typeOf (.builtin id) = pure (.type "method_descriptor"))
    (h : wpAny (model prog w) A (eval o env) (fun ov s₁ => s₁.TypeIs ov T ∧ (∀ a, ov = .ref a → ∃ ob, s₁.heap.get? a = some ob ∧ ob.dict = none) ∧
      wpG (model prog w) A (callWith pos (.builtin id) [ov] (backTo pos (starEach args env)) []) Q E s₁) E s) :
    wpG (model prog w) A (eval (.Call (.Attribute o name apos) args [] pos) env) Q E s := by
  rw [arm_eval_Call, hbase]
  refine G_bindA (wpAny_mono h (fun ov s₁ h₁ => ?_) fun _ _ e => e)
  obtain ⟨hT, hd, hc⟩ := h₁
  refine G_bindA (wpAny_standAt ?_)
  have hform : methodCallForm (args.length + ([] : List Keyword).length) (backTo pos (starEach args env)) (backToKw pos (keywordEach [] env)) = true := hfew
  have hpos : methodCallPos true o env apos pos = pure pos := by unfold methodCallPos; simp [hline]
  unfold methodCall
  rw [hform]
  refine G_bindA (wpAny_holding (getMethod_builtin hT pa slot hty hd ?_))
  exact G_bindA (wpAny_of_eq hpos hc)
end

end
section
open BA in
section
variable {prog : Program} {w : World} {A A₀ : Around} {E : Value → Shared → Prop} {s : Shared} {K : Frag} {L : Addr} {h₀ base : Heap} {m mg mb : Str → Option Value} {news : List (Addr × Obj)} {p : Program} {loose : List Str} {mean : ExcName → Option Value}
theorem code_def_G {env : Env} {outer : List Env} {R : Result → Shared → Prop} {name qual : Str} {params : Arguments} {body : List Stmt} {scope : Scope} {dV kV doc pm cdv ct oc : Value} {an od : Option Addr} {osl : Array (Option Value)} {f : Addr} {args : Args} {binds : List (Str × Value)}
    (B : Below A₀ base outer h₀) (F : Fr h₀ L s.heap m) (X₀ : K.In h₀) (N : News h₀ L s.heap news) (T : Top p loose mean mg mb h₀) (hA : A.frames = some (env :: outer)) (hf : env.frame = some L) (hke : env.scope.kind = .function)
    (ho : K.lookup f = some ⟨oc, od, .func (fnOf name qual params body scope dV kV doc pm an cdv ct), osl⟩) (hcd : codeIn K cdv qual = true) (hroom : A.depth < recursionLimit)
    (hbind : BindsTo s (fnOf name qual params body scope dV kV doc pm an cdv ct) args binds) (hloc : ∀ y ∈ binds, scope.names.lookup y.1 = some .local)
    (h : ∀ g L' h₁, Fr h₀ L g m → Fr g L' h₁ (fun y => binds.reverse.lookup y) → News g L' h₁ news → Below A base (env :: outer) g → K.In g → Top p loose mean mg mb g → (∀ p ∈ news, p.1 < L') →
      wpG (model prog w) (A.deeper (envOf qual scope L' f cdv)) (execs body (envOf qual scope L' f cdv))
        (fun fl s' => LeaveK h₀ L m g R (match fl with | .ret v => v | _ => .none) s')
        (fun e s' => wpAny (model prog w) (A.deeper (envOf qual scope L' f cdv)) (leaving (envOf qual scope L' f cdv) e) (fun _ s'' => R (.error e) s'') (fun e' s'' => R (.error e') s'') s')
        { s with heap := h₁, toks := s.toks + binds.length })
    (hco : scope.isCoroutine = false) (hgen : scope.isGenerator = false) (hk : scope.kind = .function)
    (hcell : ∀ x ∈ scope.names, x.2 ≠ .cell) : codeG (model prog w) A (.call (.ref f) args) R s := by
  obtain ⟨FG, BG, st, lv⟩ := groundX (R := R) B F N hA hf hke
  refine codeG_call_def (fd := fnOf name qual params body scope dV kV doc pm an cdv ct) (body := body) (binds := binds) hroom ((X₀.keeps F.keep) _ _ ho) rfl (T.nolimit.keeps F.keep) (codeRec_of (X₀.keeps F.keep) hcd) rfl hbind hcell hloc (fun h₁ hns hk₁ => ?_) hco hgen hk
  exact G_mono (h _ s.heap.objs.size h₁ FG ⟨hns, fun b o e => hk₁ b o (of_hideAll _ e), Nat.le_of_eq (hideAll_size _ _)⟩
    (fun p hp => ⟨hk₁ _ _ (N p hp).1, Nat.ne_of_lt (Heap.lt_size (N p hp).1), hideAll_none _ (List.mem_map_of_mem hp)⟩) BG (X₀.keeps st) (T.keeps st) (fun p hp => Heap.lt_size (N p hp).1)) (fun fl s' hl => lv _ _ hl) fun _ _ y => y
end
noncomputable def ToldAt (v : Value) (dd : Option Addr) (h : Heap) : Prop := ∃ d es n sl, dd = some d ∧ h.get? d = some { dictO es n with slots := sl } ∧ ToldEs es v
/-- contracts over wpG -/
noncomputable def CtrG (w : World) (f : Addr) (args : List Value) (led : List (Addr × Obj)) (d u : Nat) (R : Value → List (Addr × Obj) → Prop) (RX : Addr → Value → Prop) : Prop :=
  ∀ (mean : ExcName → Option Value) (mg mb : Str → Option Value) (dp un : Nat) (gd : Option (List Code)) (cn : Str) (cs : Scope) (a : Addr) (ccd : Value) (cl : List (Str × Addr)) (outer : List Env) (A₀ : Around) (base h₀ : Heap) (L : Addr) (m : Str → Option Value) (s : Shared) (Q E : Value → Shared → Prop),
    Below A₀ base outer h₀ → Fr h₀ L s.heap m → (hd.heap_39 w.params).In h₀ → News h₀ L s.heap led → Top hd.view_39 (looseW hd.view_39 [Str.ofString "UniError"]) mean mg mb h₀ → cs.kind = .function → dp + d < recursionLimit → un + u < cLine →
    (∀ v led' h' tk', R v led' → Fr h₀ L h' m → News h₀ L h' led' → Q v { s with heap := h', toks := tk' }) →
    (∀ e C dd h' tk' v, RX C v → FlyD base (envX cn cs L a ccd cl :: outer) e (.ref C) dd .none h' → ToldAt v dd h' → (∃ g₂, Fr h₀ L g₂ m ∧ g₂.UpToSlots h') → E (.ref e) { s with heap := h', toks := tk' }) →
    wpG (model PySem.Challenge.rw_nt0010_01.row.prog w) (ktrTop dp un gd cn cs L a ccd cl outer) (call (.ref f) args) Q E s
section
variable {M : Model} {A : Around} {E : Value → Shared → Prop} {s : Shared} {env : Env}
theorem G_Tuple {elts : List PySem.Expr} {k : Nat} {pos : Pos} {Q : Value → Shared → Prop}
    (h : wpG M A (spliced (backTo pos (starEach elts env))) (fun vs s₁ => wpAny M A (newTuple vs) Q E s₁) E s) : wpG M A (eval (.Tuple elts k pos) env) Q E s := by
  show wpG M A (do standAt pos; newTuple (← spliced (backTo pos (starEach elts env)))) Q E s
  exact G_bindA (wpAny_standAt (G_bind (G_mono h (fun _ _ x => G_of x) fun _ _ x => x)))
theorem G_args_cons {e : PySem.Expr} {rest : List PySem.Expr} {pos : Pos} {Q : List Value → Shared → Prop}
    (h : wpG M A (eval e env) (fun v s₁ => wpAny M A (spliced (backTo pos (starEach rest env))) (fun vs s₂ => Q (v :: vs) s₂) E s₁) E s)
    (he : starEach (e :: rest) env = (false, eval e env) :: starEach rest env := by rfl) : wpG M A (spliced (backTo pos (starEach (e :: rest) env))) Q E s := by
  rw [he]; exact G_spliced_cons (G_mono h (fun _ _ x => G_of x) fun _ _ x => x)
theorem G_Assign_Tuple_swapped {elts : List PySem.Expr} {k : Nat} {tpos pos : Pos} {value : PySem.Expr} {names : List Str} {Q : Flow → Shared → Prop}
    (h : wpG M A (eval value env) (fun v s₁ => wpAny M A (unpackItems v names.length none) (fun items s₂ =>
      wpAny M A (assignInOrder (names.reverse.map fun n => bindName env n) items.reverse) (fun _ => Q .next) E s₂) E s₁) E s)
    (hs : swapsWithSole [.Tuple elts k tpos] value pos.line env = pure false := by rfl)
    (hw : swappedStores [.Tuple elts k tpos] value env = pure (some names) := by rfl) :
    wpG M A (exec (.Assign [.Tuple elts k tpos] value pos) env) Q E s := by
  rw [PyProof.Rows.exec_Assign]
  refine G_bindA (wpAny_standAt ?_)
  rw [hs]
  refine G_bindA (wpAny_pure ?_)
  rw [if_neg (by decide)]
  refine G_bind (G_mono h (fun v s₁ h₁ => G_of ?_) fun _ _ x => x)
  rw [hw]
  refine wpAny_bind (wpAny_pure ?_)
  show wpAny M A (do rule "assign.swapped-stores"; let items ← unpackItems v names.length none; assignInOrder (names.reverse.map fun n => bindName env n) items.reverse; pure .next) Q E s₁
  exact wpAny_bind (wpAny_rule (wpAny_bind (wpAny_mono h₁ (fun items s₂ h₂ => wpAny_bind (wpAny_mono h₂ (fun _ _ x => wpAny_pure x) fun _ _ x => x)) fun _ _ x => x)))
end
section
variable {prog : Program} {w : World} {A : Around} {E : Value → Shared → Prop} {s : Shared} {h₀ : Heap} {L a : Addr} {m : Str → Option Value} {news : List (Addr × Obj)} {b c : Array UInt8}
theorem ba_new_K {Q : Value → Shared → Prop} (F : Fr h₀ L s.heap m) (N : News h₀ L s.heap news)
    (h : ∀ a h', Fr h₀ L h' m → News h₀ L h' ((a, BA.ba #[]) :: news) → (∀ p ∈ news, p.1 < a) → Q (.ref a) { s with heap := h' }) : wpG (model prog w) A (call (.type "bytearray") []) Q E s :=
  BA.bytearray_G fun h' e1 e2 => h _ h' (F.kept e2) (News.kept_cons F N e2 (Nat.le_refl _) e1) (fun p hp => Heap.lt_size (N p hp).1)
end
section
variable {prog : Program} {w : World} {A : Around} {E : Value → Shared → Prop} {Q : Flow → Shared → Prop} {s : Shared} {env : Env} {h₀ : Heap}
theorem G_while {test : PySem.Expr} {body : List Stmt} {pos : Pos} (J : Nat → Shared → Prop) (n₀ : Nat) (hJ : J n₀ s)
    (turn : ∀ n s₁, J n s₁ → wpAny (model prog w) A (isTrue test env (eval test env)) (fun b s₂ =>
        if b = true then wpG (model prog w) A (execs body env) (fun f s₃ => (f = .next ∨ f = .cont) ∧ ∃ n', n' < n ∧ J n' s₃) E s₂ else Q .next s₂) E s₁)
    (hE : PassesOwn (model prog w) A env E := by passes_own) :
    wpG (model prog w) A (exec (.While test body [] pos) env) Q E s := by
  refine G_While (codeG_whileLoop J (fun n s₁ h₁ => ?_) n₀ hJ)
  refine G_of (wpAny_mono (turn n s₁ h₁) (fun b s₂ h₂ => ?_) hE)
  cases b with
  | false =>
    simp only [Bool.false_eq_true, if_false] at h₂ ⊢
    exact G_execs_nil h₂
  | true =>
    simp only [if_true] at h₂ ⊢
    refine G_mono h₂ (fun f s₃ h₃ => ?_) hE
    obtain ⟨hf, h₃⟩ := h₃
    rcases hf with rfl | rfl <;> exact h₃
noncomputable def ForEnd (h₀ : Heap) (L : Addr) (J : Nat → (Str → Option Value) → List (Addr × Obj) → Prop) (i : Nat) (I : Addr) (o : Obj) (s : Shared) (f : Flow) (s₃ : Shared) : Prop :=
  (f = .next ∨ f = .cont) ∧ ∃ h' tk' m₂ led₂, s₃ = { s with heap := h', toks := tk' } ∧ Fr h₀ L h' m₂ ∧ News h₀ L h' ((I, o) :: led₂) ∧ J i m₂ led₂
theorem G_forList {x : Str} {px pos : Pos} {iter : PySem.Expr} {body : List Stmt} {m : Str → Option Value} {led : List (Addr × Obj)} {l : Addr} {vs : List Value} (J : Nat → (Str → Option Value) → List (Addr × Obj) → Prop)
    (hx : env.kindOf x = some .local) (hp : (env.scope.kind == .class || (env.scope.kind == .module && env.locals != env.globals)) = false) (hh : A.handled = none)
    (F : Fr h₀ env.locals s.heap m) (N : News h₀ env.locals s.heap led) (hJ : J 0 m led)
    (hl : ∀ i m' led' h', J i m' led' → Fr h₀ env.locals h' m' → News h₀ env.locals h' led' → h'.IsList l vs.toArray)
    (hadr : ∀ i m' led', J i m' led' → led'.map (·.1) = led.map (·.1))
    (turn : ∀ i v m₁ led₁ h tk I o, vs[i]? = some v → J i m₁ led₁ → o.cls = .type "list_iterator" → Fr h₀ env.locals h (fun y => if y = x then some v else m₁ y) → News h₀ env.locals h ((I, o) :: led₁) →
      wpG (model prog w) A (execs body env) (ForEnd h₀ env.locals J (i + 1) I o { s with heap := h, toks := tk }) E { s with heap := h, toks := tk })
    (done : ∀ h' tk m' led', Fr h₀ env.locals h' m' → News h₀ env.locals h' led' → J vs.length m' led' → Q .next { s with heap := h', toks := tk })
    (hE : PassesOwn (model prog w) A env E := by passes_own) :
    wpAny (model prog w) A (pyIter (.ref l)) (fun it s₂ => codeG (model prog w) A (.forLoop (.Name x px) it body [] env) (fun r s' => match r with | .ok f => Q f s' | .error e => cameBackBy (model prog w) A env E e s') s₂) E s := by
  have hl₀ : s.heap.IsList l vs.toArray := hl 0 m led s.heap hJ F N
  refine wpAny_pyIter_list hl₀ ?_
  have e0 : ∀ b o, s.heap.get? b = some o → (s.heap.push { cls := .type "list_iterator", data := .fields #[.ref l, .int 0 0] }).get? b = some o := fun b o e => Heap.get?_push_of_some _ e
  refine codeG_forLoop (fun k s₁ => ∃ h' tk m' led' i o, s₁ = { s with heap := h', toks := tk } ∧ o.cls = .type "list_iterator" ∧ o.data = .fields #[.ref l, .int i 0] ∧ Fr h₀ env.locals h' m' ∧ News h₀ env.locals h' ((s.heap.objs.size, o) :: led') ∧ J i m' led' ∧ i ≤ vs.length ∧ k = vs.length - i) ?_ (vs.length)
    ⟨_, s.toks, m, led, 0, _, rfl, rfl, rfl, F.kept e0, News.kept_cons F N e0 (Nat.le_refl _) (Heap.get?_push_size _ rfl), hJ, Nat.zero_le _, by omega⟩
  intro k s₁ hI
  refine hideGoal fun GG out => ?_
  obtain ⟨h', tk, m', led', i, o, rfl, hI⟩ := hI
  have hc := hI.1
  have hd := hI.2.1
  have F' := hI.2.2.1
  have N' := hI.2.2.2.1
  have J' := hI.2.2.2.2.1
  have hi := hI.2.2.2.2.2.1
  have hkk := hI.2.2.2.2.2.2
  subst hkk
  refine out ?_
  clear out GG
  have hIo := (N' _ (.head _)).1
  have hit : h'.IsListIter s.heap.objs.size l i := ⟨o, hIo, hc, hd⟩
  have Nt : News h₀ env.locals h' led' := fun p hp => N' p (.tail _ hp)
  have hls : h'.IsList l vs.toArray := hl i m' led' h' J' F' Nt
  have hne : ∀ p ∈ led', p.1 ≠ s.heap.objs.size := by
    intro p hp
    have := List.mem_map_of_mem (f := (·.1)) hp
    rw [hadr _ _ _ J'] at this
    obtain ⟨q, hq, e⟩ := List.mem_map.mp this
    exact e ▸ Nat.ne_of_lt (Heap.lt_size (N q hq).1)
  by_cases hlt : i < vs.length
  · obtain ⟨v, hv⟩ : ∃ v, vs[i]? = some v := ⟨_, List.getElem?_eq_getElem hlt⟩
    refine wpAny_pyNext_list_item (x := v) hit hls (by simpa using hv) fun h₁ hit₁ hs₁ => ?_
    obtain ⟨o₁, ho₁, hc₁, hd₁⟩ := hit₁
    have F₁ := F'.change hs₁ (N' _ (.head _)).2.1 (N' _ (.head _)).2.2
    have N₁ : News h₀ env.locals h₁ ((s.heap.objs.size, o₁) :: led') := by
      intro p hp
      rcases List.mem_cons.mp hp with rfl | hp
      · exact ⟨ho₁, (N' _ (.head _)).2.1, (N' _ (.head _)).2.2⟩
      · have q := hne p hp
        exact ⟨(hs₁.2 p.1 q).trans (N' p (.tail _ hp)).1, (N' p (.tail _ hp)).2.1, (N' p (.tail _ hp)).2.2⟩
    refine wpAny_assign_Name (wpAny_storeName_local hx F₁.ns (fun h₂ hn₂ hs₂ => ?_) hp)
    have F₂ := F₁.set hn₂ hs₂
    refine G_mono (turn i v m' led' h₂ _ s.heap.objs.size o₁ hv J' hc₁ F₂ (N₁.set hs₂)) (fun f s₃ h₃ => ?_) hE
    refine hideGoal fun GG out => ?_
    obtain ⟨hf, h₃', tk₃, m₂, led₂, rfl, hI₃⟩ := h₃
    have F₃ := hI₃.1
    have N₃ := hI₃.2.1
    have J₃ := hI₃.2.2
    refine out ?_
    have fin : ∃ k', k' < vs.length - i ∧ ∃ h' tk m' led' i₁ o, ({ s with heap := h₃', toks := tk₃ } : Shared) = { s with heap := h', toks := tk } ∧ o.cls = .type "list_iterator" ∧ o.data = .fields #[.ref l, .int (i₁ : Nat) 0] ∧ Fr h₀ env.locals h' m' ∧ News h₀ env.locals h' ((s.heap.objs.size, o) :: led') ∧ J i₁ m' led' ∧ i₁ ≤ vs.length ∧ k' = vs.length - i₁ :=
      ⟨vs.length - (i + 1), by omega, h₃', tk₃, m₂, led₂, i + 1, o₁, rfl, hc₁, hd₁, F₃, N₃, J₃, hlt, rfl⟩
    rcases hf with rfl | rfl <;> exact fin
  · have hin : i = vs.length := by omega
    subst hin
    refine wpAny_pyNext_list_end hh hit hls (by simp) fun h₁ hk₁ => ?_
    refine done h₁ tk m' led' ?_ ?_ J'
    · obtain ⟨oL, a1, a2, hoL, a3⟩ := F'.ns
      refine ⟨⟨oL, a1, a2, hk₁ _ _ (fun e => (N' _ (.head _)).2.1 e.symm) hoL, a3⟩, fun b x e => hk₁ _ _ (fun q => ?_) (F'.keep b x e), F'.above⟩
      subst q
      have := (N' _ (.head _)).2.2
      rw [e] at this; cases this
    · intro p hp
      exact ⟨hk₁ _ _ (hne p hp) (Nt p hp).1, (Nt p hp).2⟩
end

end
section
section
variable {prog : Program} {w : World} {A : Around} {E : Value → Shared → Prop} {Q : Flow → Shared → Prop} {s : Shared} {env : Env} {h₀ : Heap} {L : Addr}
theorem kstB_self {ps : List (Str × Value)} {u : Str → Option Value} (h : ∀ p ∈ ps, u p.1 = some p.2) : kstB u ps = u := by
  funext y; exact kstB_eq h fun _ => rfl
theorem kstB_self' {ps : List (Str × Value)} {u : Str → Option Value} {x : Str} {v : Value} (h : ∀ p ∈ ps, u p.1 = some p.2) : (fun y => if y = x then some v else kstB u ps y) = fun y => if y = x then some v else u y := by
  rw [kstB_self h]
/-- the end of a turn over wpG -/
noncomputable def GEnd {σ : Type} (h₀ : Heap) (L : Addr) (s : Shared) (Led : σ → List (Addr × Obj)) (ps : σ → List (Str × Value)) (P : σ → Prop) (own : List (Addr × Obj)) (f : Flow) (s₃ : Shared) : Prop :=
  (f = .next ∨ f = .cont) ∧ ∃ (c : σ) (h' : Heap) (tk : Nat) (m' : Str → Option Value) (led' : List (Addr × Obj)), s₃ = { s with heap := h', toks := tk } ∧ Fr h₀ L h' m' ∧ News h₀ L h' led' ∧ (∀ p ∈ own ++ Led c, p ∈ led') ∧ (∀ p ∈ ps c, m' p.1 = some p.2) ∧ P c
theorem gend {σ : Type} {Led : σ → List (Addr × Obj)} {ps : σ → List (Str × Value)} {P : σ → Prop} {own : List (Addr × Obj)} {h' : Heap} {tk : Nat} {m' : Str → Option Value} {led' : List (Addr × Obj)} (c : σ)
    (F : Fr h₀ L h' m') (N : News h₀ L h' led') (hn : ∀ p ∈ own ++ Led c, p ∈ led') (hk : ∀ p ∈ ps c, m' p.1 = some p.2) (hp : P c) : GEnd h₀ L s Led ps P own .next { s with heap := h', toks := tk } :=
  ⟨.inl rfl, c, h', tk, m', led', rfl, F, N, hn, hk, hp⟩
theorem G_whileState {σ : Type} {test : PySem.Expr} {body : List Stmt} {pos : Pos} {m : Str → Option Value} {led : List (Addr × Obj)} (Led : σ → List (Addr × Obj)) (ps : σ → List (Str × Value)) (P : σ → Prop) (μ : σ → Nat) (c₀ : σ)
    (F : Fr h₀ L s.heap m) (N : News h₀ L s.heap led) (hn : ∀ p ∈ Led c₀, p ∈ led) (hk : ∀ p ∈ ps c₀, m p.1 = some p.2) (hp : P c₀)
    (turn : ∀ (c : σ) (u : Str → Option Value) h tk, P c → Fr h₀ L h (kstB u (ps c)) → News h₀ L h (Led c) →
      wpAny (model prog w) A (isTrue test env (eval test env)) (fun b s₂ =>
        if b = true then wpG (model prog w) A (execs body env) (GEnd h₀ L s Led ps (fun c' => P c' ∧ μ c' < μ c) []) E s₂ else Q .next s₂) E { s with heap := h, toks := tk })
    (hE : PassesOwn (model prog w) A env E := by passes_own) :
    wpG (model prog w) A (exec (.While test body [] pos) env) Q E s := by
  refine G_while (fun n s₁ => ∃ c h tk u, s₁ = { s with heap := h, toks := tk } ∧ P c ∧ Fr h₀ L h u ∧ (∀ p ∈ ps c, u p.1 = some p.2) ∧ News h₀ L h (Led c) ∧ μ c = n) (μ c₀) ⟨c₀, s.heap, s.toks, m, rfl, hp, F, hk, fun p hp => N p (hn p hp), rfl⟩ ?_ hE
  intro n s₁ hI
  refine hideGoal fun GG out => ?_
  obtain ⟨c, h, tk, u, rfl, hI⟩ := hI
  have hP := hI.1
  have Fu := hI.2.1
  have hu := hI.2.2.1
  have Nu := hI.2.2.2.1
  have hkk := hI.2.2.2.2
  subst hkk
  refine out ?_
  clear out GG
  refine wpAny_mono (turn c u h tk hP (by rw [kstB_self hu]; exact Fu) Nu) (fun b s₂ h₂ => ?_) fun _ _ x => x
  cases b with
  | false => simpa using h₂
  | true =>
    simp only [if_true] at h₂ ⊢
    refine G_mono h₂ (fun f s₃ h₃ => ?_) fun _ _ x => x
    refine hideGoal fun GG out => ?_
    obtain ⟨hf, c', h', tk', m', led', rfl, hI⟩ := h₃
    exact out ⟨hf, μ c', hI.2.2.2.2.2, c', h', tk', m', rfl, hI.2.2.2.2.1, hI.1, hI.2.2.2.1, fun p hp => hI.2.1 p (hI.2.2.1 p (by simpa using hp)), rfl⟩
theorem G_forState {σ : Type} {x : Str} {px pos : Pos} {iter : PySem.Expr} {body : List Stmt} {m : Str → Option Value} {led : List (Addr × Obj)} {l : Addr} {vs : List Value} {n : Nat} (Led : σ → List (Addr × Obj)) (ps : σ → List (Str × Value)) (P : Nat → σ → Prop) (c₀ : σ)
    (hx : env.kindOf x = some .local) (hp : (env.scope.kind == .class || (env.scope.kind == .module && env.locals != env.globals)) = false) (hh : A.handled = none)
    (F : Fr h₀ env.locals s.heap m) (N : News h₀ env.locals s.heap led) (hn : ∀ p ∈ Led c₀, p ∈ led) (hk : ∀ p ∈ ps c₀, m p.1 = some p.2) (hP : P 0 c₀)
    (hl : (∀ c, (l, listOf vs.toArray n) ∈ Led c) ∨ h₀.IsList l vs.toArray) (hadr : ∀ c, (Led c).map (·.1) = (Led c₀).map (·.1))
    (turn : ∀ (c : σ) i v (u : Str → Option Value) h tk I o, vs[i]? = some v → P i c → Fr h₀ env.locals h (fun y => if y = x then some v else kstB u (ps c) y) → News h₀ env.locals h ((I, o) :: Led c) → o.cls = .type "list_iterator" →
      wpG (model prog w) A (execs body env) (GEnd h₀ env.locals { s with heap := h, toks := tk } Led ps (P (i + 1)) [(I, o)]) E { s with heap := h, toks := tk })
    (done : ∀ (c : σ) (u : Str → Option Value) h tk, P vs.length c → Fr h₀ env.locals h (kstB u (ps c)) → News h₀ env.locals h (Led c) → Q .next { s with heap := h, toks := tk })
    (hE : PassesOwn (model prog w) A env E := by passes_own) :
    wpAny (model prog w) A (pyIter (.ref l)) (fun it s₂ => codeG (model prog w) A (.forLoop (.Name x px) it body [] env) (fun r s' => match r with | .ok f => Q f s' | .error e => cameBackBy (model prog w) A env E e s') s₂) E s := by
  refine G_forList (px := px) (pos := px) (iter := .Name x px) (led := Led c₀) (vs := vs) (fun i m' led' => ∃ c, led' = Led c ∧ (∀ p ∈ ps c, m' p.1 = some p.2) ∧ P i c) hx hp hh F (fun p hp => N p (hn p hp)) ⟨c₀, rfl, hk, hP⟩ ?_ ?_ ?_ ?_ hE
  · rintro i m' led' h' ⟨c, rfl, -, -⟩ F' N'
    rcases hl with hl | hl
    · exact ⟨_, (N' _ (hl c)).1, rfl, _, rfl⟩
    · obtain ⟨o, ho, r⟩ := hl
      exact ⟨o, F'.keep _ _ ho, r⟩
  · rintro i m' led' ⟨c, rfl, -, -⟩; exact hadr c
  · rintro i v m₁ led₁ h tk I o hv ⟨c, rfl, hk₁, hP₁⟩ hc F₁ N₁
    refine G_mono (turn c i v m₁ h tk I o hv hP₁ (by rw [kstB_self' hk₁]; exact F₁) N₁ hc) (fun f s₃ h₃ => ?_) fun _ _ x => x
    · obtain ⟨hf, c', h', tk', m', led', rfl, F', N', hn', hk', hP'⟩ := h₃
      exact ⟨hf, h', tk', m', Led c', rfl, F', fun p hp => N' p (hn' p (by simpa using hp)), c', rfl, hk', hP'⟩
  · rintro h' tk m' led' F' N' ⟨c, rfl, hk', hP'⟩
    exact done c m' h' tk hP' (by rw [kstB_self hk']; exact F') N'
end
section
variable {M : Model} {A : Around} {E : Value → Shared → Prop} {s : Shared} {env : Env}
theorem G_callWith_method1 {pos : Pos} {id : String} {first : List Value} {e : PySem.Expr} {Q : Value → Shared → Prop}
    (h : wpG M A (spliced (backTo pos (starEach [e] env))) (fun vs s₁ => wpG M A (call (.builtin id) (first ++ vs)) Q E s₁) E s)
    (he : starEach [e] env = [(false, eval e env)] := by rfl) :
    wpG M A (callWith pos (.builtin id) first (backTo pos (starEach [e] env)) []) Q E s := by
  rw [he] at h ⊢
  exact G_callWith_builtin (by rfl) (G_evalArgs h)
end
noncomputable def BaOn (v : Value) (s : Shared) (P : Prop) : Prop := ∃ a b, v = .ref a ∧ s.heap.get? a = some (BA.ba b) ∧ P
theorem BaOn.mk {h₀ : Heap} {L a : Addr} {b : Array UInt8} {s : Shared} {led : List (Addr × Obj)} {P : Prop} (N : News h₀ L s.heap led) (hm : (a, BA.ba b) ∈ led) (h : P) : BaOn (.ref a) s P := ⟨a, b, rfl, (N _ hm).1, h⟩
theorem G_Call_ba {prog : Program} {w : World} {A : Around} {E : Value → Shared → Prop} {s : Shared} {env : Env} {o : PySem.Expr} {name : Str} {apos pos : Pos} {args : List PySem.Expr} {id : String} {Q : Value → Shared → Prop}
    (hbase : attributeBase o name env (eval o env) = eval o env)
    (hfew : ((backTo pos (starEach args env)).all (fun x => !x.1) && (backToKw pos (keywordEach [] env)).all (fun x => x.1.isSome)
      && decide (args.length + ([] : List Keyword).length + (if ([] : List Keyword).isEmpty then 0 else 1) < 30)) = true)
    (hline : (apos.endLine == pos.line) = true)
    (slot : Slot "bytearray" name id) (hty : typeOf (.builtin id) = pure (.type "method_descriptor"))
    (h : wpAny (model prog w) A (eval o env) (fun ov s₁ => BaOn ov s₁ (wpG (model prog w) A (callWith pos (.builtin id) [ov] (backTo pos (starEach args env)) []) Q E s₁)) E s) :
    wpG (model prog w) A (eval (.Call (.Attribute o name apos) args [] pos) env) Q E s := by
  refine G_Call_method hbase hfew hline BA.plainAttrs slot hty (wpAny_mono h (fun ov s₁ h₁ => ?_) fun _ _ x => x)
  obtain ⟨a, b, rfl, ha, hP⟩ := h₁
  exact ⟨⟨_, ha, rfl⟩, fun a' e => by cases e; exact ⟨_, ha, rfl⟩, hP⟩
section
variable {prog : Program} {w : World} {A : Around} {E : Value → Shared → Prop} {s : Shared} {h₀ : Heap} {L a : Addr} {m : Str → Option Value} {pre post : List (Addr × Obj)} {b c : Array UInt8}
theorem ba_move {h h' : Heap} {o o' : Obj} (N : News h₀ L h (pre ++ (a, o) :: post)) (h1 : ∀ p ∈ pre, p.2.cls ≠ o.cls) (h2 : ∀ p ∈ post, p.1 < a) (e1 : h'.get? a = some o') (e2 : Heap.SameBut a h h') :
    News h₀ L h' (pre ++ (a, o') :: post) := by
  have ha := N _ (List.mem_append_right _ List.mem_cons_self)
  intro p hp
  rcases List.mem_append.mp hp with hp | hp
  · have hN := N p (List.mem_append_left _ hp)
    refine ⟨(e2.2 p.1 fun q => ?_).trans hN.1, hN.2⟩
    have := hN.1
    rw [q, ha.1] at this
    exact h1 p hp (by rw [← Option.some.inj this])
  · rcases List.mem_cons.mp hp with rfl | hp
    · exact ⟨e1, ha.2⟩
    · have hN := N p (List.mem_append_right _ (List.mem_cons_of_mem _ hp))
      exact ⟨(e2.2 p.1 (Nat.ne_of_lt (h2 p hp))).trans hN.1, hN.2⟩
theorem ba_append_at (pre : List (Addr × Obj)) {x : Int} {t : Tok} {Q : Value → Shared → Prop} (F : Fr h₀ L s.heap m) (N : News h₀ L s.heap (pre ++ (a, BA.ba b) :: post)) (hp1 : ∀ p ∈ pre, p.2.cls ≠ .type "bytearray") (hp2 : ∀ p ∈ post, p.1 < a) (h0 : 0 ≤ x) (h1 : x < 256) (hz : b.size + 1 ≤ sizeLine)
    (h : ∀ h', Fr h₀ L h' m → News h₀ L h' (pre ++ (a, BA.ba (b.push x.toNat.toUInt8)) :: post) → Q .none { s with heap := h' }) : wpG (model prog w) A (call (.builtin "bytearray.append") [.ref a, .int x t]) Q E s :=
  have ha := N _ (List.mem_append_right _ List.mem_cons_self)
  BA.append_G ha.1 h0 h1 hz fun h' e1 e2 => h h' (F.change e2 ha.2.1 ha.2.2) (ba_move N hp1 hp2 e1 e2)
theorem ba_extend_at (pre : List (Addr × Obj)) {t : Tok} {Q : Value → Shared → Prop} (F : Fr h₀ L s.heap m) (N : News h₀ L s.heap (pre ++ (a, BA.ba b) :: post)) (hp1 : ∀ p ∈ pre, p.2.cls ≠ .type "bytearray") (hp2 : ∀ p ∈ post, p.1 < a) (hz : b.size + c.size ≤ sizeLine)
    (h : ∀ h', Fr h₀ L h' m → News h₀ L h' (pre ++ (a, BA.ba (b ++ c)) :: post) → Q .none { s with heap := h' }) : wpG (model prog w) A (call (.builtin "bytearray.extend") [.ref a, .bytes c t]) Q E s :=
  have ha := N _ (List.mem_append_right _ List.mem_cons_self)
  BA.extend_G ha.1 hz fun h' e1 e2 => h h' (F.change e2 ha.2.1 ha.2.2) (ba_move N hp1 hp2 e1 e2)
end
theorem cls_none {o : Obj} (h : o.cls = .type "list_iterator") : o.cls ≠ .type "bytearray" := by rw [h]; decide

end
section
noncomputable def drain : Nat → List Int × Int × Int → List Int × Int × Int
  | 0, st => st
  | n + 1, st => if 6 ≤ st.2.2 then drain n (st.1 ++ [pySign (st.2.1 / 2 ^ (st.2.2 - 6).toNat)], st.2.1 % 2 ^ (st.2.2 - 6).toNat, st.2.2 - 6) else st
noncomputable def pkStep (st : List Int × Int × Int) (u : Int) : List Int × Int × Int := drain 3 (st.1, st.2.1 * 65536 + u, st.2.2 + 16)
noncomputable def pkFold (us : List Int) : List Int × Int × Int := us.foldl pkStep ([], 0, 0)
noncomputable def packed (us : List Int) : List Int := if 0 < (pkFold us).2.2 then (pkFold us).1 ++ [pySign ((pkFold us).2.1 * 2 ^ (6 - (pkFold us).2.2).toNat)] else (pkFold us).1
noncomputable def PkOk (pre bs : List Int) (r m : Int) : Prop := (bs, r, m) = pkFold pre ∧ 0 ≤ r ∧ r < 2 ^ m.toNat ∧ 0 ≤ m ∧ m < 6 ∧ 6 * (bs.length : Int) + m = 16 * pre.length
noncomputable def WOk (tgt : List Int × Int × Int) (tot : Int) (bs : List Int) (r m : Int) : Prop := ∃ k : Nat, drain k (bs, r, m) = tgt ∧ 0 ≤ r ∧ r < 2 ^ m.toNat ∧ 0 ≤ m ∧ m < 6 * k + 6 ∧ m ≤ 21 ∧ 6 * (bs.length : Int) + m = tot
theorem drain_end {st : List Int × Int × Int} (h : ¬ 6 ≤ st.2.2) : ∀ k, drain k st = st
  | 0 => rfl
  | k + 1 => by rw [drain, if_neg h]
theorem pySign_in {c : Int} (h0 : 0 ≤ c) (h1 : c < 64) : 0 ≤ pySign c ∧ pySign c < 128 := by
  unfold pySign; (repeat' split) <;> omega
theorem pk_0 : PkOk [] [] 0 0 := ⟨rfl, by decide, by decide, by decide, by decide, by decide⟩
theorem pk_start {pre bs : List Int} {r m u : Int} (h : PkOk pre bs r m) (hu : 0 ≤ u ∧ u < 65536) :
    WOk (pkFold (pre ++ [u])) (16 * pre.length + 16) bs (Builtin.bitOr (r * 2 ^ Int.toNat 16) u) (m + 16) := by
  obtain ⟨h0, h1, h2, h3, h4, h5⟩ := h
  have e : Builtin.bitOr (r * 2 ^ Int.toNat 16) u = r * 65536 + u := or_shl (r := r) (v := u) 16 h1 hu.1 hu.2
  rw [e]
  refine ⟨3, ?_, by omega, ?_, by omega, by omega, by omega, by omega⟩
  · show _ = List.foldl pkStep ([], 0, 0) (pre ++ [u])
    rw [List.foldl_append]
    show _ = pkStep (pkFold pre) u
    rw [← h0]; rfl
  · have e2 : (m + 16).toNat = m.toNat + 16 := by omega
    rw [e2, Int.pow_add]
    have : r + 1 ≤ 2 ^ m.toNat := h2
    have := Int.mul_le_mul_of_nonneg_right this (by decide : (0 : Int) ≤ 65536)
    have h64 : (2 : Int) ^ 16 = 65536 := by decide
    rw [h64]; omega
theorem w_step {tgt : List Int × Int × Int} {tot : Int} {bs : List Int} {r m : Int} (h : WOk tgt tot bs r m) (hc : 6 ≤ m) :
    WOk tgt tot (bs ++ [pySign (r.fdiv (2 ^ (m - 6).toNat))]) (Builtin.bitAnd r (1 * 2 ^ (m - 6).toNat - 1)) (m - 6) := by
  obtain ⟨k, h0, h1, h2, h3, h4, h5, h6⟩ := h
  cases k with
  | zero => omega
  | succ k =>
    rw [drain, if_pos hc] at h0
    rw [mask_eq, shr_eq]
    refine ⟨k, h0, Int.emod_nonneg _ (Int.ne_of_gt (kbt_pos _)), Int.emod_lt_of_pos _ (kbt_pos _), by omega, by omega, by omega, ?_⟩
    simp only [List.length_append, List.length_singleton]; omega
theorem w_sign {tgt : List Int × Int × Int} {tot : Int} {bs : List Int} {r m : Int} (h : WOk tgt tot bs r m) (hc : 6 ≤ m) : 0 ≤ pySign (r.fdiv (2 ^ (m - 6).toNat)) ∧ pySign (r.fdiv (2 ^ (m - 6).toNat)) < 128 := by
  obtain ⟨k, h0, h1, h2, h3, h4, h5, h6⟩ := h
  rw [shr_eq]
  refine pySign_in (Int.ediv_nonneg h1 (Int.le_of_lt (kbt_pos _))) ?_
  refine Int.ediv_lt_of_lt_mul (kbt_pos _) ?_
  have e : m.toNat = 6 + (m - 6).toNat := by omega
  rw [e, Int.pow_add] at h2
  exact h2
theorem w_end {pre bs : List Int} {u r m : Int} (h : WOk (pkFold (pre ++ [u])) (16 * pre.length + 16) bs r m) (hc : ¬ 6 ≤ m) : PkOk (pre ++ [u]) bs r m := by
  obtain ⟨k, h0, h1, h2, h3, h4, h5, h6⟩ := h
  rw [drain_end hc] at h0
  refine ⟨h0, h1, h2, h3, by omega, ?_⟩
  simp only [List.length_append, List.length_singleton]; omega
theorem pk_last {us bs : List Int} {r m : Int} (h : PkOk us bs r m) (hc : 0 < m) : packed us = bs ++ [pySign (r * 2 ^ (6 - m).toNat)] ∧ 0 ≤ pySign (r * 2 ^ (6 - m).toNat) ∧ pySign (r * 2 ^ (6 - m).toNat) < 128 := by
  obtain ⟨h0, h1, h2, h3, h4, h5⟩ := h
  refine ⟨?_, pySign_in (Int.mul_nonneg h1 (Int.le_of_lt (kbt_pos _))) ?_⟩
  · unfold packed; rw [← h0]; exact if_pos hc
  · have e : (2 : Int) ^ m.toNat * 2 ^ (6 - m).toNat = 64 := by
      rw [← Int.pow_add, show m.toNat + (6 - m).toNat = 6 from by omega]; decide
    calc r * 2 ^ (6 - m).toNat < 2 ^ m.toNat * 2 ^ (6 - m).toNat := Int.mul_lt_mul_of_pos_right h2 (kbt_pos _)
      _ = 64 := e
theorem pk_none {us bs : List Int} {r m : Int} (h : PkOk us bs r m) (hc : ¬ 0 < m) : packed us = bs := by
  obtain ⟨h0, h1, h2, h3, h4, h5⟩ := h
  unfold packed; rw [← h0]; exact if_neg hc
theorem byteArr_push (bs : List Int) (x : Int) : (byteArr bs).push x.toNat.toUInt8 = byteArr (bs ++ [x]) := by simp [byteArr]
theorem pow_le_c {m : Int} {k : Nat} (h1 : m ≤ k) : (2 : Int) ^ m.toNat ≤ 2 ^ k := by
  have : m.toNat ≤ k := by omega
  have h := Nat.pow_le_pow_right (n := 2) (by decide) this
  have h' : ((2 ^ m.toNat : Nat) : Int) ≤ ((2 ^ k : Nat) : Int) := Int.ofNat_le.mpr h
  rw [kbt_cast, kbt_cast] at h'; exact h'
theorem PkOk.facts {pre bs : List Int} {r m : Int} (h : PkOk pre bs r m) : 0 ≤ r ∧ r < 64 ∧ 0 ≤ m ∧ m < 6 ∧ 6 * (bs.length : Int) ≤ 16 * pre.length := by
  obtain ⟨h0, h1, h2, h3, h4, h5⟩ := h
  have := pow_le_c (m := m) (k := 6) (by omega)
  have e : (2 : Int) ^ 6 = 64 := by decide
  omega
theorem WOk.facts {tgt : List Int × Int × Int} {tot : Int} {bs : List Int} {r m : Int} (h : WOk tgt tot bs r m) : 0 ≤ r ∧ r < 2097152 ∧ 0 ≤ m ∧ m ≤ 21 ∧ 6 * (bs.length : Int) ≤ tot := by
  obtain ⟨k, h0, h1, h2, h3, h4, h5, h6⟩ := h
  have := pow_le_c (m := m) (k := 21) (by omega)
  have e : (2 : Int) ^ 21 = 2097152 := by decide
  omega

end
section
section
set_option maxHeartbeats 2000000 in
theorem packed_ctr (w : World) (news : List (Addr × Obj)) (l : Addr) (vs : List Value) (ns : List Int) (n : Nat) (hm : (l, listOf vs.toArray n) ∈ news) (hi : IntsAre vs ns) (hn : ns.length ≤ 100) (hr : ∀ c ∈ ns, 0 ≤ c ∧ c ≤ 1114111) :
    CtrG w 129 [.ref l, .bool true] news 3 60 (fun v led => ∃ t, .bytes (byteArr (packed (pyUnits ns))) t = v ∧ news = led) (fun _ _ => False) := by
  k_with_none
  k_with "call ref" => refine Stop.mk ?_
  k_with "pyIter ref" => refine Stop.mk ?_
  (unfold CtrG; k_fill; intros; rename_i hret hexc; refine G_call ?_; k_dflt (refine' code_def_G ?k1 ?k2 ?k3 ?k4 ?k5 ?kA ?kF ?kK ?k6 ?k7 ?k8 ?k9 ?kB ?_ ?c2 ?c3 ?c4 ?c5; (case kA => exact rfl); (case kF => exact rfl); (case kK => assumption); (case k1 => k_asm); (case k2 => k_asm); (case k3 => k_asm); (case k4 => k_asm); (case k5 => k_asm); (case k6 => k_is); (case k7 => k_is); (case k8 => ktr_room); (case k9 => exact BindsTo.of_eq rfl); (case c5 => decide); (case kB => exact locs rfl); (case c2 => exact rfl); (case c3 => exact rfl); (case c4 => exact rfl); k_whole; intro g' L' h' FG' F' N' B' X' T' hLt'; (try dsimp only); (try k_lift B'); (try k_fold)))
  refine G_execs_cons (G_Assign_Tuple_swapped (G_Tuple (G_args_cons (G_Call ?_))))
  k_steps
  refine G_callWith_type0 ?_
  (with_reducible rename Fr _ _ _ _ => lF')
  (with_reducible rename News _ _ _ _ => lN')
  refine ba_new_K lF' lN' ?_
  intro ba h1 F1 N1 hlt1
  clear lF' lN'
  k_steps
  refine G_execs_cons (G_For ?_)
  k_steps
  with_reducible refine Stop.out ?_
  (with_reducible rename News _ _ _ _ => lN')
  have lN2 := News.tail lN'
  clear lN'
  (refine' Ctr.use (units_ctr w _ l vs ns n (List.mem_cons_of_mem _ hm) hi hn) ?k1 ?k2 ?k3 ?k4 ?k5 ?kK ?kd ?ku ?_; (case k1 => k_asm); (case k2 => k_asm); (case k3 => k_asm); (case k4 => k_asm); (case k5 => k_asm); (case kK => first | exact rfl | assumption); (case kd => ktr_room); (case ku => ktr_units); intro cv cled h' tk' hR F' N'; revert N'; apply RInts.elim hR; clear hR; intro l9 vs9 us9 n9 hi9 hu9 hA9 N'; subst hu9; (try dsimp only); (try k_fold))
  k_steps
  with_reducible refine Stop.out ?_
  (with_reducible rename Fr _ _ _ _ => lF')
  (with_reducible rename News _ _ _ _ => lN')
  refine' G_forState (σ := List Int × Int × Tok × Int × Tok) (m := _) (led := _) (vs := vs9) (n := n9) (iter := .Constant .none 0 default) (pos := default) (fun c => (l9, listOf vs9.toArray n9) :: (ba, BA.ba (byteArr c.1)) :: news) (fun c => [(Str.ofString "found", .ref ba), (Str.ofString "rest", .int c.2.1 c.2.2.1), (Str.ofString "many", .int c.2.2.2.1 c.2.2.2.2), (Str.ofString "is_mail", .bool true)])
    (fun i c => PkOk ((pyUnits ns).take i) c.1 c.2.1 c.2.2.2.1) ([], 0, _, 0, _) (by rfl) (by rfl) (by rfl) lF' lN' (fun p hp => hp) ?kk ?kp (.inl fun c => List.mem_cons_self) (fun c => rfl) ?turn ?done ?pass
  case kk => kst_all
  case kp => exact pk_0
  case pass => passes_own
  case turn =>
    rintro ⟨bs, r, tr, mm, tm⟩ i v u9 h9 tk9 I o hv9 hP9 F9 N9 ho9
    clear lF' lN'
    have F9 : Fr g' L' h9 _ := F9
    have N9 : News g' L' h9 _ := N9
    dsimp only at hP9 F9 N9 ⊢
    simp only [kstB] at F9
    obtain ⟨x, t, rfl, hx9⟩ := IntsAre.at hi9 i v hv9
    have hxr := pyUnits_in hr x (List.mem_of_getElem? hx9)
    have hP := hP9
    obtain ⟨q1, q2, q3, q4, q5⟩ := hP9.facts
    refine G_execs_cons (G_of ?_)
    try k_fold
    k_steps
    refine G_execs_cons (G_of ?_)
    try k_fold
    k_steps
    refine G_execs_cons ?_
    (with_reducible rename Fr _ _ _ _ => lF')
    (with_reducible rename News _ _ _ _ => lN')
    refine' G_whileState (σ := List Int × Int × Tok × Int × Tok) (fun c => (I, o) :: (l9, listOf vs9.toArray n9) :: (ba, BA.ba (byteArr c.1)) :: news) (fun c => [(Str.ofString "found", .ref ba), (Str.ofString "rest", .int c.2.1 c.2.2.1), (Str.ofString "many", .int c.2.2.2.1 c.2.2.2.2), (Str.ofString "is_mail", .bool true)])
      (fun c => WOk (pkFold ((pyUnits ns).take i ++ [x])) (16 * ((pyUnits ns).take i).length + 16) c.1 c.2.1 c.2.2.2.1) (fun c => c.2.2.2.1.toNat) (bs, _, _, _, _) lF' lN' (fun p hp => hp) ?kk ?kp ?turn ?pass
    case kk => kst_all
    case kp => exact pk_start hP hxr
    case pass => passes_own
    rintro ⟨cs, r2, t2, m2, t3⟩ u8 h8 tk8 hW F8 N8
    clear lF' lN'
    dsimp only at hW F8 N8 ⊢
    simp only [kstB] at F8
    obtain ⟨p1, p2, p3, p4, p5⟩ := hW.facts
    k_steps
    · refine G_execs_cons (G_of ?_)
      try k_fold
      k_steps
      (refine G_execs_cons (G_Expr (G_Call_ba (by rfl) (by rfl) (by rfl) BA.slot_append BA.type_append ?_)); k_steps; (with_reducible rename News _ _ _ _ => lN'); refine BaOn.mk lN' (by first | exact List.mem_cons_self | exact List.mem_cons_of_mem _ List.mem_cons_self | exact List.mem_cons_of_mem _ (List.mem_cons_of_mem _ List.mem_cons_self)) ?_; refine G_callWith_method1 ?_)
      refine G_of ?_
      try k_fold
      k_steps
      with_reducible refine Stop.out ?_
      (refine' Ctr.use (sign_ctr _ _ _ _) ?k1 ?k2 ?k3 ?k4 ?k5 ?kK ?kd ?ku ?_; (case k1 => k_asm); (case k2 => k_asm); (case k3 => k_asm); (case k4 => k_asm); (case k5 => k_asm); (case kK => first | exact rfl | assumption); (case kd => ktr_room); (case ku => ktr_units); intro cv cled h' tk' hR F' N'; revert N'; apply RInt.elim hR; clear hR; intro ct N'; (try dsimp only); (try k_fold))
      k_steps
      (with_reducible rename Fr _ _ _ _ => lF')
      (with_reducible rename News _ _ _ _ => lN')
      have hsg := w_sign hW (by assumption)
      refine ba_append_at [(I, o), (l9, listOf vs9.toArray n9)] lF' lN' ?p1 hlt1 hsg.1 (by omega) ?p2 ?_
      case p1 =>
        intro p hp
        rcases List.mem_cons.mp hp with rfl | hp
        · exact cls_none ho9
        · rw [List.mem_singleton.mp hp]; show Value.type "list" ≠ Value.type "bytearray"; decide
      case p2 =>
        have hsz : sizeLine = 16777216 := by decide
        have hpl : ((pyUnits ns).take i).length ≤ 200 := by
          have := pyUnits_len ns
          rw [List.length_take]; omega
        rw [byteArr_size, hsz]; omega
      rw [byteArr_push]
      intro h7 F7 N7
      clear lF' lN'
      dsimp only
      refine G_execs_cons (G_of ?_)
      try k_fold
      k_steps
      refine G_execs_nil ?_
      (with_reducible rename Fr _ _ _ _ => lF')
      (with_reducible rename News _ _ _ _ => lN')
      refine' gend (_, Builtin.bitAnd r2 (1 * 2 ^ (m2 - 6).toNat - 1), _, m2 - 6, _) lF' lN' (by intro p hp; exact hp) ?kk ?pp
      case kk => kst_all
      case pp =>
        refine ⟨w_step hW (by assumption), ?_⟩
        dsimp only; omega
    · refine G_execs_nil ?_
      (with_reducible rename Fr _ _ _ _ => lF')
      (with_reducible rename News _ _ _ _ => lN')
      refine gend (cs, r2, t2, m2, t3) lF' lN' (by intro p hp; exact hp) ?_ ?_
      · kst_all
      · have e : (pyUnits ns).take i ++ [x] = (pyUnits ns).take (i + 1) := by rw [List.take_add_one, hx9]; rfl
        dsimp only
        rw [← e]
        exact w_end hW (by assumption)
  case done =>
    rintro ⟨bs, r, tr, mm, tm⟩ u9 h9 tk9 hP9 F9 N9
    clear lF' lN'
    have F9 : Fr g' L' h9 _ := F9
    have N9 : News g' L' h9 _ := N9
    have hP : PkOk (pyUnits ns) bs r mm := by
      have e : (pyUnits ns).take vs9.length = pyUnits ns := List.take_of_length_le (by rw [hi9.length]; exact Nat.le_refl _)
      rw [e] at hP9; exact hP9
    clear hP9
    dsimp only at F9 N9 ⊢
    simp only [kstB] at F9
    obtain ⟨q1, q2, q3, q4, q5⟩ := hP.facts
    have hpl := pyUnits_len ns
    refine G_execs_cons (G_IfA ?_)
    k_steps
    · (refine G_execs_cons (G_Expr (G_Call_ba (by rfl) (by rfl) (by rfl) BA.slot_append BA.type_append ?_)); k_steps; (with_reducible rename News _ _ _ _ => lN'); refine BaOn.mk lN' (by first | exact List.mem_cons_self | exact List.mem_cons_of_mem _ List.mem_cons_self | exact List.mem_cons_of_mem _ (List.mem_cons_of_mem _ List.mem_cons_self)) ?_; refine G_callWith_method1 ?_)
      refine G_of ?_
      try k_fold
      k_steps
      with_reducible refine Stop.out ?_
      (refine' Ctr.use (sign_ctr _ _ _ _) ?k1 ?k2 ?k3 ?k4 ?k5 ?kK ?kd ?ku ?_; (case k1 => k_asm); (case k2 => k_asm); (case k3 => k_asm); (case k4 => k_asm); (case k5 => k_asm); (case kK => first | exact rfl | assumption); (case kd => ktr_room); (case ku => ktr_units); intro cv cled h' tk' hR F' N'; revert N'; apply RInt.elim hR; clear hR; intro ct N'; (try dsimp only); (try k_fold))
      k_steps
      (with_reducible rename Fr _ _ _ _ => lF')
      (with_reducible rename News _ _ _ _ => lN')
      have hsg := pk_last hP (by assumption)
      refine ba_append_at [(l9, listOf vs9.toArray n9)] lF' lN' ?p1 hlt1 hsg.2.1 (by omega) ?p2 ?_
      case p1 =>
        intro p hp
        rw [List.mem_singleton.mp hp]; show Value.type "list" ≠ Value.type "bytearray"; decide
      case p2 =>
        have hsz : sizeLine = 16777216 := by decide
        rw [byteArr_size, hsz]; omega
      rw [byteArr_push, ← hsg.1]
      have hpk : (packed (pyUnits ns)).length = bs.length + 1 := by rw [hsg.1]; simp
      intro h7 F7 N7
      clear lF' lN'
      dsimp only
      refine G_execs_nil ?_
      dsimp only
      refine G_execs_cons (G_of ?_)
      try k_fold
      k_steps
      (with_reducible rename Fr _ _ _ _ => lF')
      (with_reducible rename News _ _ _ _ => lN')
      refine BA.bytes_ba (lN' _ (List.mem_cons_of_mem _ List.mem_cons_self)).1 (by rw [byteArr_size, hpk]; have hsz : sizeLine = 16777216 := by decide
                                                                                   rw [hsz]; omega) ?_
      intro t5 k5
      k_steps
      exact hret _ _ _ _ ⟨_, rfl, rfl⟩ (by k_asm) (cb_drop (by assumption) (by kcj_all))
    · refine G_execs_nil ?_
      dsimp only
      refine G_execs_cons (G_of ?_)
      try k_fold
      k_steps
      (with_reducible rename Fr _ _ _ _ => lF')
      (with_reducible rename News _ _ _ _ => lN')
      rw [pk_none hP (by assumption)] at hret
      refine BA.bytes_ba (lN' _ (List.mem_cons_of_mem _ List.mem_cons_self)).1 (by rw [byteArr_size]; have hsz : sizeLine = 16777216 := by decide
                                                                                   rw [hsz]; omega) ?_
      intro t5 k5
      k_steps
      exact hret _ _ _ _ ⟨_, rfl, rfl⟩ (by k_asm) (cb_drop (by assumption) (by kcj_all))
end

end
section
section
variable {M : Model} {A : Around} {E : Value → Shared → Prop} {s : Shared} {env : Env} {K : Frag}
theorem G_callWith_of {f : Value} {pos : Pos} {P : Heap → Prop} {args : List (Bool × Sem Value)} {Q : Value → Shared → Prop} (hplain : args.any (·.1) = false)
    (hk : ∀ h, P h → ∃ k, (k = Keeper.frame ∨ k = Keeper.machine ∨ k = Keeper.boundFrame) ∧ Looks M h (keeperOf f) k)
    (h : wpAny M A (evalArgs f true args []) (fun a s₁ => P s₁.heap ∧ wpG M A (call f a.pos a.kw) Q E s₁) E s) : wpG M A (callWith pos f [] args []) Q E s := by
  unfold callWith
  refine G_bindA (wpAny_holding (wpAny_mono h (fun a s₁ h₁ => G_bindA (wpAny_standAt ?_)) fun _ _ x => x))
  obtain ⟨k, hk', L⟩ := hk _ h₁.1
  simp only [hplain]
  refine G_bindA (L.here ?_)
  have tail : ∀ {t : Sem Value}, wpG M A t Q E s₁ → wpG M A (t >>= fun r => holding [r] point >>= fun _ => pure r) Q E s₁ :=
    fun ht => G_bind (G_mono ht (fun r s₂ hr => G_of (wpAny_bind (wpAny_holding (wpAny_point (wpAny_pure hr))))) fun _ _ x => x)
  have marked (mk : Value) : wpG M A (callMarked mk f a.pos a.kw) Q E s₁ := by unfold callMarked; exact G_keep h₁.2
  rcases hk' with rfl | rfl | rfl <;> (try dsimp only) <;> first | exact tail h₁.2 | (refine G_ite ?_; split <;> first | exact tail h₁.2 | exact tail (marked _))
theorem G_callWith_K {f : Value} {pos : Pos} {e : PySem.Expr} {rest : List PySem.Expr} {Q : Value → Shared → Prop} (hk : keepIn K f = true)
    (h : wpAny M A (spliced (backTo pos (starEach (e :: rest) env))) (fun vs s₁ => K.In s₁.heap ∧ wpG M A (call f vs) Q E s₁) E s)
    (he : starEach (e :: rest) env = (false, eval e env) :: starEach rest env := by rfl) (hplain : (backTo pos (starEach rest env)).any (·.1) = false := by rfl) :
    wpG M A (callWith pos f [] (backTo pos (starEach (e :: rest) env)) []) Q E s := by
  rw [he] at h ⊢
  exact G_callWith_of (P := K.In) (by show (false || (backTo pos (starEach rest env)).any (·.1)) = false; rw [hplain]; rfl) (keeps_K hk) (Calls.evalArgs_plain h)
/-- a test joined: what it tells is c -/
noncomputable def Joined (h₀ : Heap) (L : Addr) (m : Str → Option Value) (led : List (Addr × Obj)) (s : Shared) (c : Bool) (b : Bool) (s₂ : Shared) : Prop :=
  b = c ∧ ∃ h' tk, s₂ = { s with heap := h', toks := tk } ∧ Fr h₀ L h' m ∧ News h₀ L h' led
theorem Joined.mk {h₀ : Heap} {L : Addr} {m : Str → Option Value} {led : List (Addr × Obj)} {c b : Bool} {h' : Heap} {tk : Nat} (e : b = c) (F : Fr h₀ L h' m) (N : News h₀ L h' led) : Joined h₀ L m led s c b { s with heap := h', toks := tk } := ⟨e, h', tk, rfl, F, N⟩
theorem G_IfJ {h₀ : Heap} {L : Addr} {m : Str → Option Value} {led : List (Addr × Obj)} (c : Bool) {test : PySem.Expr} {body orelse : List Stmt} {pos : Pos} {Q : Flow → Shared → Prop} (_F : Fr h₀ L s.heap m) (_N : News h₀ L s.heap led)
    (h : wpAny M A (isTrue test env (eval test env)) (Joined h₀ L m led s c) E s)
    (h1 : c = true → ∀ h' tk, Fr h₀ L h' m → News h₀ L h' led → wpG M A (execs body env) Q E { s with heap := h', toks := tk })
    (h2 : c = false → ∀ h' tk, Fr h₀ L h' m → News h₀ L h' led → wpG M A (execs orelse env) Q E { s with heap := h', toks := tk }) :
    wpG M A (exec (.If test body orelse pos) env) Q E s := by
  refine G_If (G_of (wpAny_mono h (fun b s₂ h₂ => ?_) fun _ _ x => x))
  obtain ⟨rfl, h', tk, rfl, F, N⟩ := h₂
  cases b with
  | true => exact h1 rfl h' tk F N
  | false => exact h2 rfl h' tk F N
end
section
variable {prog : Program} {w : World} {A : Around} {E : Value → Shared → Prop} {Q : Flow → Shared → Prop} {s : Shared} {env : Env} {h₀ : Heap} {L : Addr}
theorem news_move {h h' : Heap} {o o' : Obj} {a : Addr} {pre post : List (Addr × Obj)} (N : News h₀ L h (pre ++ (a, o) :: post)) (h1 : ∀ p ∈ pre, p.1 ≠ a) (h2 : ∀ p ∈ post, p.1 ≠ a) (e1 : h'.get? a = some o') (e2 : Heap.SameBut a h h') :
    News h₀ L h' (pre ++ (a, o') :: post) := by
  have ha := N _ (List.mem_append_right _ List.mem_cons_self)
  intro p hp
  rcases List.mem_append.mp hp with hp | hp
  · have hN := N p (List.mem_append_left _ hp)
    exact ⟨(e2.2 p.1 (h1 p hp)).trans hN.1, hN.2⟩
  · rcases List.mem_cons.mp hp with rfl | hp
    · exact ⟨e1, ha.2⟩
    · have hN := N p (List.mem_append_right _ (List.mem_cons_of_mem _ hp))
      exact ⟨(e2.2 p.1 (h2 p hp)).trans hN.1, hN.2⟩
theorem list_append_at (pre : List (Addr × Obj)) {post : List (Addr × Obj)} {D : Addr} {its : List Value} {n : Nat} {x : Value} {m : Str → Option Value} {Q : Value → Shared → Prop} (F : Fr h₀ L s.heap m) (N : News h₀ L s.heap (pre ++ (D, listOf its.toArray n) :: post)) (h1 : ∀ p ∈ pre, p.1 ≠ D) (h2 : ∀ p ∈ post, p.1 ≠ D) (hz : its.length ≤ sizeLine)
    (h : ∀ h', Fr h₀ L h' m → News h₀ L h' (pre ++ (D, listOf (its ++ [x]).toArray (n + 1)) :: post) → Q .none { s with heap := h' }) : wpAny (model prog w) A (call (.builtin "list.append") [.ref D, x]) Q E s :=
  have ha := N _ (List.mem_append_right _ List.mem_cons_self)
  append_at (hsz := by simpa using hz) ha.1 fun h' e2 e1 => h h' (F.change e2 ha.2.1 ha.2.2) (news_move N h1 h2 (by rw [e1]; simp [W.listOf]) e2)
/-- a loop over a list whose body may rebind its lists: the iterator is told apart in P -/
theorem G_forStateI {σ : Type} {x : Str} {px : Pos} {body : List Stmt} {m : Str → Option Value} {led : List (Addr × Obj)} {l : Addr} {vs : List Value} {n : Nat} (Led : σ → List (Addr × Obj)) (ps : σ → List (Str × Value)) (P : Addr → Nat → σ → Prop) (c₀ : σ)
    (hx : env.kindOf x = some .local) (hp : (env.scope.kind == .class || (env.scope.kind == .module && env.locals != env.globals)) = false) (hh : A.handled = none)
    (F : Fr h₀ env.locals s.heap m) (N : News h₀ env.locals s.heap led) (hn : ∀ p ∈ Led c₀, p ∈ led) (hk : ∀ p ∈ ps c₀, m p.1 = some p.2) (hP : ∀ I, (∀ p ∈ led, p.1 < I) → P I 0 c₀)
    (hl : ∀ c, (l, listOf vs.toArray n) ∈ Led c) (hne : ∀ I i c, P I i c → ∀ p ∈ Led c, p.1 ≠ I)
    (turn : ∀ (c : σ) i v (u : Str → Option Value) h tk I o, vs[i]? = some v → P I i c → Fr h₀ env.locals h (fun y => if y = x then some v else kstB u (ps c) y) → News h₀ env.locals h ((I, o) :: Led c) → o.cls = .type "list_iterator" →
      wpG (model prog w) A (execs body env) (GEnd h₀ env.locals { s with heap := h, toks := tk } Led ps (P I (i + 1)) [(I, o)]) E { s with heap := h, toks := tk })
    (done : ∀ I (c : σ) (u : Str → Option Value) h tk, P I vs.length c → Fr h₀ env.locals h (kstB u (ps c)) → News h₀ env.locals h (Led c) → Q .next { s with heap := h, toks := tk })
    (hE : PassesOwn (model prog w) A env E := by passes_own) :
    wpAny (model prog w) A (pyIter (.ref l)) (fun it s₂ => codeG (model prog w) A (.forLoop (.Name x px) it body [] env) (fun r s' => match r with | .ok f => Q f s' | .error e => cameBackBy (model prog w) A env E e s') s₂) E s := by
  have N₀ : News h₀ env.locals s.heap (Led c₀) := fun p hp => N p (hn p hp)
  have hl₀ : s.heap.IsList l vs.toArray := ⟨_, (N₀ _ (hl c₀)).1, rfl, _, rfl⟩
  refine wpAny_pyIter_list hl₀ ?_
  have e0 : ∀ b o, s.heap.get? b = some o → (s.heap.push { cls := .type "list_iterator", data := .fields #[.ref l, .int 0 0] }).get? b = some o := fun b o e => Heap.get?_push_of_some _ e
  refine codeG_forLoop (fun k s₁ => ∃ h' tk u c i o, s₁ = { s with heap := h', toks := tk } ∧ o.cls = .type "list_iterator" ∧ o.data = .fields #[.ref l, .int (i : Nat) 0] ∧ Fr h₀ env.locals h' u ∧ News h₀ env.locals h' ((s.heap.objs.size, o) :: Led c) ∧ (∀ p ∈ ps c, u p.1 = some p.2) ∧ P s.heap.objs.size i c ∧ i ≤ vs.length ∧ k = vs.length - i) ?_ (vs.length)
    ⟨_, s.toks, m, c₀, 0, _, rfl, rfl, rfl, F.kept e0, News.kept_cons F N₀ e0 (Nat.le_refl _) (Heap.get?_push_size _ rfl), hk, hP _ (fun p hp => Heap.lt_size (N p hp).1), Nat.zero_le _, by omega⟩
  intro k s₁ hI
  refine hideGoal fun GG out => ?_
  obtain ⟨h', tk, u, c, i, o, rfl, hI⟩ := hI
  have hc := hI.1
  have hd := hI.2.1
  have F' := hI.2.2.1
  have N' := hI.2.2.2.1
  have hu := hI.2.2.2.2.1
  have hPc := hI.2.2.2.2.2.1
  have hi := hI.2.2.2.2.2.2.1
  have hkk := hI.2.2.2.2.2.2.2
  subst hkk
  refine out ?_
  clear out GG
  have hIo := (N' _ (.head _)).1
  have hit : h'.IsListIter s.heap.objs.size l i := ⟨o, hIo, hc, hd⟩
  have Nt : News h₀ env.locals h' (Led c) := fun p hp => N' p (.tail _ hp)
  have hls : h'.IsList l vs.toArray := ⟨_, (Nt _ (hl c)).1, rfl, _, rfl⟩
  have hnc := hne _ _ _ hPc
  by_cases hlt : i < vs.length
  · obtain ⟨v, hv⟩ : ∃ v, vs[i]? = some v := ⟨_, List.getElem?_eq_getElem hlt⟩
    refine wpAny_pyNext_list_item (x := v) hit hls (by simpa using hv) fun h₁ hit₁ hs₁ => ?_
    obtain ⟨o₁, ho₁, hc₁, hd₁⟩ := hit₁
    have F₁ := F'.change hs₁ (N' _ (.head _)).2.1 (N' _ (.head _)).2.2
    have N₁ : News h₀ env.locals h₁ ((s.heap.objs.size, o₁) :: Led c) := N'.setHead hnc hs₁ ho₁
    refine wpAny_assign_Name (wpAny_storeName_local hx F₁.ns (fun h₂ hn₂ hs₂ => ?_) hp)
    have F₂ := F₁.set hn₂ hs₂
    refine G_mono (turn c i v u h₂ _ s.heap.objs.size o₁ hv hPc (by rw [kstB_self' hu]; exact F₂) (N₁.set hs₂) hc₁) (fun f s₃ h₃ => ?_) hE
    refine hideGoal fun GG out => ?_
    obtain ⟨hf, c', h₃', tk₃, m₂, led₂, rfl, hI₃⟩ := h₃
    have F₃ := hI₃.1
    have N₃ := hI₃.2.1
    have hn₃ := hI₃.2.2.1
    have hk₃ := hI₃.2.2.2.1
    have hP₃ := hI₃.2.2.2.2
    refine out ?_
    have fin : ∃ k', k' < vs.length - i ∧ ∃ h' tk u c i₁ o, ({ s with heap := h₃', toks := tk₃ } : Shared) = { s with heap := h', toks := tk } ∧ o.cls = .type "list_iterator" ∧ o.data = .fields #[.ref l, .int (i₁ : Nat) 0] ∧ Fr h₀ env.locals h' u ∧ News h₀ env.locals h' ((s.heap.objs.size, o) :: Led c) ∧ (∀ p ∈ ps c, u p.1 = some p.2) ∧ P s.heap.objs.size i₁ c ∧ i₁ ≤ vs.length ∧ k' = vs.length - i₁ :=
      ⟨vs.length - (i + 1), by omega, h₃', tk₃, m₂, c', i + 1, o₁, rfl, hc₁, hd₁, F₃, fun p hp => N₃ p (hn₃ p (by simpa using hp)), hk₃, hP₃, hlt, rfl⟩
    rcases hf with rfl | rfl <;> exact fin
  · have hin : i = vs.length := by omega
    subst hin
    refine wpAny_pyNext_list_end hh hit hls (by simp) fun h₁ hk₁ => ?_
    refine done s.heap.objs.size c u h₁ tk hPc ?_ ?_
    · rw [kstB_self hu]
      obtain ⟨oL, a1, a2, hoL, a3⟩ := F'.ns
      refine ⟨⟨oL, a1, a2, hk₁ _ _ (fun e => (N' _ (.head _)).2.1 e.symm) hoL, a3⟩, fun b x e => hk₁ _ _ (fun q => ?_) (F'.keep b x e), F'.above⟩
      subst q
      have := (N' _ (.head _)).2.2
      rw [e] at this; cases this
    · intro p hp
      exact ⟨hk₁ _ _ (hnc p hp) (Nt p hp).1, (Nt p hp).2⟩
end
theorem told_at {g h h' : Heap} {L d : Addr} {led : List (Addr × Obj)} {es : Array DictEntry} {n : Nat} {v : Value} (U : h.UpToSlots h') (N : News g L h led) (hm : (d, dictO es n) ∈ led) (ht : ToldEs es v) : ToldAt v (some d) h' := by
  obtain ⟨sl, hs⟩ := U _ _ (N _ hm).1 (fun vs e => by cases e)
  exact ⟨d, es, n, sl, rfl, hs, ht⟩
theorem CtrG.use {w : World} {f : Addr} {args : List Value} {led : List (Addr × Obj)} {d u : Nat} {R : Value → List (Addr × Obj) → Prop} {RX : Addr → Value → Prop} (C : CtrG w f args led d u R RX) {mean : ExcName → Option Value} {mg mb : Str → Option Value} {dp un : Nat} {gd : Option (List Code)} {cn : Str} {cs : Scope} {a : Addr} {ccd : Value} {cl : List (Str × Addr)} {outer : List Env} {A₀ : Around} {base h₀ : Heap} {L : Addr} {m : Str → Option Value} {s : Shared} {Q E : Value → Shared → Prop}
    (B : Below A₀ base outer h₀) (F : Fr h₀ L s.heap m) (X : (hd.heap_39 w.params).In h₀) (N : News h₀ L s.heap led) (T : Top hd.view_39 (looseW hd.view_39 [Str.ofString "UniError"]) mean mg mb h₀) (hk : cs.kind = .function) (hd : dp + d < recursionLimit) (hu : un + u < cLine)
    (ret : ∀ v led' h' tk', R v led' → Fr h₀ L h' m → News h₀ L h' led' → Q v { s with heap := h', toks := tk' })
    (exc : ∀ e C dd h' tk' v, RX C v → FlyD base (envX cn cs L a ccd cl :: outer) e (.ref C) dd .none h' → ToldAt v dd h' → (∃ g₂, Fr h₀ L g₂ m ∧ g₂.UpToSlots h') → E (.ref e) { s with heap := h', toks := tk' }) :
    wpG (model PySem.Challenge.rw_nt0010_01.row.prog w) (ktrTop dp un gd cn cs L a ccd cl outer) (call (.ref f) args) Q E s :=
  C mean mg mb dp un gd cn cs a ccd cl outer A₀ base h₀ L m s Q E B F X N T hk hd hu ret exc
theorem G_step {M : Model} {A : Around} {E : Value → Shared → Prop} {s : Shared} {env : Env} {st : Stmt} {rest : List Stmt} {Q : Flow → Shared → Prop} (Q' : Shared → Prop)
    (h : wpG M A (exec st env) (fun f s' => f = .next ∧ Q' s') E s) (k : ∀ s', Q' s' → wpG M A (execs rest env) Q E s') : wpG M A (execs (st :: rest) env) Q E s :=
  G_execs_cons (G_mono h (fun f s' h' => by obtain ⟨rfl, h'⟩ := h'; exact k s' h') fun _ _ x => x)
noncomputable def plainC (x : Int) : Bool := decide (32 ≤ x ∧ x ≤ 126)
theorem plainC_1 {x : Int} (h : pyDirect x = true) : true = plainC x := by
  unfold pyDirect at h; unfold plainC; simp only [Bool.and_eq_true, decide_eq_true_eq] at h; exact (decide_eq_true h.1).symm
theorem plainC_2 {x : Int} (h : x = 38) : true = plainC x := by subst h; rfl
theorem plainC_3 {x : Int} (h : pyDirect x = false) (h2 : ¬ x = 38) : false = plainC x := by
  unfold pyDirect at h; unfold plainC
  have h3 : decide (x ≠ 38) = true := decide_eq_true h2
  rw [h3, Bool.and_true] at h; exact h.symm
/-- encode_mailbox, pure -/
noncomputable def flush (run : List Int) : List Int := if run = [] then [] else [38] ++ packed (pyUnits run) ++ [45]
noncomputable def encStep (st : List Int × List Int) (x : Int) : List Int × List Int :=
  if plainC x = true then (st.1 ++ flush st.2 ++ (if x = 38 then [38, 45] else [x]), []) else (st.1, st.2 ++ [x])
noncomputable def encFold (ns : List Int) : List Int × List Int := ns.foldl encStep ([], [])
noncomputable def encAll (ns : List Int) : List Int := (encFold ns).1 ++ flush (encFold ns).2
theorem encFold_snoc (ns : List Int) (x : Int) : encFold (ns ++ [x]) = encStep (encFold ns) x := by simp [encFold]
theorem drain_len : ∀ (k : Nat) (st : List Int × Int × Int), (drain k st).1.length ≤ st.1.length + k
  | 0, st => Nat.le_refl _
  | k + 1, st => by
    rw [drain]
    split
    · have := drain_len k (st.1 ++ [pySign (st.2.1 / 2 ^ (st.2.2 - 6).toNat)], st.2.1 % 2 ^ (st.2.2 - 6).toNat, st.2.2 - 6)
      simp only [List.length_append, List.length_singleton] at this ⊢
      omega
    · omega
theorem foldl_pk_len (us : List Int) : ∀ st : List Int × Int × Int, (us.foldl pkStep st).1.length ≤ st.1.length + 3 * us.length := by
  induction us with
  | nil => intro st; simp
  | cons u r ih =>
    intro st
    have h1 := ih (pkStep st u)
    have h2 := drain_len 3 (st.1, st.2.1 * 65536 + u, st.2.2 + 16)
    have e : pkStep st u = drain 3 (st.1, st.2.1 * 65536 + u, st.2.2 + 16) := rfl
    rw [← e] at h2
    simp only [List.foldl_cons, List.length_cons] at *
    omega
theorem packed_len (us : List Int) : (packed us).length ≤ 3 * us.length + 1 := by
  have h : (pkFold us).1.length ≤ 3 * us.length := by have := foldl_pk_len us ([], 0, 0); simpa [pkFold] using this
  unfold packed
  split
  · simp only [List.length_append, List.length_singleton]; omega
  · omega
theorem flush_len (run : List Int) : (flush run).length ≤ 6 * run.length + 3 := by
  unfold flush
  split
  · simp
  · have := packed_len (pyUnits run)
    have := pyUnits_len run
    simp only [List.length_append, List.length_singleton]; omega
noncomputable def EncOk (pre bs run : List Int) : Prop := (bs, run) = encFold pre ∧ (bs.length + 6 * run.length ≤ 10 * pre.length ∧ run.length ≤ pre.length) ∧ (∀ x ∈ run, 0 ≤ x ∧ x ≤ 1114111) ∧ ∀ x ∈ pre, pyScalar x = true
theorem enc_0 : EncOk [] [] [] := ⟨rfl, ⟨by decide, by decide⟩, (fun _ h => nomatch h), fun _ h => nomatch h⟩
theorem scalar_in {x : Int} (h : pyScalar x = true) : 0 ≤ x ∧ x ≤ 1114111 := by
  unfold pyScalar pyCode at h
  simp only [Bool.and_eq_true, decide_eq_true_eq] at h
  exact h.1
theorem mem_snoc {pre : List Int} {x : Int} (h : ∀ y ∈ pre, pyScalar y = true) (hx : pyScalar x = true) : ∀ y ∈ pre ++ [x], pyScalar y = true := by
  intro y hy
  rcases List.mem_append.mp hy with hy | hy
  · exact h y hy
  · rw [List.mem_singleton.mp hy]; exact hx
theorem enc_plain {pre bs run : List Int} {x : Int} (h : EncOk pre bs run) (hx : pyScalar x = true) (hc : plainC x = true) : EncOk (pre ++ [x]) (bs ++ flush run ++ (if x = 38 then [38, 45] else [x])) [] := by
  obtain ⟨h0, h1, h2, h3⟩ := h
  refine ⟨?_, ?_, (fun _ h => nomatch h), mem_snoc h3 hx⟩
  · rw [encFold_snoc, ← h0, encStep, if_pos hc]
  · have := flush_len run
    have h4 : (if x = 38 then [38, 45] else [x] : List Int).length ≤ 2 := by split <;> simp
    simp only [List.length_append, List.length_singleton, List.length_nil] at *
    omega
theorem enc_run {pre bs run : List Int} {x : Int} (h : EncOk pre bs run) (hx : pyScalar x = true) (hc : plainC x = false) : EncOk (pre ++ [x]) bs (run ++ [x]) := by
  obtain ⟨h0, h1, h2, h3⟩ := h
  refine ⟨?_, ?_, ?_, mem_snoc h3 hx⟩
  · rw [encFold_snoc, ← h0, encStep, if_neg (by rw [hc]; decide)]
  · simp only [List.length_append, List.length_singleton]; omega
  · intro y hy
    rcases List.mem_append.mp hy with hy | hy
    · exact h2 y hy
    · rw [List.mem_singleton.mp hy]; exact scalar_in hx
theorem enc_bad {ns : List Int} {i : Nat} {x : Int} (h : ∀ y ∈ ns.take i, pyScalar y = true) (hi : ns[i]? = some x) (hx : pyScalar x = false) : ns.find? (fun x => !pyScalar x) = some x := by
  have hlt : i < ns.length := (List.getElem?_eq_some_iff.mp hi).1
  have e : ns = ns.take i ++ x :: ns.drop (i + 1) := by
    have hs : ns.take (i + 1) = ns.take i ++ [x] := by rw [List.take_add_one, hi]; rfl
    have ht := List.take_append_drop (i + 1) ns
    rw [hs, List.append_assoc] at ht
    exact ht.symm
  rw [e, List.find?_append, List.find?_eq_none.mpr (fun y hy => by simp [h y hy])]
  simp [hx]
theorem byteArr_app (a b : List Int) : byteArr a ++ byteArr b = byteArr (a ++ b) := by simp [byteArr]
theorem flush_bytes {run : List Int} (h : ¬ run = []) : #[38] ++ byteArr (packed (pyUnits run)) ++ #[45] = byteArr (flush run) := by
  unfold flush
  rw [if_neg h, ← byteArr_app, ← byteArr_app]
  rfl
theorem fr_kst {h₀ h : Heap} {L : Addr} {m : Str → Option Value} {ps : List (Str × Value)} (F : Fr h₀ L h m) (e : ∀ p ∈ ps, m p.1 = some p.2) : Fr h₀ L h (kstB m ps) := by rw [kstB_self e]; exact F
theorem plainC_in {x : Int} (h : plainC x = true) : 32 ≤ x ∧ x ≤ 126 := by unfold plainC at h; exact of_decide_eq_true h

end
section
noncomputable def EncSt (I ba : Addr) (news : List (Addr × Obj)) (pre bs run : List Int) (rvs : List Value) (D : Addr) : Prop :=
  EncOk pre bs run ∧ IntsAre rvs run ∧ (∀ p ∈ news, p.1 < D) ∧ D ≠ I ∧ ba ≠ I ∧ (∀ p ∈ news, p.1 ≠ I)
section
set_option maxHeartbeats 2000000 in
theorem encode_ctr (w : World) (news : List (Addr × Obj)) (l : Addr) (vs : List Value) (ns : List Int) (n : Nat) (hm : (l, listOf vs.toArray n) ∈ news) (hi : IntsAre vs ns) (hn : ns.length ≤ 100) :
    CtrG w 136 [.ref l] news 5 140 (fun v led => ns.all pyScalar = true ∧ ∃ t, .bytes (byteArr (encAll ns)) t = v ∧ news = led) (fun C v => C = 57 ∧ ∃ t x, v = .int x t ∧ ns.find? (fun x => !pyScalar x) = some x) := by
  k_with_none
  k_with "call ref" => (k_here; first | (refine' Ctr.use (scalar_ctr _ _ _ _) ?k1 ?k2 ?k3 ?k4 ?k5 ?kK ?kd ?ku ?_; (case k1 => k_asm); (case k2 => k_asm); (case k3 => k_asm); (case k4 => k_asm); (case k5 => k_asm); (case kK => first | exact rfl | assumption); (case kd => ktr_room); (case ku => ktr_units); intro cv cled h' tk' hR F' N'; revert N'; apply RBool.elim hR; clear hR; intro N'; (try dsimp only); (try k_fold)) | (refine' Ctr.use (direct_ctr _ _ _ _) ?k1 ?k2 ?k3 ?k4 ?k5 ?kK ?kd ?ku ?_; (case k1 => k_asm); (case k2 => k_asm); (case k3 => k_asm); (case k4 => k_asm); (case k5 => k_asm); (case kK => first | exact rfl | assumption); (case kd => ktr_room); (case ku => ktr_units); intro cv cled h' tk' hR F' N'; revert N'; apply RBool.elim hR; clear hR; intro N'; (try dsimp only); (try k_fold)) | (refine' make_exc (excC_57 _) ⟨_, _, _, _, _, _, _, _, _, _, _, _, _, _, _, rfl⟩ rfl ⟨_, rfl, rfl⟩ ?k1 ?k2 ?k3 ?k4 ?k5 ?kK ?kd ?ku ?_; (case k1 => k_asm); (case k2 => k_asm); (case k3 => k_asm); (case k4 => k_asm); (case k5 => k_asm); (case kK => first | exact rfl | assumption); (case kd => ktr_room); (case ku => ktr_units); intro e9 t9 d9 es9 n9 h' tk' F' N' hes9 hne9 hed9 hlt9; (try dsimp only); (try k_fold)))
  k_with "exec Raise some none" => (k_here; refine raise_rule rfl ?_; (try k_fold))
  k_with "RaiseNow" => ((have Xn := Frag.In.keeps (by k_asm) (Fr.keep (by k_asm))); refine' RaiseNow.mk ?k1 ?k2 ?_; (case k1 => exact News.get (by k_asm) List.mem_cons_self); (case k2 => exact Xn _ _ rfl); clear Xn)
  k_with "leaving ref" => (refine' leaveK1 ?k1 ?k2 ?k3 ?_ ?k4; (case k1 => k_asm); (case k2 => k_asm); (case k3 => k_asm); (case k4 => rfl); intro h' hfly' hug' hus'; (try dsimp only))
  k_with "call builtin:list.append" => refine Stop.mk ?_
  k_with "pyIter ref" => refine Stop.mk ?_
  (unfold CtrG; k_fill; intros; rename_i hret hexc; refine G_call ?_; k_dflt (refine' code_def_G ?k1 ?k2 ?k3 ?k4 ?k5 ?kA ?kF ?kK ?k6 ?k7 ?k8 ?k9 ?kB ?_ ?c2 ?c3 ?c4 ?c5; (case kA => exact rfl); (case kF => exact rfl); (case kK => assumption); (case k1 => k_asm); (case k2 => k_asm); (case k3 => k_asm); (case k4 => k_asm); (case k5 => k_asm); (case k6 => k_is); (case k7 => k_is); (case k8 => ktr_room); (case k9 => exact BindsTo.of_eq rfl); (case c5 => decide); (case kB => exact locs rfl); (case c2 => exact rfl); (case c3 => exact rfl); (case c4 => exact rfl); k_whole; intro g' L' h' FG' F' N' B' X' T' hLt'; (try dsimp only); (try k_lift B'); (try k_fold)))
  with_reducible rename Shared => s0
  refine G_execs_cons (G_Assign_Tuple_swapped (G_Tuple (G_args_cons (G_Call ?_))))
  k_steps
  refine G_callWith_type0 ?_
  (with_reducible rename Fr _ _ _ _ => lF')
  (with_reducible rename News _ _ _ _ => lN')
  refine ba_new_K lF' lN' ?_
  intro ba h1 F1 N1 hlt1
  clear lF' lN'
  k_steps
  refine G_execs_cons (G_For ?_)
  k_steps
  with_reducible refine Stop.out ?_
  (with_reducible rename Fr _ _ _ _ => lF')
  (with_reducible rename News _ _ _ _ => lN')
  rename_i D g1 l1a D0 g2 l1b g3 g4 g5
  have lN2 := News.tail lN'
  refine' G_forStateI (σ := List Int × List Int × List Value × Nat × Addr) (vs := vs) (n := n) (fun c => (c.2.2.2.2, listOf c.2.2.1.toArray c.2.2.2.1) :: (ba, BA.ba (byteArr c.1)) :: news) (fun c => [(Str.ofString "found", .ref ba), (Str.ofString "run", .ref c.2.2.2.2)])
    (fun I i c => EncSt I ba news (ns.take i) c.1 c.2.1 c.2.2.1 c.2.2.2.2) ([], [], [], 0, D) (by rfl) (by rfl) (by rfl) lF' lN2 (fun p hp => hp) ?kk ?kp (fun c => List.mem_cons_of_mem _ (List.mem_cons_of_mem _ hm)) ?hne ?turn ?done ?pass
  case kk => kst_all
  case kp =>
    intro I hI
    exact ⟨enc_0, .nil, fun p hp => Nat.lt_trans (hlt1 p hp) l1a.1, Nat.ne_of_lt (hI _ List.mem_cons_self), Nat.ne_of_lt (hI _ (List.mem_cons_of_mem _ List.mem_cons_self)), fun p hp => Nat.ne_of_lt (hI p (List.mem_cons_of_mem _ (List.mem_cons_of_mem _ hp)))⟩
  case hne =>
    rintro I i c ⟨e1, e2, e3, e4, e5, e6⟩ p hp
    rcases List.mem_cons.mp hp with rfl | hp
    · exact e4
    · rcases List.mem_cons.mp hp with rfl | hp
      · exact e5
      · exact e6 p hp
  case pass => passes_own
  case turn =>
    clear lF' lN' lN2 l1a l1b
    rintro ⟨bs, run, rvs, nn, D'⟩ i v u9 h9 tk9 I o hv9 hP9 F9 N9 ho9
    have F9 : Fr g' L' h9 _ := F9
    have N9 : News g' L' h9 _ := N9
    dsimp only at hP9 F9 N9 ⊢
    simp only [kstB] at F9
    obtain ⟨x, tx, rfl, hx9⟩ := IntsAre.at hi i v hv9
    obtain ⟨e1, e2, e3, e4, e5, e6⟩ := hP9
    refine G_execs_cons (G_of ?_)
    k_steps
    rotate_left
    · exact hexc _ _ _ _ _ _ ⟨rfl, _, _, rfl, enc_bad e1.2.2.2 hx9 (by assumption)⟩ (by assumption) (told_at (by assumption) (by k_asm) (by k_mem) (by assumption)) ⟨_, by k_asm, by assumption⟩
    have q1 := e1.2.1
    have q2 : (ns.take i).length ≤ 100 := by rw [List.length_take]; omega
    have hrun : run.length ≤ 100 := by omega
    have hfl := flush_len run
    have hsz : sizeLine = 16777216 := by decide
    have hrl := e2.length
    have hsc : pyScalar x = true := by with_reducible assumption
    refine G_execs_cons ?_
    (with_reducible rename Fr _ _ _ _ => lF')
    (with_reducible rename News _ _ _ _ => lN')
    refine G_IfJ (plainC x) lF' lN' ?test ?yes ?no
    case test =>
      k_steps
      all_goals (first | refine Joined.mk (plainC_1 (by with_reducible assumption)) (by k_asm) (by with_reducible assumption) | refine Joined.mk (plainC_2 (by with_reducible assumption)) (by k_asm) (by with_reducible assumption) | refine Joined.mk (plainC_3 (by with_reducible assumption) (by with_reducible assumption)) (by k_asm) (by with_reducible assumption))
    case no =>
      intro hc h8 tk8 F8 N8
      clear lF' lN'
      refine G_execs_cons (G_of ?_)
      k_steps
      (with_reducible rename Fr _ _ _ _ => lF')
      (with_reducible rename News _ _ _ _ => lN')
      with_reducible refine Stop.out ?_
      have hID : I ≠ D' := fun e => e4 e.symm
      have hbD : ba ≠ D' := fun e => by
        have z1 := (lN' (ba, BA.ba (byteArr bs)) (List.mem_cons_of_mem _ (List.mem_cons_of_mem _ List.mem_cons_self))).1
        have z2 := (lN' (D', listOf rvs.toArray nn) (List.mem_cons_of_mem _ List.mem_cons_self)).1
        dsimp only at z1 z2
        rw [e, z2] at z1
        exact absurd (congrArg Obj.cls (Option.some.inj z1)) (by show Value.type "list" ≠ Value.type "bytearray"; decide)
      refine list_append_at [(I, o)] lF' lN' (fun p hp => by rw [List.mem_singleton.mp hp]; exact hID) (fun p hp => by
        rcases List.mem_cons.mp hp with rfl | hp
        · exact hbD
        · exact Nat.ne_of_lt (e3 p hp)) (by rw [hsz]; omega) ?_
      intro h4 F4 N4
      k_steps
      (with_reducible rename Fr _ _ _ _ => lF')
      (with_reducible rename News _ _ _ _ => lN')
      refine G_execs_nil ?_
      refine G_execs_nil (gend (bs, run ++ [x], rvs ++ [.int x tx], nn + 1, D') lF' lN' (fun p hp => hp) (by kst_all) ⟨?_, IntsAre.snoc_ e2 _ _, e3, e4, e5, e6⟩)
      have := enc_run e1 hsc hc
      have e : (ns.take i) ++ [x] = ns.take (i + 1) := by rw [List.take_add_one, hx9]; rfl
      rw [e] at this; exact this
    case yes =>
      intro hc h8 tk8 F8 N8
      clear lF' lN'
      refine G_step (fun s' => ∃ (D2 : Addr) (rv2 : List Value) (n2 : Nat) (h' : Heap) (tk' : Nat) (u : Str → Option Value), s' = { s0 with heap := h', toks := tk' } ∧ Fr g' L' h' (fun y => if y = Str.ofString "code" then some (.int x tx) else if y = Str.ofString "found" then some (.ref ba) else if y = Str.ofString "run" then some (.ref D2) else u y) ∧
        News g' L' h' ((I, o) :: (D2, listOf rv2.toArray n2) :: (ba, BA.ba (byteArr (bs ++ flush run))) :: news) ∧ rv2 = [] ∧ (∀ p ∈ news, p.1 < D2) ∧ D2 ≠ I) ?_ ?_
      · refine G_IfJ (!decide (run = [])) F8 N8 ?test ?yes ?no
        case test =>
          k_steps
          exact Joined.mk rfl (by k_asm) (cb_drop (by with_reducible assumption) (by kcj_all))
        case no =>
          intro hr7 h7 tk7 F7 N7
          clear F8 N8
          have hr0 : run = [] := by simpa using hr7
          refine G_execs_nil ⟨rfl, D', rvs, nn, h7, tk7, u9, rfl, F7, ?_, ?_, e3, e4⟩
          · rw [hr0]; show News g' L' h7 ((I, o) :: (D', listOf rvs.toArray nn) :: (ba, BA.ba (byteArr (bs ++ flush []))) :: news)
            rw [show flush [] = [] from rfl, List.append_nil]; exact N7
          · rw [hr0] at hrl; exact List.length_eq_zero_iff.mp hrl
        case yes =>
          intro hr7 h7 tk7 F7 N7
          clear F8 N8
          (refine G_execs_cons (G_Expr (G_Call_ba (by rfl) (by rfl) (by rfl) BA.slot_extend BA.type_extend ?_)); k_steps; (with_reducible rename News _ _ _ _ => lN'); refine BaOn.mk lN' (by first | exact List.mem_cons_self | exact List.mem_cons_of_mem _ List.mem_cons_self | exact List.mem_cons_of_mem _ (List.mem_cons_of_mem _ List.mem_cons_self)) ?_; refine G_callWith_method1 ?_)
          refine G_args1 (G_BinOp (G_BinOp (G_of ?_)))
          k_steps
          have hpl := packed_len (pyUnits run)
          have hul := pyUnits_len run
          have hrn : ¬ run = [] := by simpa using hr7
          (refine G_Call ?_; k_steps; refine G_callWith_K (K := hd.heap_39 w.params) (by k_is) ?_; k_steps; (with_reducible rename Fr _ _ _ _ => lF'); (with_reducible rename News _ _ _ _ => lN'); refine' CtrG.use (packed_ctr w _ D' rvs run nn (by first | exact List.mem_cons_self | exact List.mem_cons_of_mem _ List.mem_cons_self) e2 hrun e1.2.2.1) ?k1 lF' ?k3 lN' ?k5 ?kK ?kd ?ku ?kr ?ke; (case k1 => k_asm); (case k3 => k_asm); (case k5 => k_asm); (case kK => first | exact rfl | assumption); (case kd => ktr_room); (case ku => ktr_units); (case ke => exact fun _ _ _ _ _ _ z => z.elim); clear lF' lN'; intro v7 led7 h7' tk7' hR7 F7' N7'; revert N7'; apply elim1 hR7; clear hR7; intro t7 N7'; (try dsimp only))
          refine KBy.add_bytes (by rw [byteArr_size]; show 1 + _ ≤ _; omega) fun t8 k8 => G_of ?_
          k_steps
          refine KBy.add_bytes (by rw [Array.size_append, byteArr_size]; show 1 + _ + 1 ≤ _; omega) fun t9 k9 => ?_
          rw [flush_bytes hrn]
          (with_reducible rename Fr _ _ _ _ => lF')
          (with_reducible rename News _ _ _ _ => lN')
          refine ba_extend_at [(I, o), (D', listOf rvs.toArray nn)] lF' lN' ?p1 hlt1 (by rw [byteArr_size, byteArr_size, hsz]; omega) ?_
          case p1 =>
            intro p hp
            rcases List.mem_cons.mp hp with rfl | hp
            · exact cls_none ho9
            · rw [List.mem_singleton.mp hp]; show Value.type "list" ≠ Value.type "bytearray"; decide
          intro h6 F6 N6
          rw [byteArr_app] at N6
          clear lF' lN'
          dsimp only
          refine G_execs_cons (G_of ?_)
          k_steps
          (with_reducible rename ∀ (p : Addr × Obj), p ∈ _ → p.fst < _ => lN1)
          (with_reducible rename Fr _ _ _ _ => lF')
          (with_reducible rename News _ _ _ _ => lN')
          have hD2 := fun p hp => lN1 p (List.mem_append_right _ (List.mem_cons_of_mem _ hp))
          refine G_execs_nil ⟨rfl, _, [], 0, _, _, _, rfl, fr_kst (ps := [(Str.ofString "code", .int x tx), (Str.ofString "found", .ref ba), (Str.ofString "run", .ref _)]) lF' (by kst_all), fun p hp => lN' p ?_, rfl, hD2, fun e => Nat.lt_irrefl _ (e ▸ lN1 (I, o) List.mem_cons_self)⟩
          rcases List.mem_cons.mp hp with rfl | hp
          · exact List.mem_cons_of_mem _ List.mem_cons_self
          · rcases List.mem_cons.mp hp with rfl | hp
            · exact List.mem_cons_self
            · exact List.mem_cons_of_mem _ (List.mem_cons_of_mem _ (List.mem_cons_of_mem _ hp))
      · rintro s' ⟨D2, rv2, n2, h6, tk6, u6, rfl, F6, N6, rfl, hD2, hI2⟩
        clear F8 N8
        have hx := plainC_in hc
        (refine G_execs_cons (G_Expr (G_Call_ba (by rfl) (by rfl) (by rfl) BA.slot_extend BA.type_extend ?_)); k_steps; (with_reducible rename News _ _ _ _ => lN'); refine BaOn.mk lN' (by first | exact List.mem_cons_self | exact List.mem_cons_of_mem _ List.mem_cons_self | exact List.mem_cons_of_mem _ (List.mem_cons_of_mem _ List.mem_cons_self)) ?_; refine G_callWith_method1 ?_)
        refine G_args1 (G_of ?_)
        k_steps
        · (with_reducible rename Fr _ _ _ _ => lF')
          (with_reducible rename News _ _ _ _ => lN')
          have e38 : x = 38 := by with_reducible assumption
          refine ba_extend_at (c := byteArr [38, 45]) [(I, o), (D2, listOf ([] : List Value).toArray n2)] lF' lN' ?p1 hlt1 (by rw [byteArr_size, byteArr_size, hsz]; simp only [List.length_append, List.length_cons, List.length_nil]; omega) ?_
          case p1 =>
            intro p hp
            rcases List.mem_cons.mp hp with rfl | hp
            · exact cls_none ho9
            · rw [List.mem_singleton.mp hp]; show Value.type "list" ≠ Value.type "bytearray"; decide
          intro h4 F4 N4
          rw [byteArr_app] at N4
          refine G_execs_nil ?_
          refine G_execs_nil (gend (bs ++ flush run ++ [38, 45], [], [], n2, D2) F4 N4 (fun p hp => hp) (by kst_all) ⟨?_, .nil, hD2, hI2, e5, e6⟩)
          have := enc_plain e1 hsc hc
          rw [if_pos e38] at this
          have e : (ns.take i) ++ [x] = ns.take (i + 1) := by rw [List.take_add_one, hx9]; rfl
          rw [e] at this; exact this
        · (with_reducible rename Fr _ _ _ _ => lF')
          (with_reducible rename News _ _ _ _ => lN')
          have e38 : ¬ x = 38 := by with_reducible assumption
          have N5 := cb_drop (news := [(I, o), (D2, listOf ([] : List Value).toArray n2)] ++ (ba, BA.ba (byteArr (bs ++ flush run))) :: news) lN' (by kcj_all)
          refine ba_extend_at (c := byteArr [x]) [(I, o), (D2, listOf ([] : List Value).toArray n2)] lF' N5 ?p1 hlt1 (by rw [byteArr_size, byteArr_size, hsz]; simp only [List.length_append, List.length_cons, List.length_nil]; omega) ?_
          case p1 =>
            intro p hp
            rcases List.mem_cons.mp hp with rfl | hp
            · exact cls_none ho9
            · rw [List.mem_singleton.mp hp]; show Value.type "list" ≠ Value.type "bytearray"; decide
          intro h4 F4 N4
          rw [byteArr_app] at N4
          refine G_execs_nil ?_
          refine G_execs_nil (gend (bs ++ flush run ++ [x], [], [], n2, D2) F4 N4 (fun p hp => hp) (by kst_all) ⟨?_, .nil, hD2, hI2, e5, e6⟩)
          have := enc_plain e1 hsc hc
          rw [if_neg e38] at this
          have e : (ns.take i) ++ [x] = ns.take (i + 1) := by rw [List.take_add_one, hx9]; rfl
          rw [e] at this; exact this
  case done =>
    clear lF' lN' lN2 l1a l1b
    rintro I ⟨bs, run, rvs, nn, D'⟩ u9 h9 tk9 hP9 F9 N9
    have F9 : Fr g' L' h9 _ := F9
    have N9 : News g' L' h9 _ := N9
    dsimp only at hP9 F9 N9 ⊢
    simp only [kstB] at F9
    obtain ⟨e1, e2, e3, e4, e5, e6⟩ := hP9
    have eT : ns.take vs.length = ns := List.take_of_length_le (by rw [hi.length]; exact Nat.le_refl _)
    rw [eT] at e1
    have q1 := e1.2.1
    have hrun : run.length ≤ 100 := by omega
    have hfl := flush_len run
    have hsz : sizeLine = 16777216 := by decide
    have hrl := e2.length
    have hall : ns.all pyScalar = true := List.all_eq_true.mpr e1.2.2.2
    have hEnc : encAll ns = bs ++ flush run := by unfold encAll; rw [← e1.1]
    have hz : (encAll ns).length ≤ 16777216 := by rw [hEnc, List.length_append]; omega
    refine G_step (fun s' => ∃ (rv2 : List Value) (n2 : Nat) (h' : Heap) (tk' : Nat) (u : Str → Option Value), s' = { s0 with heap := h', toks := tk' } ∧ Fr g' L' h' (fun y => if y = Str.ofString "found" then some (.ref ba) else u y) ∧
        News g' L' h' ((ba, BA.ba (byteArr (bs ++ flush run))) :: news)) ?_ ?_
    · refine G_IfJ (!decide (run = [])) F9 N9 ?test2 ?yes2 ?no2
      case test2 =>
        k_steps
        exact Joined.mk rfl (by k_asm) (cb_drop (by with_reducible assumption) (by kcj_all))
      case no2 =>
        intro hr7 h7 tk7 F7 N7
        have hr0 : run = [] := by simpa using hr7
        refine G_execs_nil ⟨rfl, rvs, nn, h7, tk7, _, rfl, F7, ?_⟩
        rw [hr0]; show News g' L' h7 ((ba, BA.ba (byteArr (bs ++ flush []))) :: news)
        rw [show flush [] = [] from rfl, List.append_nil]; exact News.tail N7
      case yes2 =>
        intro hr7 h7 tk7 F7 N7
        clear F9 N9
        (refine G_execs_cons (G_Expr (G_Call_ba (by rfl) (by rfl) (by rfl) BA.slot_extend BA.type_extend ?_)); k_steps; (with_reducible rename News _ _ _ _ => lN'); refine BaOn.mk lN' (by first | exact List.mem_cons_self | exact List.mem_cons_of_mem _ List.mem_cons_self | exact List.mem_cons_of_mem _ (List.mem_cons_of_mem _ List.mem_cons_self)) ?_; refine G_callWith_method1 ?_)
        refine G_args1 (G_BinOp (G_BinOp (G_of ?_)))
        k_steps
        have hpl := packed_len (pyUnits run)
        have hul := pyUnits_len run
        have hrn : ¬ run = [] := by simpa using hr7
        (refine G_Call ?_; k_steps; refine G_callWith_K (K := hd.heap_39 w.params) (by k_is) ?_; k_steps; (with_reducible rename Fr _ _ _ _ => lF'); (with_reducible rename News _ _ _ _ => lN'); refine' CtrG.use (packed_ctr w _ D' rvs run nn (by first | exact List.mem_cons_self | exact List.mem_cons_of_mem _ List.mem_cons_self) e2 hrun e1.2.2.1) ?z1 lF' ?z3 lN' ?z5 ?zK ?zd ?zu ?zr ?ze; (case z1 => k_asm); (case z3 => k_asm); (case z5 => k_asm); (case zK => first | exact rfl | assumption); (case zd => ktr_room); (case zu => ktr_units); (case ze => exact fun _ _ _ _ _ _ z => z.elim); clear lF' lN'; intro v7 led7 h7' tk7' hR7 F7' N7'; revert N7'; apply elim1 hR7; clear hR7; intro t7 N7'; (try dsimp only))
        refine KBy.add_bytes (by rw [byteArr_size]; show 1 + _ ≤ _; omega) fun t8 k8 => G_of ?_
        k_steps
        refine KBy.add_bytes (by rw [Array.size_append, byteArr_size]; show 1 + _ + 1 ≤ _; omega) fun t9 k9 => ?_
        rw [flush_bytes hrn]
        (with_reducible rename Fr _ _ _ _ => lF')
        (with_reducible rename News _ _ _ _ => lN')
        refine ba_extend_at [(D', listOf rvs.toArray nn)] lF' lN' ?p2 hlt1 (by rw [byteArr_size, byteArr_size, hsz]; omega) ?_
        case p2 =>
          intro p hp
          rw [List.mem_singleton.mp hp]; show Value.type "list" ≠ Value.type "bytearray"; decide
        intro h6 F6 N6
        rw [byteArr_app] at N6
        exact G_execs_nil ⟨rfl, rvs, nn, h6, _, _, rfl, F6, News.tail N6⟩
    · rintro s' ⟨rv2, n2, h6, tk6, u6, rfl, F6, N6⟩
      clear F9 N9
      refine G_execs_cons (G_of ?_)
      k_steps
      rw [← hEnc] at N6
      refine BA.bytes_ba (N6 _ List.mem_cons_self).1 (by rw [byteArr_size, hsz]; exact hz) ?_
      intro t5 k5
      k_steps
      exact hret _ _ _ _ ⟨hall, _, rfl, rfl⟩ (by k_asm) (cb_drop (by assumption) (by kcj_all))
end

end
section
section
variable {prog : Program} {w : World} {A : Around} {E : Value → Shared → Prop} {Q : Flow → Shared → Prop} {s : Shared} {env : Env} {h₀ : Heap} {L : Addr}
noncomputable def rIter (x left : Int) : Obj := { cls := .type "range_iterator", dict := none, data := .fields #[rawInt x, rawInt left, rawInt 1], slots := #[] }
theorem G_forRangeI {σ : Type} {x : Str} {px : Pos} {body : List Stmt} {m : Str → Option Value} {led : List (Addr × Obj)} {r : Addr} {b : Int} {t0 u0 v0 : Tok} {n : Nat} (Led : σ → List (Addr × Obj)) (ps : σ → List (Str × Value)) (P : Addr → Nat → σ → Prop) (c₀ : σ)
    (hx : env.kindOf x = some .local) (hp : (env.scope.kind == .class || (env.scope.kind == .module && env.locals != env.globals)) = false) (hh : A.handled = none)
    (hr : IsRange s.heap r 0 b 1 t0 u0 v0) (hsm : Builtin.Range.small 0 b 1 = true) (hsz : Builtin.Range.rangeSize 0 b 1 = ((n : Nat) : Int))
    (F : Fr h₀ env.locals s.heap m) (N : News h₀ env.locals s.heap led) (hn : ∀ p ∈ Led c₀, p ∈ led) (hk : ∀ p ∈ ps c₀, m p.1 = some p.2) (hP : ∀ I, (∀ p ∈ led, p.1 < I) → P I 0 c₀)
    (hne : ∀ I i c, P I i c → ∀ p ∈ Led c, p.1 ≠ I)
    (turn : ∀ (c : σ) i t (u : Str → Option Value) h tk I o, i < n → P I i c → Fr h₀ env.locals h (fun y => if y = x then some (.int (i : Int) t) else kstB u (ps c) y) → News h₀ env.locals h ((I, o) :: Led c) → o.cls = .type "range_iterator" →
      wpG (model prog w) A (execs body env) (GEnd h₀ env.locals { s with heap := h, toks := tk } Led ps (P I (i + 1)) [(I, o)]) E { s with heap := h, toks := tk })
    (done : ∀ I (c : σ) (u : Str → Option Value) h tk, P I n c → Fr h₀ env.locals h (kstB u (ps c)) → News h₀ env.locals h (Led c) → Q .next { s with heap := h, toks := tk })
    (hE : PassesOwn (model prog w) A env E := by passes_own) :
    wpAny (model prog w) A (pyIter (.ref r)) (fun it s₂ => codeG (model prog w) A (.forLoop (.Name x px) it body [] env) (fun r s' => match r with | .ok f => Q f s' | .error e => cameBackBy (model prog w) A env E e s') s₂) E s := by
  have N₀ : News h₀ env.locals s.heap (Led c₀) := fun p hp => N p (hn p hp)
  refine wpAny_pyIter_range hr hsm ?_
  have e0 : ∀ b' o, s.heap.get? b' = some o → (s.heap.push { cls := .type "range_iterator", data := .fields #[rawInt 0, rawInt (Builtin.Range.rangeSize 0 b 1), rawInt 1] }).get? b' = some o := fun b' o e => Heap.get?_push_of_some _ e
  refine codeG_forLoop (fun k s₁ => ∃ h' tk u c i, s₁ = { s with heap := h', toks := tk } ∧ Fr h₀ env.locals h' u ∧ News h₀ env.locals h' ((s.heap.objs.size, rIter (i : Nat) ((n : Int) - (i : Nat))) :: Led c) ∧ (∀ p ∈ ps c, u p.1 = some p.2) ∧ P s.heap.objs.size i c ∧ i ≤ n ∧ k = n - i) ?_ n
    ⟨_, s.toks, m, c₀, 0, rfl, F.kept e0, News.kept_cons F N₀ e0 (Nat.le_refl _) (by rw [hsz]; exact (Heap.get?_push_size _ rfl).trans (by simp [rIter])), hk, hP _ (fun p hp => Heap.lt_size (N p hp).1), Nat.zero_le _, by omega⟩
  intro k s₁ hI
  refine hideGoal fun GG out => ?_
  obtain ⟨h', tk, u, c, i, rfl, hI⟩ := hI
  have F' := hI.1
  have N' := hI.2.1
  have hu := hI.2.2.1
  have hPc := hI.2.2.2.1
  have hi := hI.2.2.2.2.1
  have hkk := hI.2.2.2.2.2
  subst hkk
  refine out ?_
  clear out GG
  have hit : IsRangeIter h' s.heap.objs.size (i : Nat) ((n : Int) - (i : Nat)) 1 := (N' _ (.head _)).1
  have Nt : News h₀ env.locals h' (Led c) := fun p hp => N' p (.tail _ hp)
  have hnc := hne _ _ _ hPc
  by_cases hlt : i < n
  · refine wpAny_pyNext_range_item hit (by omega) fun h₁ hit₁ hs₁ => ?_
    have ho₁ : h₁.get? s.heap.objs.size = some (rIter ((i + 1 : Nat)) ((n : Int) - (i + 1 : Nat))) := by
      have : IsRangeIter h₁ s.heap.objs.size ((i + 1 : Nat)) ((n : Int) - (i + 1 : Nat)) 1 := by
        rw [show (((i + 1 : Nat)) : Int) = (i : Int) + 1 from by omega, show (n : Int) - ((i : Int) + 1) = (n : Int) - (i : Int) - 1 from by omega]
        exact hit₁
      exact this
    have F₁ := F'.change hs₁ (N' _ (.head _)).2.1 (N' _ (.head _)).2.2
    have N₁ : News h₀ env.locals h₁ ((s.heap.objs.size, rIter ((i + 1 : Nat)) ((n : Int) - (i + 1 : Nat))) :: Led c) := N'.setHead hnc hs₁ ho₁
    refine wpAny_assign_Name (wpAny_storeName_local hx F₁.ns (fun h₂ hn₂ hs₂ => ?_) hp)
    have F₂ := F₁.set hn₂ hs₂
    refine G_mono (turn c i _ u h₂ _ s.heap.objs.size _ hlt hPc (by rw [kstB_self' hu]; exact F₂) (N₁.set hs₂) rfl) (fun f s₃ h₃ => ?_) hE
    refine hideGoal fun GG out => ?_
    obtain ⟨hf, c', h₃', tk₃, m₂, led₂, rfl, hI₃⟩ := h₃
    have F₃ := hI₃.1
    have N₃ := hI₃.2.1
    have hn₃ := hI₃.2.2.1
    have hk₃ := hI₃.2.2.2.1
    have hP₃ := hI₃.2.2.2.2
    refine out ?_
    have fin : ∃ k', k' < n - i ∧ ∃ h' tk u c i₁, ({ s with heap := h₃', toks := tk₃ } : Shared) = { s with heap := h', toks := tk } ∧ Fr h₀ env.locals h' u ∧ News h₀ env.locals h' ((s.heap.objs.size, rIter (i₁ : Nat) ((n : Int) - (i₁ : Nat))) :: Led c) ∧ (∀ p ∈ ps c, u p.1 = some p.2) ∧ P s.heap.objs.size i₁ c ∧ i₁ ≤ n ∧ k' = n - i₁ :=
      ⟨n - (i + 1), by omega, h₃', tk₃, m₂, c', i + 1, rfl, F₃, fun p hp => N₃ p (hn₃ p (by simpa using hp)), hk₃, hP₃, hlt, rfl⟩
    rcases hf with rfl | rfl <;> exact fin
  · have hin : i = n := by omega
    subst hin
    refine wpAny_pyNext_range_end hh hit (by omega) fun h₁ hk₁ => ?_
    refine done s.heap.objs.size c u h₁ tk hPc ?_ ?_
    · rw [kstB_self hu]
      obtain ⟨oL, a1, a2, hoL, a3⟩ := F'.ns
      refine ⟨⟨oL, a1, a2, hk₁ _ _ (fun e => (N' _ (.head _)).2.1 e.symm) hoL, a3⟩, fun b x e => hk₁ _ _ (fun q => ?_) (F'.keep b x e), F'.above⟩
      subst q
      have := (N' _ (.head _)).2.2
      rw [e] at this; cases this
    · intro p hp
      exact ⟨hk₁ _ _ (hnc p hp) (Nt p hp).1, (Nt p hp).2⟩
end

end
section
theorem hideP {M : Model} {A : Around} {body : List Stmt} {env : Env} {Q : Flow → Shared → Prop} {E : Value → Shared → Prop} {s : Shared} (hP : PassesOwn M A env E)
    (h : ∀ (Q' : Flow → Shared → Prop) (E' : Value → Shared → Prop), (∀ f s', Q f s' → Q' f s') → PassesOwn M A env E' → wpG M A (execs body env) Q' E' s) : wpG M A (execs body env) Q E s := h Q E (fun _ _ x => x) hP
theorem hideG {α : Type} {M : Model} {A : Around} {t : Sem α} {Q : α → Shared → Prop} {E : Value → Shared → Prop} {s : Shared} (h : ∀ (Q' : α → Shared → Prop) (E' : Value → Shared → Prop), (∀ f s', Q f s' → Q' f s') → wpG M A t Q' E' s) : wpG M A t Q E s := h Q E fun _ _ x => x
section
variable {M : Model} {A : Around} {E : Value → Shared → Prop} {s : Shared} {env : Env}
theorem G_Assign_Name {x : Str} {pos' pos : Pos} {value : PySem.Expr} {Q : Flow → Shared → Prop}
    (h : wpG M A (eval value env) (fun v s₁ => wpAny M A (storeName env x v) (fun _ => Q .next) E s₁) E s)
    (hs : swapsWith value (some (.Name x pos')) pos.line env = pure false := by rfl) :
    wpG M A (exec (.Assign [.Name x pos'] value pos) env) Q E s := fun Γ p hΓ c d => by
  simp only [exec_Assign_Name env x pos' value pos hs, Sem.wp_bind', Sem.wp_cmd_standAt, Sem.wp_bindName, Sem.wp_pure']
  exact Sem.wp_mono M Γ _ (fun v _ s₁ h₁ => h₁ Γ _ hΓ) (fun _ _ _ h' => h') _ _ (h Γ _ hΓ c d)
theorem G_IfExp {test body orelse : PySem.Expr} {pos : Pos} {Q : Value → Shared → Prop}
    (h : wpG M A (isTrue test env (eval test env)) (fun c s₂ => if c then wpG M A (eval body env) Q E s₂ else wpG M A (eval orelse env) Q E s₂) E s) :
    wpG M A (eval (.IfExp test body orelse pos) env) Q E s := by
  rw [PyProof.Rows.eval_IfExp]
  refine G_bind (G_mono h (fun c s₂ h₂ => ?_) fun _ _ x => x)
  cases c <;> exact h₂
theorem G_isTrue_BoolOp {op : BoolOp} {values : List PySem.Expr} {pos : Pos} {whole : Sem Value} {Q : Bool → Shared → Prop} (h : wpG M A (allTrue op values env) Q E s) :
    wpG M A (isTrue (.BoolOp op values pos) env whole) Q E s := by rw [arm_isTrue_BoolOp]; exact h
theorem G_Or_nil {Q : Bool → Shared → Prop} (h : Q false s) : wpG M A (allTrue .Or [] env) Q E s := G_pure h
theorem G_Or_cons {x : PySem.Expr} {rest : List PySem.Expr} {Q : Bool → Shared → Prop}
    (h : wpG M A (isTrue x env (eval x env)) (fun b s₁ => if b then Q true s₁ else wpG M A (allTrue .Or rest env) Q E s₁) E s) : wpG M A (allTrue .Or (x :: rest) env) Q E s := by
  show wpG M A (do match BoolOp.Or, ← isTrue x env (eval x env) with | .And, false => pure false | .Or, true => pure true | _, _ => allTrue .Or rest env) Q E s
  refine G_bind (G_mono h (fun b s₁ h₁ => ?_) fun _ _ x => x)
  cases b
  · exact h₁
  · exact G_pure h₁
theorem G_isTrue_Compare {l r : PySem.Expr} {op : CmpOp} {pos : Pos} {whole : Sem Value} {Q : Bool → Shared → Prop}
    (h : wpG M A (eval l env) (fun a s₁ => wpG M A (eval r env) (fun b s₂ => wpAny M A (compareOp op a b)
      (fun c s₃ => wpAny M A (truthy c) Q E s₃) E s₂) E s₁) E s)
    (hm : behindInMarks op r = false := by with_unfolding_all rfl) : wpG M A (isTrue (.Compare l [op] [r] pos) env whole) Q E s := fun Γ p hΓ x y => by
  simp only [isTrue_Compare1, markedBehindIn_of_false hm, Sem.wp_bind', Sem.wp_holding, Sem.wp_cmd_standAt, Sem.wp_operate]
  exact Sem.wp_mono M Γ _ (fun a p₁ s₁ h₁ => Sem.wp_mono M Γ _ (fun b _ s₂ h₂ => Sem.wp_mono M Γ _ (fun c p₃ s₃ h₃ => h₃ Γ p₃ hΓ)
    (fun _ _ _ h' => h') _ _ (h₂ Γ _ hΓ)) (fun _ _ _ h' => h') _ _ (h₁ Γ p₁ hΓ x y)) (fun _ _ _ h' => h') _ _ (h Γ p hΓ x y)
theorem G_Return {e : PySem.Expr} {pos : Pos} {Q : Flow → Shared → Prop} (h : wpG M A (eval e env) (fun v s' => Q (.ret v) s') E s) : wpG M A (exec (.Return (some e) pos) env) Q E s := by
  rw [PySem.exec_Return_some]
  exact G_bindA (wpAny_standAt (G_bind (G_mono h (fun v s₁ h₁ => G_pure h₁) fun _ _ x => x)))
end
section
variable {prog : Program} {w : World} {A : Around} {E : Value → Shared → Prop} {Q : Flow → Shared → Prop} {s : Shared} {env : Env} {h₀ : Heap} {L : Addr}
/-- the end of a turn that may leave -/
noncomputable def WEnd (Q : Flow → Shared → Prop) (P : Shared → Prop) (f : Flow) (s : Shared) : Prop := match f with
  | .next | .cont => P s
  | .brk => Q .next s
  | .ret v => Q (.ret v) s
theorem G_whileR {test : PySem.Expr} {body : List Stmt} {pos : Pos} (J : Nat → Shared → Prop) (n₀ : Nat) (hJ : J n₀ s)
    (turn : ∀ n s₁, J n s₁ → wpAny (model prog w) A (isTrue test env (eval test env)) (fun b s₂ =>
        if b = true then wpG (model prog w) A (execs body env) (WEnd Q (fun s₃ => ∃ n', n' < n ∧ J n' s₃)) E s₂ else Q .next s₂) E s₁)
    (hE : PassesOwn (model prog w) A env E := by passes_own) :
    wpG (model prog w) A (exec (.While test body [] pos) env) Q E s := by
  refine G_While (codeG_whileLoop J (fun n s₁ h₁ => ?_) n₀ hJ)
  refine G_of (wpAny_mono (turn n s₁ h₁) (fun b s₂ h₂ => ?_) hE)
  cases b with
  | false =>
    simp only [Bool.false_eq_true, if_false] at h₂ ⊢
    exact G_execs_nil h₂
  | true =>
    simp only [if_true] at h₂ ⊢
    refine G_mono h₂ (fun f s₃ h₃ => ?_) hE
    cases f <;> exact h₃
/-- what the state of a loop is -/
noncomputable def LoopSt {σ : Type} (h₀ : Heap) (L : Addr) (Led : σ → List (Addr × Obj)) (ps : σ → List (Str × Value)) (P : σ → Prop) (s : Shared) (s₃ : Shared) : Prop :=
  ∃ (c : σ) (h' : Heap) (tk : Nat) (m' : Str → Option Value) (led' : List (Addr × Obj)), s₃ = { s with heap := h', toks := tk } ∧ Fr h₀ L h' m' ∧ News h₀ L h' led' ∧ (∀ p ∈ Led c, p ∈ led') ∧ (∀ p ∈ ps c, m' p.1 = some p.2) ∧ P c
theorem loopSt {σ : Type} {Led : σ → List (Addr × Obj)} {ps : σ → List (Str × Value)} {P : σ → Prop} {h' : Heap} {tk : Nat} {m' : Str → Option Value} {led' : List (Addr × Obj)} (c : σ)
    (F : Fr h₀ L h' m') (N : News h₀ L h' led') (hn : ∀ p ∈ Led c, p ∈ led') (hk : ∀ p ∈ ps c, m' p.1 = some p.2) (hp : P c) : LoopSt h₀ L Led ps P s { s with heap := h', toks := tk } :=
  ⟨c, h', tk, m', led', rfl, F, N, hn, hk, hp⟩
theorem G_whileSR {σ : Type} {test : PySem.Expr} {body : List Stmt} {pos : Pos} {m : Str → Option Value} {led : List (Addr × Obj)} (Led : σ → List (Addr × Obj)) (ps : σ → List (Str × Value)) (P : σ → Prop) (μ : σ → Nat) (c₀ : σ)
    (F : Fr h₀ L s.heap m) (N : News h₀ L s.heap led) (hn : ∀ p ∈ Led c₀, p ∈ led) (hk : ∀ p ∈ ps c₀, m p.1 = some p.2) (hp : P c₀)
    (turn : ∀ (c : σ) (u : Str → Option Value) h tk, P c → Fr h₀ L h (kstB u (ps c)) → News h₀ L h (Led c) →
      wpAny (model prog w) A (isTrue test env (eval test env)) (fun b s₂ =>
        if b = true then wpG (model prog w) A (execs body env) (WEnd Q (LoopSt h₀ L Led ps (fun c' => P c' ∧ μ c' < μ c) s)) E s₂ else Q .next s₂) E { s with heap := h, toks := tk })
    (hE : PassesOwn (model prog w) A env E := by passes_own) :
    wpG (model prog w) A (exec (.While test body [] pos) env) Q E s := by
  refine G_whileR (fun n s₁ => ∃ c h tk u, s₁ = { s with heap := h, toks := tk } ∧ P c ∧ Fr h₀ L h u ∧ (∀ p ∈ ps c, u p.1 = some p.2) ∧ News h₀ L h (Led c) ∧ μ c = n) (μ c₀) ⟨c₀, s.heap, s.toks, m, rfl, hp, F, hk, fun p hp => N p (hn p hp), rfl⟩ ?_ hE
  intro n s₁ hI
  refine hideGoal fun GG out => ?_
  obtain ⟨c, h, tk, u, rfl, hI⟩ := hI
  have hP := hI.1
  have Fu := hI.2.1
  have hu := hI.2.2.1
  have Nu := hI.2.2.2.1
  have hkk := hI.2.2.2.2
  subst hkk
  refine out ?_
  clear out GG
  refine wpAny_mono (turn c u h tk hP (by rw [kstB_self hu]; exact Fu) Nu) (fun b s₂ h₂ => ?_) fun _ _ x => x
  cases b with
  | false => simpa using h₂
  | true =>
    simp only [if_true] at h₂ ⊢
    refine G_mono h₂ (fun f s₃ h₃ => ?_) fun _ _ x => x
    have key : LoopSt h₀ L Led ps (fun c' => P c' ∧ μ c' < μ c) s s₃ → ∃ n', n' < μ c ∧ ∃ c h tk u, s₃ = { s with heap := h, toks := tk } ∧ P c ∧ Fr h₀ L h u ∧ (∀ p ∈ ps c, u p.1 = some p.2) ∧ News h₀ L h (Led c) ∧ μ c = n' := by
      rintro ⟨c', h', tk', m', led', e3, hI⟩
      exact ⟨μ c', hI.2.2.2.2.2, c', h', tk', m', e3, hI.2.2.2.2.1, hI.1, hI.2.2.2.1, fun p hp => hI.2.1 p (hI.2.2.1 p hp), rfl⟩
    cases f with
    | next => exact key h₃
    | cont => exact key h₃
    | brk => exact h₃
    | ret v => exact h₃
end

end
section
section
variable {prog : Program} {w : World} {A : Around} {h₀ : Heap} {L : Addr} {m : Str → Option Value} {env : Env} {elt : PySem.Expr} {x : Str} {scope : Scope} {cl : List (Str × Addr)} {s : Shared} {S : List (Addr × Obj) → Prop} {P : Nat → Value → Prop} {Fin : List Value → List (Addr × Obj) → Prop}
/-- a comprehension with a state: the ledger is led c, what is so of it Pr i c ys -/
theorem comp_st {σ : Type} {n : Nat} (led : σ → List (Addr × Obj)) (Pr : Nat → σ → List Value → Prop) (c₀ : σ) (h0 : Pr 0 c₀ [])
    (turn : ∀ i c v ys I oI C oC D m₂ h tk (E' : Value → Shared → Prop), i < n → P i v → Pr i c ys → ys.length = i → LCg.NsObj oC m₂ → m₂ x = some v → Fr h₀ L h m → News h₀ L h ((I, oI) :: (C, oC) :: (D, LCg.lst ys) :: led c) → LCg.Off3 I C D (led c) → ((@Ne Nat I C) ∧ (@Ne Nat I D) ∧ (@Ne Nat C D)) →
      wpAny (model prog w) A (eval elt (compEnvC scope cl C env)) (LCg.CompEnd h₀ L m { s with heap := h, toks := tk } I oI C oC D (LCg.lst ys) S (fun y news' => ∃ c', news' = led c' ∧ Pr (i + 1) c' (ys ++ [y]))) E' { s with heap := h, toks := tk })
    (fin : ∀ ys c, Pr n c ys → ys.length = n → Fin ys (led c)) : LCg.CompRest prog w A h₀ L m env elt x scope cl s S P Fin n 0 [] (led c₀) := by
  have key : ∀ (j i : Nat) (c : σ) (ys : List Value), i + j = n → ys.length = i → Pr i c ys → LCg.CompRest prog w A h₀ L m env elt x scope cl s S P Fin j i ys (led c) := by
    intro j
    induction j with
    | zero =>
      intro i c ys hi hy hP
      obtain rfl : i = n := by omega
      exact LCg.CompRest.zero (fin ys c hP hy)
    | succ j ih =>
      intro i c ys hi hy hP
      refine LCg.CompRest.succ ?_
      intro v I oI C oC D m₂ h tk E' hv hC hx F N off ne
      refine wpAny_mono (turn i c v ys I oI C oC D m₂ h tk E' (by omega) hv hP hy hC hx F N off ne) (fun y s₂ hq => ?_) fun _ _ e => e
      obtain ⟨h', tk', nw, e, F', N', off', hS, c', rfl, hP'⟩ := hq
      exact ⟨h', tk', led c', e, F', N', off', hS, ih (i + 1) c' _ (by omega) (by simp [hy]) hP'⟩
  exact key n 0 c₀ [] (by omega) rfl h0
end
/-- the deck of the law: its dict and its list of cells -/
noncomputable def DeckIs (w : World) (k : Nat) (lc : Addr) (oD oc : Obj) : Prop := ∃ mx tm tn tt cvs cs n, oD.IsDictOf (PySem.strKind PySem.Challenge.rw_nt0010_01.row.prog w) [(Str.ofString "cells", .ref lc), (Str.ofString "mixed", .int mx tm), (Str.ofString "turn", .int tn tt)] ∧ oc = listOf cvs.toArray n ∧ IntsAre cvs cs ∧ cs.length ≤ 8 ∧ 0 ≤ tn ∧ tn ≤ k
noncomputable def RDeck (w : World) (news : List (Addr × Obj)) (v : Value) (led : List (Addr × Obj)) : Prop := ∃ D lc oD oc, .ref D = v ∧ DeckIs w 0 lc oD oc ∧ (D, oD) :: (lc, oc) :: news = led ∧ D < lc ∧ AllLt D news ∧ AllLt lc news
theorem RDeck.elim {w : World} {news led : List (Addr × Obj)} {v : Value} (h : RDeck w news v led) {M : Value → List (Addr × Obj) → Prop} (k : ∀ (D lc : Addr) oD oc, DeckIs w 0 lc oD oc → D < lc → AllLt D news → AllLt lc news → M (.ref D) ((D, oD) :: (lc, oc) :: news)) : M v led := by
  obtain ⟨D, lc, oD, oc, rfl, h1, rfl, h2, h3, h4⟩ := h
  exact k D lc oD oc h1 h2 h3 h4

end
section
/-- Ctr for a call upon a list of the ground -/
noncomputable def CtrI (w : World) (f : Addr) (args : List Value) (led : List (Addr × Obj)) (d u : Nat) (l : Addr) (vs : List Value) (R : Value → List (Addr × Obj) → Prop) : Prop :=
  ∀ (mean : ExcName → Option Value) (mg mb : Str → Option Value) (dp un : Nat) (gd : Option (List Code)) (cn : Str) (cs : Scope) (a : Addr) (ccd : Value) (cl : List (Str × Addr)) (outer : List Env) (A₀ : Around) (base h₀ : Heap) (L : Addr) (m : Str → Option Value) (s : Shared) (Q E : Value → Shared → Prop),
    Below A₀ base outer h₀ → Fr h₀ L s.heap m → (hd.heap_39 w.params).In h₀ → News h₀ L s.heap led → Top hd.view_39 (looseW hd.view_39 [Str.ofString "UniError"]) mean mg mb h₀ → cs.kind = .function → dp + d < recursionLimit → un + u < cLine → h₀.IsList l vs.toArray →
    (∀ v led' h' tk', R v led' → Fr h₀ L h' m → News h₀ L h' led' → Q v { s with heap := h', toks := tk' }) →
    wpAny (model PySem.Challenge.rw_nt0010_01.row.prog w) (ktrTop dp un gd cn cs L a ccd cl outer) (call (.ref f) args) Q E s
section
theorem deck_ctr0 (w : World) (news : List (Addr × Obj)) (l : Addr) (vs : List Value) (ns : List Int) (hi : IntsAre vs ns) (hn : ns.length ≤ 100) :
    CtrI w 176 [.ref l] news 1 30 l vs (RDeck w news) := by
  k_with_none
  k_with "eval ListComp" => (k_here; k_dflt (refine LCg.ListComp_U (F₀ := by k_asm) (by with_unfolding_all rfl) (by decide) (by rfl) (by decide) (by rfl) ?_))
  k_with "CompSrc" => refine Stop.mk ?_
  (unfold CtrI; k_fill; intros; rename_i hret; refine wpAny_call ?_; k_dflt (refine' code_def ?k1 ?k2 ?k3 ?k4 ?k5 ?kA ?kF ?kK ?k6 ?k7 ?k8 ?k9 ?kB ?_ ?c2 ?c3 ?c4 ?c5; (case kA => exact rfl); (case kF => exact rfl); (case kK => assumption); (case k1 => k_asm); (case k2 => k_asm); (case k3 => k_asm); (case k4 => k_asm); (case k5 => k_asm); (case k6 => k_is); (case k7 => k_is); (case k8 => ktr_room); (case k9 => exact BindsTo.of_eq rfl); (case c5 => decide); (case kB => exact locs rfl); (case c2 => exact rfl); (case c3 => exact rfl); (case c4 => exact rfl); k_whole; intro g' L' h' FG' F' N' B' X' T'; (try dsimp only); (try k_lift B'); (try k_fold)))
  have hIL : g'.IsList l vs.toArray := (by (with_reducible rename Heap.IsList _ _ _ => hIL0); obtain ⟨o, ho, r⟩ := hIL0; exact ⟨o, FG'.keep _ _ ho, r⟩)
  k_steps
  with_reducible refine Stop.out ?_
  (refine LCg.CompSrc.ledger (by rfl) (by k_asm) (by k_asm) (by k_mem) (by simp only [List.size_toArray]; kcf_size) ?_; intro g2; (refine' kcf_list (fun x => x) (by assumption) (fun k' t' I' oI' C' oC' D' m' ys' h' tk' E' hk' hC' hx' F' N' off' ne' hMark' => ?_) ?_))
  (k_with "pyIter ref" => k_state (fun pre mixed => True) "mixed")
  (k_with "state" => (exact True.intro))
  k_steps
  (with_reducible rename News _ _ _ _ => nE)
  dsimp only at nE
  (with_reducible rename Obj.IsDictOf _ _ _ => nD)
  (with_reducible rename _ < _ ∧ _ < _ ∧ _ < _ ∧ _ < _ ∧ AllLt _ _ => z5)
  (with_reducible rename _ < _ ∧ _ < _ ∧ _ < _ ∧ AllLt _ _ => z4)
  refine hret _ _ _ _ ⟨_, _, _, _, rfl, ⟨_, _, _, _, _, _, _, nD, rfl, by assumption, ?_, by decide, by decide⟩, rfl, z5.1, z4.2.2.2, z5.2.2.2.2⟩ (by k_asm) (cb_drop nE (by kcj_all))
  simp only [List.length_reverse, List.length_map, List.length_take]; omega
end

end
section
noncomputable def RDraw (w : World) (k : Nat) (D lc : Addr) (below : Int) (news : List (Addr × Obj)) (v : Value) (led : List (Addr × Obj)) : Prop :=
  ∃ x t oD oc, .int x t = v ∧ 0 ≤ x ∧ x < below ∧ DeckIs w k lc oD oc ∧ (D, oD) :: (lc, oc) :: news = led
theorem RDraw.elim {w : World} {k : Nat} {D lc : Addr} {below : Int} {news led : List (Addr × Obj)} {v : Value} (h : RDraw w k D lc below news v led) {M : Value → List (Addr × Obj) → Prop} (q : ∀ x t oD oc, 0 ≤ x → x < below → DeckIs w k lc oD oc → M (.int x t) ((D, oD) :: (lc, oc) :: news)) : M v led := by
  obtain ⟨x, t, oD, oc, rfl, h1, h2, h3, rfl⟩ := h
  exact q x t oD oc h1 h2 h3
theorem RDraw.mk {w : World} {k : Nat} {D lc : Addr} {below : Int} {news : List (Addr × Obj)} {x : Int} {t : Tok} {oD oc : Obj} (h0 : 0 ≤ x) (h1 : x < below) (h2 : DeckIs w k lc oD oc) : RDraw w k D lc below news (.int x t) ((D, oD) :: (lc, oc) :: news) := ⟨x, t, oD, oc, rfl, h0, h1, h2, rfl⟩
theorem DeckIs.mk {w : World} {k : Nat} {lc : Addr} {oD : Obj} {mx tn : Int} {tm tt : Tok} {cvs : List Value} {cs : List Int} {n : Nat} (hD : oD.IsDictOf (PySem.strKind PySem.Challenge.rw_nt0010_01.row.prog w) [(Str.ofString "cells", .ref lc), (Str.ofString "mixed", .int mx tm), (Str.ofString "turn", .int tn tt)])
    (hi : IntsAre cvs cs) (hn : cs.length ≤ 8) (h0 : 0 ≤ tn) (h1 : tn ≤ k) : DeckIs w k lc oD (listOf cvs.toArray n) := ⟨mx, tm, tn, tt, cvs, cs, n, hD, rfl, hi, hn, h0, h1⟩
section
variable {prog : Program} {w : World} {A : Around} {E : Value → Shared → Prop} {s : Shared} {a b : Addr} {vs : List Value} {Q : Value → Shared → Prop}
theorem ne_pos (hp : 0 < vs.length) (ha : s.heap.IsList a vs.toArray) (hb : s.heap.IsList b #[]) (hu : A.units < cLine) (h : Q (.bool true) s) :
    wpAny (model prog w) A (compareOp .NotEq (.ref a) (.ref b)) Q E s :=
  PySem.SeqAt.RcNeAt.lists_lengths ha hb (by simp; exact List.ne_nil_of_length_pos hp) hu prog w E Q h
end
section
theorem draw_ctr' (w : World) (news : List (Addr × Obj)) (D lc : Addr) (oD : Obj) (mx tn : Int) (tm tt : Tok) (cvs : List Value) (cs : List Int) (n : Nat) (below : Int) (tb : Tok)
    (hD : oD.IsDictOf (PySem.strKind PySem.Challenge.rw_nt0010_01.row.prog w) [(Str.ofString "cells", .ref lc), (Str.ofString "mixed", .int mx tm), (Str.ofString "turn", .int tn tt)])
    (hi : IntsAre cvs cs) (hn : cs.length ≤ 8) (hb : 0 < below) (hb1 : below ≤ 100000) (ht0 : 0 ≤ tn) {k : Nat} (ht1 : tn ≤ k) (hk : k ≤ 1000) (h1 : @LT.lt Nat _ D lc) (hnD : ∀ p ∈ news, p.1 ≠ D) (hnl : ∀ p ∈ news, p.1 ≠ lc) :
    Ctr w 183 [.ref D, .int below tb] ((D, oD) :: (lc, listOf cvs.toArray n) :: news) 1 100 (RDraw w (k + 1) D lc below news) := by
  k_with_none
  k_with "storeName" => (with_reducible refine gen_store ?_); intro tF
  k_with "k_all" => with_reducible assumption
  k_with "compareOp NotEq ref ref" => refine Stop.mk ?_
  k_with "binaryOp FloorDiv int int" => (with_reducible refine floordiv_int (by omega) ?_ (Or.inl (PyProof.noPylong_small (by omega))))
  k_with "call builtin:list.append" => refine Stop.mk ?_
  have kMark := kstMark
  have hcl : cvs.length ≤ 8 := by rw [hi.length]; exact hn
  rcases Nat.eq_zero_or_pos cvs.length with hz | hpos
  · cases List.eq_nil_of_length_eq_zero hz
    cases hi
    (unfold Ctr; k_fill; intros; rename_i hret; refine wpAny_call ?_; k_dflt cell_enter)
    k_steps
    with_reducible refine Stop.out ?_
    refine ke_ne_ints (by is_list) (by is_list) .nil .nil (by ktr_units) ?_
    k_steps
    (with_reducible rename News _ _ _ _ => nE)
    (with_reducible rename Obj.IsDictOf _ _ _ => nD)
    dsimp only at nE
    exact hret _ _ _ _ (RDraw.mk (Int.fmod_nonneg_of_pos _ hb) (Int.fmod_lt_of_pos _ hb) (DeckIs.mk nD .nil (by decide) (by omega) (by omega))) (by k_asm) (cb_drop nE (by kcj_all))
  · have hll := hi.length
    (unfold Ctr; k_fill; intros; rename_i hret; refine wpAny_call ?_; k_dflt cell_enter)
    k_steps
    with_reducible refine Stop.out ?_
    refine ne_pos hpos (by is_list) (by is_list) (by ktr_units) ?_
    k_steps
    · with_reducible refine Stop.out ?_
      (with_reducible rename Fr _ _ _ _ => lF')
      (with_reducible rename News _ _ _ _ => lN')
      refine list_append_at (its := cvs.dropLast) (n := n + 1) [(D, _)] (post := news) lF' (cb_drop lN' (by kcj_all)) (fun p hp => by rw [List.mem_singleton.mp hp]; exact Nat.ne_of_lt h1) hnl (by rw [List.length_dropLast, sizeLine_eq]; omega) ?_
      intro h8 F8 N8
      k_steps
      (with_reducible rename News _ _ _ _ => nE)
      (with_reducible rename Obj.IsDictOf _ _ _ => nD)
      dsimp only at nE
      exact hret _ _ _ _ (RDraw.mk (Int.fmod_nonneg_of_pos _ hb) (Int.fmod_lt_of_pos _ hb) (DeckIs.mk nD (IntsAre.append (by with_reducible assumption) (.cons _ _ .nil)) (by simp only [List.length_append, List.length_dropLast, List.length_singleton]; omega) (by omega) (by omega))) (by k_asm) (cb_drop nE (by kcj_all))
    · (with_reducible rename News _ _ _ _ => nE)
      (with_reducible rename Obj.IsDictOf _ _ _ => nD)
      dsimp only at nE
      exact hret _ _ _ _ (RDraw.mk (Int.fmod_nonneg_of_pos _ hb) (Int.fmod_lt_of_pos _ hb) (DeckIs.mk nD (by with_reducible assumption) (by simp only [List.length_dropLast]; omega) (by omega) (by omega))) (by k_asm) (cb_drop nE (by kcj_all))
end
theorem draw_ctr (w : World) (news : List (Addr × Obj)) (D lc : Addr) (oD oc : Obj) (below : Int) (tb : Tok) {k : Nat} (hD : DeckIs w k lc oD oc) (hb : 0 < below) (hb1 : below ≤ 100000) (hk : k ≤ 1000) (h1 : @LT.lt Nat _ D lc) (hnD : ∀ p ∈ news, p.1 ≠ D) (hnl : ∀ p ∈ news, p.1 ≠ lc) :
    Ctr w 183 [.ref D, .int below tb] ((D, oD) :: (lc, oc) :: news) 1 100 (RDraw w (k + 1) D lc below news) := by
  obtain ⟨mx, tm, tn, tt, cvs, cs, n, hD, rfl, hi, hn, h0, h1'⟩ := hD
  exact draw_ctr' w news D lc oD mx tn tm tt cvs cs n below tb hD hi hn hb hb1 h0 h1' hk h1 hnD hnl

end
section
noncomputable def RPick (w : World) (k : Nat) (D lc : Addr) (vs : List Value) (news : List (Addr × Obj)) (v : Value) (led : List (Addr × Obj)) : Prop :=
  ∃ i : Nat, vs[i]? = some v ∧ ∃ oD oc, DeckIs w k lc oD oc ∧ (D, oD) :: (lc, oc) :: news = led
noncomputable def RPickB (w : World) (k : Nat) (D lc : Addr) (ks : List Int) (news : List (Addr × Obj)) (v : Value) (led : List (Addr × Obj)) : Prop :=
  ∃ x t, .int x t = v ∧ x ∈ ks ∧ ∃ oD oc, DeckIs w k lc oD oc ∧ (D, oD) :: (lc, oc) :: news = led
theorem RPick.elim {w : World} {k : Nat} {D lc : Addr} {vs : List Value} {news led : List (Addr × Obj)} {v : Value} (h : RPick w k D lc vs news v led) {M : List (Addr × Obj) → Prop} (q : ∀ (i : Nat) oD oc, vs[i]? = some v → DeckIs w k lc oD oc → M ((D, oD) :: (lc, oc) :: news)) : M led := by
  obtain ⟨i, h1, oD, oc, h2, rfl⟩ := h
  exact q i oD oc h1 h2
theorem RPickB.elim {w : World} {k : Nat} {D lc : Addr} {ks : List Int} {news led : List (Addr × Obj)} {v : Value} (h : RPickB w k D lc ks news v led) {M : Value → List (Addr × Obj) → Prop} (q : ∀ x t oD oc, x ∈ ks → DeckIs w k lc oD oc → M (.int x t) ((D, oD) :: (lc, oc) :: news)) : M v led := by
  obtain ⟨x, t, rfl, h1, oD, oc, h2, rfl⟩ := h
  exact q x t oD oc h1 h2
theorem at_toNat {vs : List Value} {x : Int} (h0 : 0 ≤ x) (h1 : x < vs.length) : ∃ v, vs[x.toNat]? = some v := ⟨_, List.getElem?_eq_getElem (by omega)⟩
section
theorem pick_list' (w : World) (news : List (Addr × Obj)) (D lc l : Addr) (oD oc : Obj) (vs : List Value) (n : Nat) {k : Nat} (hD : DeckIs w k lc oD oc) (hv : 0 < vs.length) (hv1 : vs.length ≤ 1000) (hk : k ≤ 1000) (h1 : @LT.lt Nat _ D lc) (hnD : ∀ p ∈ (l, listOf vs.toArray n) :: news, p.1 ≠ D) (hnl : ∀ p ∈ (l, listOf vs.toArray n) :: news, p.1 ≠ lc) :
    Ctr w 190 [.ref D, .ref l] ((D, oD) :: (lc, oc) :: (l, listOf vs.toArray n) :: news) 2 120 (RPick w (k + 1) D lc vs ((l, listOf vs.toArray n) :: news)) := by
  k_with_none
  k_with "call ref" => refine Stop.mk ?_
  k_with "call builtin:len" => (k_here; k_dflt (refine kst_len (by k_asm) (by k_mem) rfl (by omega) ?_))
  k_with "subscriptTail" => refine Stop.mk ?_
  have kMark := kstMark
  (unfold Ctr; k_fill; intros; rename_i hret; refine wpAny_call ?_; k_dflt cell_enter)
  k_steps
  with_reducible refine Stop.out ?_
  (refine' Ctr.use (draw_ctr _ _ _ _ _ _ _ _ hD (by omega) (by omega) hk h1 hnD hnl) ?k1 ?k2 ?k3 ?k4 ?k5 ?kK ?kd ?ku ?_; (case k1 => k_asm); (case k2 => k_asm); (case k3 => k_asm); (case k4 => k_asm); (case k5 => k_asm); (case kK => first | exact rfl | assumption); (case kd => ktr_room); (case ku => ktr_units); intro cv cled h' tk' hR F' N'; revert N'; apply RDraw.elim hR; clear hR; intro x9 t9 oD9 oc9 hx0 hx1 hD9 N'; (try dsimp only); (try k_fold))
  k_steps
  (try with_reducible refine Stop.out ?_)
  obtain ⟨v8, hv8⟩ := at_toNat hx0 hx1
  refine kim_list (lo := listOf vs.toArray n) (l := vs) (by k_asm) (by k_mem) rfl rfl hx0 (by omega) hv8 ?_
  k_steps
  exact hret _ _ _ _ ⟨_, hv8, _, _, hD9, rfl⟩ (by k_asm) (by k_asm)
theorem pick_bytes (w : World) (news : List (Addr × Obj)) (D lc : Addr) (oD oc : Obj) (b : Array UInt8) (t : Tok) {k : Nat} (hD : DeckIs w k lc oD oc) (hv : 0 < b.size) (hv1 : b.size ≤ 1000) (hk : k ≤ 1000) (h1 : @LT.lt Nat _ D lc) (hnD : ∀ p ∈ news, p.1 ≠ D) (hnl : ∀ p ∈ news, p.1 ≠ lc) :
    Ctr w 190 [.ref D, .bytes b t] ((D, oD) :: (lc, oc) :: news) 2 120 (RPickB w (k + 1) D lc (KBw.bInts b) news) := by
  k_with_none
  k_with "call ref" => refine Stop.mk ?_
  k_with "call builtin:len" => (k_here; k_dflt (refine kst_len (by k_asm) (by k_mem) rfl (by omega) ?_))
  k_with "subscriptTail" => refine Stop.mk ?_
  have kMark := kstMark
  (unfold Ctr; k_fill; intros; rename_i hret; refine wpAny_call ?_; k_dflt cell_enter)
  k_steps
  with_reducible refine Stop.out ?_
  (refine' Ctr.use (draw_ctr _ _ _ _ _ _ _ _ hD (by omega) (by omega) hk h1 hnD hnl) ?k1 ?k2 ?k3 ?k4 ?k5 ?kK ?kd ?ku ?_; (case k1 => k_asm); (case k2 => k_asm); (case k3 => k_asm); (case k4 => k_asm); (case k5 => k_asm); (case kK => first | exact rfl | assumption); (case kd => ktr_room); (case ku => ktr_units); intro cv cled h' tk' hR F' N'; revert N'; apply RDraw.elim hR; clear hR; intro x9 t9 oD9 oc9 hx0 hx1 hD9 N'; (try dsimp only); (try k_fold))
  k_steps
  (try with_reducible refine Stop.out ?_)
  have hbl := KBw.ints_length b
  refine KBw.item_K (ks := KBw.bInts b) rfl (by omega) hx0 (by omega) ?_
  intro g1 g2 g3 g4
  k_steps
  refine hret _ _ _ _ ⟨_, _, rfl, ?_, _, _, hD9, rfl⟩ (by k_asm) (by k_asm)
  rw [List.getD_eq_getElem?_getD, List.getElem?_eq_getElem (by omega)]
  exact List.getElem_mem _
end

end
section
noncomputable def signsK : List Int := ([65, 66, 67, 68, 69, 70, 71, 72, 73, 74, 75, 76, 77, 78, 79, 80, 81, 82, 83, 84, 85, 86, 87, 88, 89, 90, 97, 98, 99, 100, 101, 102, 103, 104, 105, 106, 107, 108, 109, 110, 111, 112, 113, 114, 115, 116, 117, 118, 119, 120, 121, 122, 48, 49, 50, 51, 52, 53, 54, 55, 56, 57, 43, 44] : List Int)
theorem signs_ctr (w : World) (news : List (Addr × Obj)) : Ctr w 197 [] news 1 8 (fun v led => ∃ b t, .bytes b t = v ∧ KBw.bInts b = signsK ∧ news = led) := by
  k_with_none
  k_with "execs cons" => first | (k_here; k_gentoks) | ((with_reducible refine wpAny_execs_cons ?_); (try dsimp only); (try k_fold))
  (unfold Ctr; k_fill; intros; rename_i hret; refine wpAny_call ?_; k_dflt cell_enter)
  k_steps
  exact hret _ _ _ _ ⟨_, _, rfl, by with_unfolding_all rfl, rfl⟩ (by k_asm) (by k_asm)
section
variable {d : Addr} {news : List (Addr × Obj)}
theorem off1 (h : AllLt d news) : ∀ p ∈ news, p.1 ≠ d + 1 := fun p hp => Nat.ne_of_lt (Nat.lt_of_lt_of_le (kst_ltOf h p hp) (Nat.le_add_right _ _))
theorem off2 (h : AllLt d news) : ∀ p ∈ news, p.1 ≠ d + 1 + 1 := fun p hp => Nat.ne_of_lt (Nat.lt_of_lt_of_le (kst_ltOf h p hp) (Nat.le_add_right _ 2))
theorem off3 (h : AllLt d news) : ∀ p ∈ news, p.1 ≠ d + 1 + 1 + 1 := fun p hp => Nat.ne_of_lt (Nat.lt_of_lt_of_le (kst_ltOf h p hp) (Nat.le_add_right _ 3))
end
noncomputable def lrStep (st : Int × Int) (u : Int) : Int × Int := (st.1 * 65536 + u, st.2 + 16)
noncomputable def lrFold (ns : List Int) : Int × Int := (pyUnits ns).foldl lrStep (0, 0)
theorem lrFold_snoc (pre : List Int) (c : Int) : lrFold (pre ++ [c]) = (pyUnit c).foldl lrStep (lrFold pre) := by unfold lrFold; rw [pyUnits_snoc, List.foldl_append]
theorem lrStep_many (us : List Int) (st : Int × Int) : (us.foldl lrStep st).2 = st.2 + 16 * us.length := by
  induction us generalizing st with
  | nil => simp
  | cons u r ih => rw [List.foldl_cons, ih]; simp only [lrStep, List.length_cons]; omega
theorem lrFold_many (ns : List Int) : (lrFold ns).2 = 16 * (pyUnits ns).length := by unfold lrFold; rw [lrStep_many]; simp
noncomputable def CellsOk (c : Obj × Obj × Int × Int × Tok × Tok) : Prop := c.1.data = .cell (some (.int c.2.2.1 c.2.2.2.2.1)) ∧ c.2.1.data = .cell (some (.int c.2.2.2.1 c.2.2.2.2.2))
noncomputable def lrSign (num many k : Int) : Int := signsK.getD (((num * 2 ^ ((-many).fmod 6).toNat).fdiv (64 ^ ((many + (-many).fmod 6).fdiv 6 - 1 - k).toNat)).fmod 64).toNat 0
noncomputable def lawRun (ns : List Int) : List Int := [38] ++ (rangeKs 0 (((lrFold ns).2 + (-(lrFold ns).2).fmod 6).fdiv 6).toNat).map (fun k => lrSign (lrFold ns).1 (lrFold ns).2 k) ++ [45]
theorem lawRun_bytes (ns : List Int) : byteArr (lawRun ns) = #[38] ++ byteArr ((rangeKs 0 (((lrFold ns).2 + (-(lrFold ns).2).fmod 6).fdiv 6).toNat).map (fun k => lrSign (lrFold ns).1 (lrFold ns).2 k)) ++ #[45] := by
  unfold lawRun
  rw [← byteArr_app, ← byteArr_app]; rfl
theorem lr_many0 {many : Int} (h : 0 ≤ many) : 0 ≤ (many + (-many).fmod 6).fdiv 6 := by
  have h0 := Int.fmod_nonneg_of_pos (-many) (b := 6) (by decide)
  rw [Int.fdiv_eq_ediv_of_nonneg _ (by decide)]; omega
theorem lr_many1 {many : Int} (h : many ≤ 320) : (many + (-many).fmod 6).fdiv 6 ≤ 55 := by
  have h1 := Int.fmod_lt_of_pos (-many) (b := 6) (by decide)
  rw [Int.fdiv_eq_ediv_of_nonneg _ (by decide)]; omega
theorem rangeSize_to {b : Int} (h : 0 ≤ b) : Builtin.Range.rangeSize 0 b 1 = ((b.toNat : Nat) : Int) := by
  obtain ⟨n, rfl⟩ := Int.eq_ofNat_of_zero_le h
  exact rangeSize_nat _ _
theorem pow_less (many : Int) : 0 ≤ (2 : Int) ^ ((-many).fmod 6).toNat ∧ (2 : Int) ^ ((-many).fmod 6).toNat ≤ 32 := by
  have h0 := Int.fmod_nonneg_of_pos (-many) (b := 6) (by decide)
  have h1 := Int.fmod_lt_of_pos (-many) (b := 6) (by decide)
  generalize (-many).fmod 6 = r at *
  have : r = 0 ∨ r = 1 ∨ r = 2 ∨ r = 3 ∨ r = 4 ∨ r = 5 := by omega
  rcases this with rfl | rfl | rfl | rfl | rfl | rfl <;> decide
theorem mul_less (num many : Int) : PySem.IntMulOk num ((2 : Int) ^ ((-many).fmod 6).toNat) :=
  PySem.IntMulOk.of_right (PySem.intBits_le_64 (Int.lt_of_lt_of_le (by decide) (pow_less many).1) (Int.lt_of_le_of_lt (pow_less many).2 (by decide)))
theorem pow64_log2 {n : Nat} (h : n ≤ 400) : ((64 : Int) ^ n).natAbs.log2 < 9000 := by
  rw [Int.natAbs_pow]
  show ((64 : Nat) ^ n).log2 < 9000
  rw [show (64 : Nat) = 2 ^ 6 from rfl, ← Nat.pow_mul, Nat.log2_two_pow]; omega
theorem pow64_ne (n : Nat) : (64 : Int) ^ n ≠ 0 := Int.ne_of_gt (Int.pow_pos (by decide))
section
variable {prog : Program} {w : World} {A : Around} {E : Value → Shared → Prop} {Q : Flow → Shared → Prop} {s : Shared} {env : Env} {h₀ : Heap} {x : Str} {body : List Stmt}
/-- kst_listL where the list heads the ledger -/
theorem kst_head {σ : Type} {l : Addr} {vs : List Value} {ns : List Int} {nn : Nat} {rest : List (Addr × Obj)} {m₀ : Str → Option Value} (N : News h₀ env.locals s.heap ((l, listOf vs.toArray nn) :: rest)) (F : Fr h₀ env.locals s.heap m₀) (hi : IntsAre vs ns)
    (Led : σ → List (Addr × Obj)) (ps : σ → List (Str × Value)) (Facts : σ → Prop) (stored : List Str) (P : List Int → σ → Prop) (c₀ : σ)
    (hh : A.handled = none) (hs : ∀ p ∈ Led c₀, p ∈ rest) (hf : Facts c₀) (hk : ∀ p ∈ ps c₀, m₀ p.1 = some p.2) (hp : P [] c₀)
    (hx : env.kindOf x = some .local) (hpl : (env.scope.kind == .class || (env.scope.kind == .module && env.locals != env.globals)) = false)
    (turn : ∀ (c : σ) pre post n t (u : Str → Option Value) h tk own, ns = pre ++ n :: post → n ∈ ns → OwnOff own (((l, listOf vs.toArray nn) :: Led c₀).map (·.1)) → Facts c → P pre c →
      Fr h₀ env.locals h (fun y => if y = x then some (.int n t) else kstB (fun z => if stored.contains z then u z else m₀ z) (ps c) y) → News h₀ env.locals h ((l, listOf vs.toArray nn) :: Led c ++ own) →
      wpAny (model prog w) A (execs body env) (InvPostN h₀ env.locals (KstS (fun c => (l, listOf vs.toArray nn) :: Led c) ps Facts x stored m₀ P (pre ++ [n])) own (((l, listOf vs.toArray nn) :: Led c₀).map (·.1)) { s with heap := h, toks := tk } Q) E { s with heap := h, toks := tk })
    (done : ∀ (c : σ) (u : Str → Option Value) h tk, Facts c → P ns c → Fr h₀ env.locals h (fun y => if y = x then u y else kstB (fun z => if stored.contains z then u z else m₀ z) (ps c) y) → News h₀ env.locals h ((l, listOf vs.toArray nn) :: Led c) → Q .next { s with heap := h, toks := tk }) :
    wpAny (model prog w) A (pyIter (.ref l)) (fun it s₂ => LoopAtV prog w A h₀ env x body Q E it s₂) E s :=
  kst_listL (fun c => (l, listOf vs.toArray nn) :: Led c) ps Facts stored P c₀ hh (fun c => List.mem_cons_self) hi F (fun p hp => by
    rcases List.mem_cons.mp hp with rfl | hp
    · exact N _ List.mem_cons_self
    · exact N _ (List.mem_cons_of_mem _ (hs p hp))) hf hk hp turn done
end
section
theorem run_ctr' (w : World) (news : List (Addr × Obj)) (l : Addr) (vs : List Value) (ns : List Int) (n : Nat) (hi : IntsAre vs ns) (hn : ns.length ≤ 10) (hr : ∀ c ∈ ns, 0 ≤ c ∧ c ≤ 1114111) :
    Ctr w 202 [.ref l] ((l, listOf vs.toArray n) :: news) 2 100 (fun v led => ∃ t, .bytes (byteArr (lawRun ns)) t = v ∧ (l, listOf vs.toArray n) :: news = led) := by
  k_with_none
  k_with "execs cons" => first | (k_here; k_gentoks) | ((with_reducible refine wpAny_execs_cons ?_); (try dsimp only); (try k_fold))
  k_with "k_all" => first | exact off1 (by with_reducible assumption) | exact off2 (by with_reducible assumption) | exact off3 (by with_reducible assumption)
  k_with "exec For" => (k_here; (rename Fr _ _ _ _ => lF'); (with_unfolding_all refine' For_invVF lF' ?k1 ?k2 ?_; (case k1 => exact rfl); (case k2 => exact rfl); k_whole))
  k_with "pyIter ref" => refine Stop.mk ?_
  k_with "eval IfExp" => refine Stop.mk ?_
  k_with "eval ListComp" => (k_here; k_dflt (refine LCg.ListComp_U (F₀ := by k_asm) (by with_unfolding_all rfl) (by decide) (by rfl) (by decide) (by rfl) ?_))
  k_with "CompSrc" => refine Stop.mk ?_
  k_with "call ref" => (k_here; (refine' Ctr.use (signs_ctr _ _) ?k1 ?k2 ?k3 ?k4 ?k5 ?kK ?kd ?ku ?_; (case k1 => k_asm); (case k2 => k_asm); (case k3 => k_asm); (case k4 => k_asm); (case k5 => k_asm); (case kK => first | exact rfl | assumption); (case kd => ktr_room); (case ku => ktr_units); intro cv cled h' tk' hR F' N'; revert N'; apply elim2 hR; clear hR; intro b9 t9 hb9 N'; (try dsimp only); (try k_fold)))
  k_with "binaryOp Mult int int" => (with_reducible refine mul_int ?_ (mul_less _ _))
  k_with "binaryOp FloorDiv int int" => (with_reducible refine floordiv_int (pow64_ne _) ?_ (Or.inl (PyProof.noPylong_of_log2 (pow64_log2 (by omega)))))
  k_with "InvEndN" => refine Stop.mk ?_
  have kMark := kstMark
  (unfold Ctr; k_fill; intros; rename_i hret; refine wpAny_call ?_; k_dflt (refine' code_defC ?k1 ?k2 ?k3 ?k4 ?k5 ?kA ?kF ?kK ?k6 ?k7 ?k8 ?k9 ?kB ?kD ?_ ?c2 ?c3 ?c4; (case kA => exact rfl); (case kF => exact rfl); (case kK => assumption); (case k1 => k_asm); (case k2 => k_asm); (case k3 => k_asm); (case k4 => k_asm); (case k5 => k_asm); (case k6 => k_is); (case k7 => k_is); (case k8 => ktr_room); (case k9 => exact BindsTo.of_eq rfl); (case kB => exact rfl); (case kD => decide +kernel); (case c2 => exact rfl); (case c3 => exact rfl); (case c4 => exact rfl); k_whole; intro g' L' h' tk' cells' FG' F' N' Y' B' X' T' l1; (try k_lt l1); k_cells Y'; (try simp only [List.cons_append, List.nil_append] at N'); (try dsimp only); (try k_lift B'); (try k_fold)))
  have l1n := l1.2
  k_steps
  with_reducible refine Stop.out ?_
  (with_reducible rename Fr _ _ _ _ => lF')
  (with_reducible rename News _ _ _ _ => lN')
  refine' kst_listL (σ := Obj × Obj × Int × Int × Tok × Tok) (vs := vs) (ns := ns) (nn := n) (fun c => (L' + 1, c.1) :: (L' + 1 + 1, c.2.1) :: (L' + 1 + 1 + 1, _) :: (l, listOf vs.toArray n) :: news) (fun _ => []) CellsOk [Str.ofString "units", Str.ofString "unit"]
    (fun pre c => c.2.2.1 = (lrFold pre).1 ∧ c.2.2.2.1 = (lrFold pre).2) (_, _, 0, 0, _, _) (by rfl) (fun c => by k_mem) hi lF' (cb_drop lN' (by kcj_all)) ?kf ?kk ?kp ?turn ?done
  case kf => exact ⟨by k_asm, by k_asm⟩
  case kk => kst_all
  case kp => exact ⟨rfl, rfl⟩
  case turn =>
    rintro ⟨oN, oM, num, many, tn, tm⟩ pre post k tk0 uu h9 tk9 own hEq hmem hOff hIs hOk F9 N9
    clear lF' lN'
    dsimp only at hOk F9 N9 ⊢
    obtain ⟨hc1, hc2⟩ := hIs
    dsimp only at hc1 hc2
    simp only [List.cons_append] at N9
    simp only [kstB] at F9
    simp only [List.map_cons] at hOff
    obtain ⟨hr0, hr1⟩ := hr k hmem
    k_steps
    with_reducible refine Stop.out ?_
    (with_reducible rename Fr _ _ _ _ => lF')
    (with_reducible rename News _ _ _ _ => lN')
    refine evalL (pyUnit k) lF' lN' ?jl ?_
    case jl =>
      with_reducible refine PyProof.Rows.IfExp_ ?_
      k_steps
      · refine JL.mk (us' := [k]) (.cons _ _ .nil) ?e1 ?a1 (by k_asm) (by k_asm)
        case e1 => unfold pyUnit; rw [if_pos (by omega)]
        case a1 => simp only [AllLt]; assumption
      · refine JL.mk (us' := [55296 + (k - 65536).fdiv 1024, 56320 + (k - 65536).fmod 1024]) (.cons _ _ (.cons _ _ .nil)) ?e2 ?a2 (by k_asm) (by k_asm)
        case e2 => unfold pyUnit; rw [if_neg (by omega), Int.fdiv_eq_ediv_of_nonneg _ (by decide), Int.fmod_eq_emod_of_nonneg _ (by decide)]
        case a2 => simp only [AllLt]; assumption
    clear lF' lN'
    intro lu uvs un h5 tk5 hiu hlu F5 N5
    simp only [AllLt] at hlu
    k_steps
    · with_reducible refine Stop.out ?_
      (with_reducible rename Fr _ _ _ _ => lF')
      (with_reducible rename News _ _ _ _ => lN')
      refine' kst_head (σ := Obj × Obj × Int × Int × Tok × Tok) lN' lF' hiu (fun c => (L' + 1, c.1) :: (L' + 1 + 1, c.2.1) :: (L' + 1 + 1 + 1, _) :: (l, listOf vs.toArray n) :: (news ++ own)) (fun _ => []) CellsOk []
        (fun pre2 c => (c.2.2.1, c.2.2.2.1) = pre2.foldl lrStep (num, many)) (_, _, num, many, _, _) (by rfl) (by kcj_all) ?kf2 ?kk2 ?kp2 (by rfl) (by rfl) ?turn2 ?done2
      case kf2 => exact ⟨by k_asm, by k_asm⟩
      case kk2 => kst_all
      case kp2 => rfl
      case turn2 =>
        rintro ⟨oN2, oM2, num2, many2, tn2, tm2⟩ pre2 post2 k2 tk2 uu2 h8 tk8 own2 hEq2 hmem2 hOff2 hIs2 hOk2 F8 N8
        clear lF' lN'
        dsimp only at hOk2 F8 N8 ⊢
        obtain ⟨hd1, hd2⟩ := hIs2
        dsimp only at hd1 hd2
        simp only [List.cons_append] at N8
        simp only [kstB] at F8
        simp only [List.map_cons] at hOff2
        k_steps
        ((with_reducible refine Stop.out ?_); (with_reducible rename News _ _ _ _ => nE'); (try simp only [List.push_toArray] at nE'); refine kst_end (_, _, _, _, _, _) (by k_asm) nE' (by first | kst_in | kst_inAny) (by first | (intro p hp; kst_mem) | kst_anyIn) (by rfl) ⟨by k_asm, by k_asm⟩ (by kst_all) (by kst_same) (by dsimp only; rw [List.foldl_append, ← hOk2]; rfl))
      case done2 =>
        rintro ⟨oN2, oM2, num2, many2, tn2, tm2⟩ uu2 h8 tk8 hIs2 hOk2 F8 N8
        clear lF' lN'
        dsimp only at hOk2 F8 N8 ⊢
        obtain ⟨hd1, hd2⟩ := hIs2
        dsimp only at hd1 hd2
        simp only [kstB] at F8
        k_steps
        ((with_reducible refine Stop.out ?_); (with_reducible rename News _ _ _ _ => nE'); (try simp only [List.push_toArray] at nE'); refine kst_end (_, _, _, _, _, _) (by k_asm) nE' (by first | kst_in | kst_inAny) (by first | (intro p hp; kst_mem) | kst_anyIn) (by rfl) ⟨by k_asm, by k_asm⟩ (by kst_all) (by kst_same) (by dsimp only; rw [lrFold_snoc]; rw [show (num, many) = lrFold pre from Prod.ext hOk.1 hOk.2] at hOk2; exact ⟨congrArg Prod.fst hOk2, congrArg Prod.snd hOk2⟩))
  case done =>
    rintro ⟨oN, oM, num, many, tn, tm⟩ uu h9 tk9 hIs hOk F9 N9
    clear lF' lN'
    dsimp only at hOk F9 N9 ⊢
    obtain ⟨hc1, hc2⟩ := hIs
    dsimp only at hc1 hc2
    simp only [kstB] at F9
    have hm := lrFold_many ns
    have hul := pyUnits_len ns
    rw [← hOk.2] at hm
    have hm0 : 0 ≤ many := by omega
    have hm1 : many ≤ 320 := by omega
    k_steps
    with_reducible refine Stop.out ?_
    have hb0 : 0 ≤ (many + (-many).fmod 6).fdiv 6 := lr_many0 hm0
    have hb1 : (many + (-many).fmod 6).fdiv 6 ≤ 55 := lr_many1 hm1
    refine LCg.CompSrc.range (n := ((many + (-many).fmod 6).fdiv 6).toNat) (by rfl) (by k_asm) (by k_asm) (by assumption) (small_one (by omega) (by omega) (by omega) (by omega)) (rangeSize_to hb0) (by rw [sizeLine_eq]; omega) ?_
    intro g2
    refine' kcf_range (fun k => lrSign num many k) (fun k' t' I' oI' C' oC' D' m' ys' h' tk' E' hlo' hhi' hC' hx' F' N' off' ne' hMark' => ?_) ?_
    all_goals (try (simp only [LCg.Off3, and_true] at off'))
    · k_steps
      have q0 := Int.fmod_nonneg_of_pos ((num * 2 ^ ((-many).fmod 6).toNat).fdiv (64 ^ ((many + (-many).fmod 6).fdiv 6 - 1 - k').toNat)) (b := 64) (by decide)
      have q1 := Int.fmod_lt_of_pos ((num * 2 ^ ((-many).fmod 6).toNat).fdiv (64 ^ ((many + (-many).fmod 6).fdiv 6 - 1 - k').toNat)) (b := 64) (by decide)
      refine KBw.item_K (ks := signsK) (by with_reducible assumption) (by decide) q0 (by show _ < (64 : Int); exact q1) ?_
      intro g5 g6 g7 g8
      k_steps
      exact kcf_el rfl rfl rfl
    · k_steps
      refine hret _ _ _ _ ⟨_, congrArg (fun x => Value.bytes x _) ?_, rfl⟩ (by k_asm) (cb_drop (by k_asm) (by kcj_all))
      rw [lawRun_bytes, ← hOk.1, ← hOk.2]
end
theorem run_ctr (w : World) (news : List (Addr × Obj)) (l : Addr) (vs : List Value) (ns : List Int) (n : Nat) (hm : (l, listOf vs.toArray n) ∈ news) (hi : IntsAre vs ns) (hn : ns.length ≤ 10) (hr : ∀ c ∈ ns, 0 ≤ c ∧ c ≤ 1114111) :
    Ctr w 202 [.ref l] news 2 100 (fun v led => ∃ t, .bytes (byteArr (lawRun ns)) t = v ∧ news = led) := ctr_mem hm (run_ctr' w news l vs ns n hi hn hr) (by
  rintro v led' ⟨t, hv, hl⟩
  subst hl
  exact ⟨_, ⟨t, hv, rfl⟩, fun p hp => List.mem_cons_of_mem _ hp⟩)

end
section
noncomputable def wrFlush (run : List Int) : List Int := if run = [] then [] else lawRun run
noncomputable def wrStep (st : List Int × List Int) (x : Int) : List Int × List Int :=
  if 32 ≤ x ∧ x ≤ 126 then (st.1 ++ wrFlush st.2 ++ (if x = 38 then [38, 45] else [x]), []) else (st.1, st.2 ++ [x])
noncomputable def wrFold (ns : List Int) : List Int × List Int := ns.foldl wrStep ([], [])
noncomputable def lawText (ns : List Int) : List Int := (wrFold (ns ++ [32])).1.dropLast
theorem wrFold_snoc (ns : List Int) (x : Int) : wrFold (ns ++ [x]) = wrStep (wrFold ns) x := by simp [wrFold]
theorem lawRun_len {ns : List Int} (h : ns.length ≤ 10) : (lawRun ns).length ≤ 57 := by
  have hm := lrFold_many ns
  have hul := pyUnits_len ns
  have := lr_many1 (many := (lrFold ns).2) (by omega)
  simp only [lawRun, List.length_append, List.length_map, List.length_cons, List.length_nil, rangeKs_length]
  omega
noncomputable def WrOk (pre bs run : List Int) : Prop := (bs, run) = wrFold pre ∧ bs.length ≤ 100 * pre.length ∧ run.length ≤ pre.length ∧ ∀ x ∈ run, 0 ≤ x ∧ x ≤ 1114111
theorem wr_0 : WrOk [] [] [] := ⟨rfl, by decide, by decide, fun _ h => nomatch h⟩
theorem wrFlush_len {run : List Int} (h : run.length ≤ 10) : (wrFlush run).length ≤ 57 := by
  unfold wrFlush; split
  · simp
  · exact lawRun_len h
theorem wr_plain {pre bs run : List Int} {x : Int} (h : WrOk pre bs run) (hp : pre.length ≤ 10) (h0 : 32 ≤ x) (h1 : x ≤ 126) : WrOk (pre ++ [x]) (bs ++ wrFlush run ++ (if x = 38 then [38, 45] else [x])) [] := by
  obtain ⟨e1, e2, e3, e4⟩ := h
  have hl := wrFlush_len (run := run) (by omega)
  have eW : wrStep (bs, run) x = (bs ++ wrFlush run ++ (if x = 38 then [38, 45] else [x]), []) := if_pos ⟨h0, h1⟩
  refine ⟨by rw [wrFold_snoc, ← e1, eW], ?_, by simp, fun _ h => nomatch h⟩
  have : (if x = 38 then [38, 45] else [x]).length ≤ 2 := by split <;> simp
  simp only [List.length_append, List.length_singleton] at *; omega
theorem wr_run {pre bs run : List Int} {x : Int} (h : WrOk pre bs run) (hx : ¬ (32 ≤ x ∧ x ≤ 126)) (h0 : 0 ≤ x) (h1 : x ≤ 1114111) : WrOk (pre ++ [x]) bs (run ++ [x]) := by
  obtain ⟨e1, e2, e3, e4⟩ := h
  refine ⟨by rw [wrFold_snoc, ← e1, wrStep, if_neg hx], ?_, ?_, fun y hy => ?_⟩
  · simp only [List.length_append, List.length_singleton]; omega
  · simp only [List.length_append, List.length_singleton]; omega
  · rcases List.mem_append.mp hy with hy | hy
    · exact e4 y hy
    · rw [List.mem_singleton.mp hy]; exact ⟨h0, h1⟩
theorem wr_b1 {bs run : List Int} (h : run = []) : byteArr bs ++ #[] ++ #[38, 45] = byteArr (bs ++ wrFlush run ++ [38, 45]) := by
  subst h; rw [← byteArr_app, ← byteArr_app]; rfl
theorem wr_b2 {bs run : List Int} {x : Int} (h : run = []) : byteArr bs ++ #[] ++ #[x.toNat.toUInt8] = byteArr (bs ++ wrFlush run ++ [x]) := by
  subst h; rw [← byteArr_app, ← byteArr_app]; rfl
theorem wr_b3 {bs run : List Int} (h : ¬ run = []) : byteArr bs ++ byteArr (lawRun run) ++ #[38, 45] = byteArr (bs ++ wrFlush run ++ [38, 45]) := by
  unfold wrFlush; rw [if_neg h, ← byteArr_app, ← byteArr_app]; rfl
theorem wr_b4 {bs run : List Int} {x : Int} (h : ¬ run = []) : byteArr bs ++ byteArr (lawRun run) ++ #[x.toNat.toUInt8] = byteArr (bs ++ wrFlush run ++ [x]) := by
  unfold wrFlush; rw [if_neg h, ← byteArr_app, ← byteArr_app]; rfl
theorem byteArr_ints (b : Array UInt8) : byteArr (KBw.bInts b) = b := by
  show ((b.toList.map fun c => ((c.toNat : Nat) : Int)).map fun n => n.toNat.toUInt8).toArray = b
  rw [List.map_map]
  have : ((fun n : Int => n.toNat.toUInt8) ∘ fun c : UInt8 => ((c.toNat : Nat) : Int)) = _root_.id := by
    funext c
    simp
  rw [this, List.map_id]
theorem clipAt_m1 (n : Nat) : clipAt n (-1) = n - 1 := by
  unfold clipAt; rw [if_pos (by decide)]
  cases n with
  | zero => rfl
  | succ n =>
    rw [show -1 + ((n + 1 : Nat) : Int) = (n : Int) from (Int.add_comm _ _).trans (Int.add_sub_cancel (n : Int) 1), Int.min_eq_left (Int.ofNat_le.mpr (Nat.le_succ n)), Int.max_eq_right (Int.natCast_nonneg n)]
    rfl
theorem signs_in (j : Nat) : 0 ≤ signsK.getD j 0 ∧ signsK.getD j 0 < 256 := by
  rw [List.getD_eq_getElem?_getD]
  cases h : signsK[j]? with
  | none => decide
  | some k => exact (show ∀ x ∈ signsK, 0 ≤ x ∧ x < 256 by decide) k (List.mem_of_getElem? h)
theorem lawRun_in (ns : List Int) : KBa.In (lawRun ns) := by
  intro x hx
  unfold lawRun at hx
  rcases List.mem_append.mp hx with hx | hx
  · rcases List.mem_append.mp hx with hx | hx
    · rw [List.mem_singleton.mp hx]; decide
    · obtain ⟨k, _, rfl⟩ := List.mem_map.mp hx; exact signs_in _
  · rw [List.mem_singleton.mp hx]; decide
theorem wrFold_in (ns : List Int) : KBa.In (wrFold ns).1 := by
  have key : ∀ (l : List Int) (st : List Int × List Int), KBa.In st.1 → KBa.In (l.foldl wrStep st).1 := by
    intro l
    induction l with
    | nil => intro st h; exact h
    | cons x r ih =>
      intro st h
      refine ih _ ?_
      unfold wrStep
      by_cases c : 32 ≤ x ∧ x ≤ 126
      · rw [if_pos c]
        intro y hy
        rcases List.mem_append.mp hy with hy | hy
        · rcases List.mem_append.mp hy with hy | hy
          · exact h y hy
          · unfold wrFlush at hy
            split at hy
            · exact nomatch hy
            · exact lawRun_in _ y hy
        · split at hy
          · rcases List.mem_cons.mp hy with rfl | hy
            · decide
            · rw [List.mem_singleton.mp hy]; decide
          · rw [List.mem_singleton.mp hy]; omega
      · rw [if_neg c]; exact h
  exact key ns _ (fun _ h => nomatch h)
noncomputable def WrSt (I : Addr) (base : List (Addr × Obj)) (pre bs run : List Int) (rvs : List Value) (D : Addr) : Prop :=
  WrOk pre bs run ∧ IntsAre rvs run ∧ D ≠ I ∧ (∀ p ∈ base, p.1 ≠ I)
section
theorem written_ctr (w : World) (news : List (Addr × Obj)) (l : Addr) (vs : List Value) (ns : List Int) (n : Nat) (hm : (l, listOf vs.toArray n) ∈ news) (hi : IntsAre vs ns) (hn : ns.length ≤ 6) (hr : ∀ c ∈ ns, 0 ≤ c ∧ c ≤ 1114111) :
    CtrG w 209 [.ref l] news 3 120 (fun v led => ∃ b t, .bytes b t = v ∧ KBw.bInts b = lawText ns ∧ news = led) (fun _ _ => False) := by
  k_with_none
  k_with "execs cons" => first | (k_here; k_gentoks) | ((with_reducible refine wpAny_execs_cons ?_); (try dsimp only); (try k_fold))
  k_with "pyIter ref" => refine Stop.mk ?_
  k_with "call ref" => refine Stop.mk ?_
  k_with "binaryOp Add bytes bytes" => (refine KBy.add_bytes (by (try simp only [Array.size_append, byteArr_size]); first | omega | (simp; omega)) ?_; intro _ _)
  have kMark := kstMark
  (unfold CtrG; k_fill; intros; rename_i hret hexc; refine G_call ?_; k_dflt (refine' code_def_G ?k1 ?k2 ?k3 ?k4 ?k5 ?kA ?kF ?kK ?k6 ?k7 ?k8 ?k9 ?kB ?_ ?c2 ?c3 ?c4 ?c5; (case kA => exact rfl); (case kF => exact rfl); (case kK => assumption); (case k1 => k_asm); (case k2 => k_asm); (case k3 => k_asm); (case k4 => k_asm); (case k5 => k_asm); (case k6 => k_is); (case k7 => k_is); (case k8 => ktr_room); (case k9 => exact BindsTo.of_eq rfl); (case c5 => decide); (case kB => exact locs rfl); (case c2 => exact rfl); (case c3 => exact rfl); (case c4 => exact rfl); k_whole; intro g' L' h' FG' F' N' B' X' T' hLt'; (try dsimp only); (try k_lift B'); (try k_fold)))
  with_reducible rename Shared => s0
  refine hideP (by passes_own) fun Q' E' hQ' hE' => ?_
  have N0 : News _ _ _ ((l, listOf vs.toArray n) :: news) := fun p hp => (by
    rcases List.mem_cons.mp hp with rfl | hp
    · exact N' _ hm
    · exact N' _ hp)
  refine G_execs_cons (G_of ?_)
  try k_fold
  k_steps
  refine G_execs_cons (G_For ?_)
  k_steps
  with_reducible refine Stop.out ?_
  (with_reducible rename Fr _ _ _ _ => lF')
  (with_reducible rename News _ _ _ _ => lN')
  rename_i lr g1 l1a D0 g2 l1b g3 g4 g5 l32 g6 l1c Ds ws g7 hI9 l1d
  refine' G_forStateI (σ := List Int × List Int × List Value × Nat × Addr × Tok) (vs := ws) (n := 0) (fun c => (c.2.2.2.2.1, listOf c.2.2.1.toArray c.2.2.2.1) :: (Ds, listOf ws.toArray 0) :: news) (fun c => [(Str.ofString "found", .bytes (byteArr c.1) c.2.2.2.2.2), (Str.ofString "run", .ref c.2.2.2.2.1)])
    (fun I i c => WrSt I ((Ds, listOf ws.toArray 0) :: news) ((ns ++ [32]).take i) c.1 c.2.1 c.2.2.1 c.2.2.2.2.1) ([], [], [], 0, lr, _) (by rfl) (by rfl) (by rfl) lF' lN' (by kcj_all) ?kk ?kp (fun c => List.mem_cons_of_mem _ List.mem_cons_self) ?hne ?turn ?done ?pass
  case kk => kst_all
  case kp =>
    intro I hI
    exact ⟨wr_0, .nil, Nat.ne_of_lt (hI (lr, listOf #[] 0) (by k_mem)), fun p hp => Nat.ne_of_lt (hI p (by revert p; kcj_all))⟩
  case hne =>
    rintro I i c ⟨e1, e2, e4, e6⟩ p hp
    rcases List.mem_cons.mp hp with rfl | hp
    · exact e4
    · exact e6 p hp
  case pass => exact hE'
  case turn =>
    clear lF' lN' l1a l1b l1c l1d
    rintro ⟨bs, run, rvs, nn, D', tb⟩ i v u9 h9 tk9 I o hv9 hP9 F9 N9 ho9
    have F9 : Fr g' L' h9 _ := F9
    have N9 : News g' L' h9 _ := N9
    dsimp only at hP9 F9 N9 ⊢
    simp only [kstB] at F9
    obtain ⟨x, tx, rfl, hx9⟩ := IntsAre.at hI9 i v hv9
    obtain ⟨e1, e2, e4, e6⟩ := hP9
    have q1 := e1.2.1
    have q2 : ((ns ++ [32]).take i).length ≤ 7 := by simp only [List.length_take, List.length_append, List.length_singleton]; omega
    have hrun : run.length ≤ 7 := by have := e1.2.2.1; omega
    have hrl := e2.length
    have hrin : 0 ≤ x ∧ x ≤ 1114111 := by
      rcases List.mem_append.mp (List.mem_of_getElem? hx9) with hx | hx
      · exact hr x hx
      · rw [List.mem_singleton.mp hx]; decide
    have eT : (ns ++ [32]).take (i + 1) = (ns ++ [32]).take i ++ [x] := by rw [List.take_add_one, hx9]; rfl
    rw [eT]
    have hfl := lawRun_len (ns := run) (by omega)
    refine G_execs_cons (G_of ?_)
    try k_fold
    k_steps
    rotate_left 2
    · with_reducible refine Stop.out ?_
      ((with_reducible rename Fr _ _ _ _ => lF'); (with_reducible rename News _ _ _ _ => lN'); refine' Ctr.use (run_ctr w _ D' rvs run nn (by k_mem) e2 (by omega) e1.2.2.2) ?k1 lF' ?k3 lN' ?k5 ?kK ?kd ?ku ?_; (case k1 => k_asm); (case k3 => k_asm); (case k5 => k_asm); (case kK => first | exact rfl | assumption); (case kd => ktr_room); (case ku => ktr_units); clear lF' lN'; intro cv cled h' tk' hR F' N'; revert N'; apply elim1 hR; clear hR; intro t7 N'; (try dsimp only); (try k_fold))
      k_steps
      · (with_reducible rename Fr _ _ _ _ => lF')
        (with_reducible rename News _ _ _ _ => lN')
        rw [wr_b3 (by simpa using ‹decide (run = []) = false›)] at lF'
        try dsimp only
        refine G_execs_nil (gend (bs ++ wrFlush run ++ [38, 45], [], [], 0, _, _) lF' lN' (by kcj_all) (by kst_all) ⟨?_, .nil, (by k_ne), e6⟩)
        have := wr_plain e1 (by omega) (by omega) (by omega)
        rw [if_pos (by with_reducible assumption)] at this
        exact this
      · (with_reducible rename Fr _ _ _ _ => lF')
        (with_reducible rename News _ _ _ _ => lN')
        rw [wr_b4 (by simpa using ‹decide (run = []) = false›)] at lF'
        try dsimp only
        refine G_execs_nil (gend (bs ++ wrFlush run ++ [x], [], [], 0, _, _) lF' lN' (by kcj_all) (by kst_all) ⟨?_, .nil, (by k_ne), e6⟩)
        have := wr_plain e1 (by omega) (by omega) (by omega)
        rw [if_neg (by with_reducible assumption)] at this
        exact this
    · (with_reducible rename Fr _ _ _ _ => lF')
      (with_reducible rename News _ _ _ _ => lN')
      try dsimp only
      refine G_execs_nil (gend (bs, run ++ [x], _, _, _, _) lF' lN' (by kcj_all) (by kst_all) ⟨wr_run e1 (by omega) hrin.1 hrin.2, by with_reducible assumption, (by k_ne), e6⟩)
    · (with_reducible rename Fr _ _ _ _ => lF')
      (with_reducible rename News _ _ _ _ => lN')
      try dsimp only
      refine G_execs_nil (gend (bs, run ++ [x], _, _, _, _) lF' lN' (by kcj_all) (by kst_all) ⟨wr_run e1 (by omega) hrin.1 hrin.2, by with_reducible assumption, (by k_ne), e6⟩)
    · have hr0 : run = [] := by simpa using ‹decide (run = []) = true›
      (with_reducible rename Fr _ _ _ _ => lF')
      (with_reducible rename News _ _ _ _ => lN')
      rw [wr_b1 hr0] at lF'
      try dsimp only
      refine G_execs_nil (gend (bs ++ wrFlush run ++ [38, 45], [], [], 0, _, _) lF' lN' (by kcj_all) (by kst_all) ⟨?_, .nil, (by k_ne), e6⟩)
      have := wr_plain e1 (by omega) (by omega) (by omega)
      rw [if_pos (by with_reducible assumption)] at this
      exact this
    · have hr0 : run = [] := by simpa using ‹decide (run = []) = true›
      (with_reducible rename Fr _ _ _ _ => lF')
      (with_reducible rename News _ _ _ _ => lN')
      rw [wr_b2 hr0] at lF'
      try dsimp only
      refine G_execs_nil (gend (bs ++ wrFlush run ++ [x], [], [], 0, _, _) lF' lN' (by kcj_all) (by kst_all) ⟨?_, .nil, (by k_ne), e6⟩)
      have := wr_plain e1 (by omega) (by omega) (by omega)
      rw [if_neg (by with_reducible assumption)] at this
      exact this
  case done =>
    clear lF' lN' l1a l1b l1c l1d
    rintro I ⟨bs, run, rvs, nn, D', tb⟩ u9 h9 tk9 hP9 F9 N9
    have F9 : Fr g' L' h9 _ := F9
    have N9 : News g' L' h9 _ := N9
    dsimp only at hP9 F9 N9 ⊢
    simp only [kstB] at F9
    obtain ⟨e1, e2, e4, e6⟩ := hP9
    have eT : (ns ++ [32]).take ws.length = ns ++ [32] := List.take_of_length_le (by rw [hI9.length]; exact Nat.le_refl _)
    rw [eT] at e1
    have q1 := e1.2.1
    have q2 : (ns ++ [32]).length ≤ 7 := by simp only [List.length_append, List.length_singleton]; omega
    have hin := wrFold_in (ns ++ [32])
    have eB : bs = (wrFold (ns ++ [32])).1 := congrArg Prod.fst e1.1
    rw [← eB] at hin
    have hbi := KBa.ints_make hin
    refine G_execs_cons (G_of ?_)
    try k_fold
    k_steps
    (with_reducible rename KBw.bInts _ = _ => hk8)
    have hk9 : KBw.bInts (KBy.picked (byteArr bs) none (some (-1))) = lawText ns := by
      rw [hk8]
      show (bs.drop 0).take (clipAt bs.length (-1) - 0) = (wrFold (ns ++ [32])).1.dropLast
      rw [← eB, List.drop_zero, List.dropLast_eq_take, clipAt_m1]; rfl
    refine hQ' _ _ ?_
    dsimp only
    k_steps
    exact hret _ _ _ _ ⟨_, _, rfl, hk9, rfl⟩ (by k_asm) (cb_drop (by k_asm) (by kcj_all))
end

end
section
section
variable {prog : Program} {w : World} {A : Around} {E : Value → Shared → Prop} {s : Shared} {h₀ : Heap} {L D : Addr} {m : Str → Option Value} {news : List (Addr × Obj)} {vs : List Value} {fs : List Int} {n : Nat}
theorem snoc_of_pos {α : Type} {l : List α} (h : 0 < l.length) : ∃ p y, l = p ++ [y] := by
  rcases List.eq_nil_or_concat l with rfl | ⟨p, y, e⟩
  · cases h
  · exact ⟨p, y, by simpa using e⟩
theorem ints_last (hi : IntsAre vs fs) (hp : 0 < vs.length) : ∃ t, vs = vs.dropLast ++ [.int (fs.getLastD 0) t] ∧ IntsAre vs.dropLast fs.dropLast := by
  obtain ⟨y, t, e, e2, e3⟩ := kpa_ints hi hp
  exact ⟨t, e2 ▸ e, e3⟩
theorem last_K {value slice : PySem.Expr} {tk : Tok} {Q : Value → Shared → Prop} (N : News h₀ L s.heap news) (hm : (D, listOf vs.toArray n) ∈ news) (hi : IntsAre vs fs) (hp : 0 < vs.length) (hz : vs.length ≤ 100000) (h : ∀ t, Q (.int (fs.getLastD 0) t) s)
    (hs : subscripted slice false (.ref D) (.int (-1) tk) = operate [.ref D, .int (-1) tk] (getItem (.ref D) (.int (-1) tk)) := by with_unfolding_all rfl) (hg : ∀ r, letTemporaryGo value (.ref D) r = pure () := by intro _; with_unfolding_all rfl) :
    wpAny (model prog w) A (subscriptTail value slice (.ref D) (.int (-1) tk)) Q E s := by
  obtain ⟨t, e, _⟩ := ints_last hi hp
  refine kim_back (lo := listOf vs.toArray n) (l := vs) (x := .int (fs.getLastD 0) t) N hm rfl rfl (by decide) (by omega) (by decide) ?_ (h t) hs hg
  have hl : (-1 + (vs.length : Int)).toNat = vs.dropLast.length := by rw [List.length_dropLast]; omega
  rw [hl]
  conv => lhs; rw [e]
  simp
theorem set_last (pre : List (Addr × Obj)) {post : List (Addr × Obj)} {x : Int} {u tk : Tok} {Q : Unit → Shared → Prop} (F : Fr h₀ L s.heap m) (N : News h₀ L s.heap (pre ++ (D, listOf vs.toArray n) :: post)) (h1 : ∀ p ∈ pre, p.1 ≠ D) (h2 : ∀ p ∈ post, p.1 ≠ D) (hp : 0 < vs.length) (hz : vs.length ≤ 100000)
    (h : ∀ h', Fr h₀ L h' m → News h₀ L h' (pre ++ (D, listOf (vs.dropLast ++ [Value.int x u]).toArray n) :: post) → Q () { s with heap := h' }) :
    wpAny (model prog w) A (setItem (.ref D) (.int (-1) tk) (.int x u)) Q E s := by
  have z := N _ (List.mem_append_right _ List.mem_cons_self)
  refine ki_setBack z.1 (by decide) (by rw [List.size_toArray]; omega) (by decide) ?_
  refine h _ (F.change (Heap.SameBut.update ..) z.2.1 z.2.2) (ki_turn _ N h1 h2 ?_ ?_)
  · show vs.toArray.setIfInBounds _ _ = _
    apply Array.toList_inj.mp
    obtain ⟨p, y, rfl⟩ := snoc_of_pos hp
    have : (-1 + (((p ++ [y]).toArray.size : Nat) : Int)).toNat = p.length := by simp only [List.size_toArray, List.length_append, List.length_singleton]; omega
    rw [this]
    simp
  · have : (vs.dropLast ++ [Value.int x u]).toArray.size = vs.toArray.size := by simp only [List.size_toArray, List.length_append, List.length_dropLast, List.length_singleton]; omega
    rw [this]; simp
end
theorem pow2_log2 {n : Nat} (h : n ≤ 400) : ((2 : Int) ^ n).natAbs.log2 < 9000 := by
  rw [Int.natAbs_pow]
  show ((2 : Nat) ^ n).log2 < 9000
  rw [Nat.log2_two_pow]; omega
theorem pow2_ne (n : Nat) : (2 : Int) ^ n ≠ 0 := Int.ne_of_gt (Int.pow_pos (by decide))
/-- the number that the signs write -/
noncomputable def lcNum (ks : List Int) : Int := ks.foldl (fun n s => n * 64 + (signsK.idxOf s : Int)) 0
theorem lcNum_snoc (ks : List Int) (s : Int) : lcNum (ks ++ [s]) = lcNum ks * 64 + (signsK.idxOf s : Int) := by simp [lcNum]
noncomputable def lcIter (num : Int) : Nat → List Int × Int
  | 0 => ([], num)
  | i + 1 => ((lcIter num i).2.fmod 65536 :: (lcIter num i).1, (lcIter num i).2.fdiv 65536)
noncomputable def lc3 : Option (List Int) → Int → Option (List Int)
  | none, _ => none
  | some f, u =>
    if f ≠ [] ∧ 55296 ≤ f.getLastD 0 ∧ f.getLastD 0 ≤ 56319 then
      (if 56320 ≤ u ∧ u ≤ 57343 then some (f.dropLast ++ [65536 + (f.getLastD 0 - 55296) * 1024 + u - 56320]) else none)
    else if (56320 ≤ u ∧ u ≤ 57343) ∨ (32 ≤ u ∧ u ≤ 126) then none
    else some (f ++ [u])
noncomputable def lc3s (us : List Int) : Option (List Int) := us.foldl lc3 (some [])
theorem lc3s_snoc (us : List Int) (u : Int) : lc3s (us ++ [u]) = lc3 (lc3s us) u := by simp [lc3s]
noncomputable def lcLeft (ks : List Int) : Int := (6 * (ks.length : Int)).fmod 16
noncomputable def lcMany (ks : List Int) : Nat := ((6 * (ks.length : Int)).fdiv 16).toNat
noncomputable def lawCodes (ks : List Int) : Option (List Int) :=
  if ks.all (fun s => decide (s ∈ signsK)) = true then
    if lcLeft ks > 5 ∨ (lcNum ks).fmod (2 ^ (lcLeft ks).toNat) ≠ 0 then none
    else match lc3s (lcIter ((lcNum ks).fdiv (2 ^ (lcLeft ks).toNat)) (lcMany ks)).1 with
      | none => none
      | some f => if 55296 ≤ f.getLastD 0 ∧ f.getLastD 0 ≤ 56319 then none else some f
  else none
noncomputable def RCodes (news : List (Addr × Obj)) (r : Option (List Int)) (v : Value) (led : List (Addr × Obj)) : Prop :=
  (.none = v ∧ r = none ∧ news = led) ∨ ∃ l vs n cs, .ref l = v ∧ r = some cs ∧ IntsAre vs cs ∧ (l, listOf vs.toArray n) :: news = led ∧ AllLt l news
theorem RCodes.none_ {news : List (Addr × Obj)} {r : Option (List Int)} (h : r = none) : RCodes news r .none news := .inl ⟨rfl, h, rfl⟩
theorem RCodes.some_ {news : List (Addr × Obj)} {r : Option (List Int)} {cs : List Int} {l : Addr} {vs : List Value} {n : Nat} (h : r = some cs) (hi : IntsAre vs cs) (ha : AllLt l news) : RCodes news r (.ref l) ((l, listOf vs.toArray n) :: news) := .inr ⟨l, vs, n, cs, rfl, h, hi, rfl, ha⟩
theorem RCodes.elim {news : List (Addr × Obj)} {led : List (Addr × Obj)} {r : Option (List Int)} {v : Value} (h : RCodes news r v led) {M : Value → List (Addr × Obj) → Prop} (k1 : r = none → M .none news) (k2 : ∀ l vs n cs, r = some cs → IntsAre vs cs → AllLt l news → M (.ref l) ((l, listOf vs.toArray n) :: news)) : M v led := by
  rcases h with ⟨rfl, h, rfl⟩ | ⟨l, vs, n, cs, rfl, h1, h2, rfl, h3⟩
  · exact k1 h
  · exact k2 l vs n cs h1 h2 h3
theorem codes_bad {ks : List Int} {k : Int} (hm : k ∈ ks) (h : ¬ k ∈ signsK) : lawCodes ks = none := by
  unfold lawCodes
  rw [if_neg]
  intro hA
  exact h (by simpa using List.all_eq_true.mp hA k hm)
theorem codes_left {ks : List Int} (h : lcLeft ks > 5 ∨ (lcNum ks).fmod (2 ^ (lcLeft ks).toNat) ≠ 0) : lawCodes ks = none := by
  unfold lawCodes
  by_cases hA : ks.all (fun s => decide (s ∈ signsK)) = true
  · rw [if_pos hA, if_pos h]
  · rw [if_neg hA]
theorem codes_all {ks : List Int} (h : ∀ s ∈ ks, s ∈ signsK) : ks.all (fun s => decide (s ∈ signsK)) = true := List.all_eq_true.mpr fun s hs => decide_eq_true (h s hs)
theorem codes_go {ks : List Int} (h : ∀ s ∈ ks, s ∈ signsK) (h1 : ¬ lcLeft ks > 5) (h2 : (lcNum ks).fmod (2 ^ (lcLeft ks).toNat) = 0) : lawCodes ks = match lc3s (lcIter ((lcNum ks).fdiv (2 ^ (lcLeft ks).toNat)) (lcMany ks)).1 with
      | none => none
      | some f => if 55296 ≤ f.getLastD 0 ∧ f.getLastD 0 ≤ 56319 then none else some f := by
  unfold lawCodes
  rw [if_pos (codes_all h), if_neg (by rintro (h | h); exact h1 h; exact h h2)]
theorem lc_in {pre post ks : List Int} {k : Int} (h : ks = pre ++ k :: post) : k ∈ ks := by rw [h]; simp
theorem lc_snoc {pre : List Int} {k num : Int} (hk : k ∈ signsK) (h : (∀ s ∈ pre, s ∈ signsK) ∧ num = lcNum pre) : (∀ s ∈ pre ++ [k], s ∈ signsK) ∧ num * 64 + (signsK.idxOf k : Int) = lcNum (pre ++ [k]) := by
  refine ⟨fun s hs => ?_, by rw [lcNum_snoc, h.2]⟩
  rcases List.mem_append.mp hs with hs | hs
  · exact h.1 s hs
  · rw [List.mem_singleton.mp hs]; exact hk
theorem lc_left {ks : List Int} (hp : 0 < ks.length) (h : ¬ lcLeft ks > 5) : 0 < lcMany ks := by
  unfold lcLeft at h; unfold lcMany
  rw [Int.fmod_eq_emod_of_nonneg _ (by decide)] at h
  rw [Int.fdiv_eq_ediv_of_nonneg _ (by decide)]
  omega
theorem lc_leftn (ks : List Int) : 0 ≤ lcLeft ks ∧ lcLeft ks < 16 := ⟨Int.fmod_nonneg_of_pos _ (by decide), Int.fmod_lt_of_pos _ (by decide)⟩
section
variable {prog : Program} {w : World} {A : Around} {E : Value → Shared → Prop} {s : Shared} {a b : Int} {t u : Tok}
theorem mod_gen {Q : Value → Shared → Prop} (hb : b ≠ 0) (h : ∀ r, r = a.fmod b → Q (.int r s.toks) { s with toks := s.toks + 1 }) : wpAny (model prog w) A (binaryOp .Mod (.int a t) (.int b u)) Q E s := mod_int hb (h _ rfl)
theorem fdiv_gen {Q : Value → Shared → Prop} (hb : b ≠ 0) (hp : b.natAbs.log2 < 9000) (h : ∀ r, r = a.fdiv b → Q (.int r s.toks) { s with toks := s.toks + 1 }) : wpAny (model prog w) A (binaryOp .FloorDiv (.int a t) (.int b u)) Q E s := floordiv_int hb (h _ rfl) (Or.inl (PyProof.noPylong_of_log2 hp))
theorem pow_gen {Q : Value → Shared → Prop} (hn : 0 ≤ a) (hn2 : a ≤ 1000000) (h : ∀ r, r = (2 : Int) ^ a.toNat → Q (.int r s.toks) { s with toks := s.toks + 1 }) : wpAny (model prog w) A (binaryOp .Pow (.int 2 t) (.int a u)) Q E s := pow_int_small hn hn2 (by decide) (h _ rfl)
end
theorem pow2_pos {r : Int} {n : Nat} (h : r = 2 ^ n) : r ≠ 0 := h ▸ pow2_ne n
theorem pow2_log {r : Int} {n : Nat} (h : r = 2 ^ n) (hn : n ≤ 400) : r.natAbs.log2 < 9000 := h ▸ pow2_log2 hn
section
variable {lf num r r1 : Int}
theorem lf_1 {p : Prop} [Decidable p] (h : 5 < lf) : true = decide (lf > 5 ∨ p) := (decide_eq_true (Or.inl h)).symm
theorem lf_2 (h1 : r1 = 2 ^ lf.toNat) (h2 : r = num.fmod r1) (h : r ≠ 0) : true = decide (lf > 5 ∨ num.fmod (2 ^ lf.toNat) ≠ 0) := (decide_eq_true (Or.inr (by rw [← h1, ← h2]; exact h))).symm
theorem lf_3 (h0 : ¬ 5 < lf) (h1 : r1 = 2 ^ lf.toNat) (h2 : r = num.fmod r1) (h : r = 0) : false = decide (lf > 5 ∨ num.fmod (2 ^ lf.toNat) ≠ 0) := (decide_eq_false (by rintro (h3 | h3); exact h0 h3; rw [← h1, ← h2] at h3; exact h3 h)).symm
end
theorem lcIter_len (num : Int) : ∀ i, (lcIter num i).1.length = i := by
  intro i
  induction i with
  | zero => rfl
  | succ i ih => show (lcIter num i).1.length + 1 = i + 1; rw [ih]
theorem lcMany_le {ks : List Int} (h : ks.length ≤ 1000) : lcMany ks ≤ 375 := by
  unfold lcMany; rw [Int.fdiv_eq_ediv_of_nonneg _ (by decide)]; omega
theorem lcIter_step {num num2 : Int} {us : List Int} {i : Nat} (h : (us, num2) = lcIter num i) : (num2.fmod 65536 :: us, num2.fdiv 65536) = lcIter num (i + 1) := by
  show _ = ((lcIter num i).2.fmod 65536 :: (lcIter num i).1, (lcIter num i).2.fdiv 65536)
  rw [← h]

end
section
theorem pos_ne {vs : List Value} {fs : List Int} (hi : IntsAre vs fs) (h : decide (fs = []) = false) : 0 < vs.length := by
  have h := of_decide_eq_false h
  rw [hi.length]; exact List.length_pos_iff.mpr h
section
variable {pre post us fs : List Int} {k : Int}
theorem lc_append (q : lc3s pre = some fs) (h1 : ¬ (55296 ≤ fs.getLastD 0 ∧ fs.getLastD 0 ≤ 56319)) (h2 : ¬ (56320 ≤ k ∧ k ≤ 57343)) (h3 : ¬ (32 ≤ k ∧ k ≤ 126)) : lc3s (pre ++ [k]) = some (fs ++ [k]) := by
  rw [lc3s_snoc, q]; show (if _ then _ else _) = _
  rw [if_neg (fun h => h1 h.2), if_neg (by omega)]
theorem lc_empty (h : decide (fs = []) = true) : ¬ (55296 ≤ fs.getLastD 0 ∧ fs.getLastD 0 ≤ 56319) := by rw [of_decide_eq_true h]; decide
theorem lc_j1 (h : decide (fs = []) = true) : false = decide (decide (fs = []) = false ∧ 55296 ≤ fs.getLastD 0 ∧ fs.getLastD 0 ≤ 56319) := (decide_eq_false fun q => by rw [h] at q; cases q.1).symm
theorem lc_j2 (h : ¬ 55296 ≤ fs.getLastD 0) : false = decide (decide (fs = []) = false ∧ 55296 ≤ fs.getLastD 0 ∧ fs.getLastD 0 ≤ 56319) := (decide_eq_false fun q => h q.2.1).symm
theorem lc_j3 (h : ¬ fs.getLastD 0 ≤ 56319) : false = decide (decide (fs = []) = false ∧ 55296 ≤ fs.getLastD 0 ∧ fs.getLastD 0 ≤ 56319) := (decide_eq_false fun q => h q.2.2).symm
theorem lc_j4 (h0 : decide (fs = []) = false) (h1 : 55296 ≤ fs.getLastD 0) (h2 : fs.getLastD 0 ≤ 56319) : true = decide (decide (fs = []) = false ∧ 55296 ≤ fs.getLastD 0 ∧ fs.getLastD 0 ≤ 56319) := (decide_eq_true ⟨h0, h1, h2⟩).symm
theorem lc_jn (h : decide (decide (fs = []) = false ∧ 55296 ≤ fs.getLastD 0 ∧ fs.getLastD 0 ≤ 56319) = false) : ¬ (55296 ≤ fs.getLastD 0 ∧ fs.getLastD 0 ≤ 56319) := by
  cases e : decide (fs = []) with
  | true => exact lc_empty e
  | false => exact fun q => of_decide_eq_false h ⟨e, q⟩
theorem lc_k1 {k : Int} (h1 : 56320 ≤ k) (h2 : k ≤ 57343) : true = decide ((56320 ≤ k ∧ k ≤ 57343) ∨ (32 ≤ k ∧ k ≤ 126)) := (decide_eq_true (.inl ⟨h1, h2⟩)).symm
theorem lc_k2 {k : Int} (h1 : 32 ≤ k) (h2 : k ≤ 126) : true = decide ((56320 ≤ k ∧ k ≤ 57343) ∨ (32 ≤ k ∧ k ≤ 126)) := (decide_eq_true (.inr ⟨h1, h2⟩)).symm
theorem lc_k3 {k : Int} (h1 : ¬ 32 ≤ k) : false = decide ((56320 ≤ k ∧ k ≤ 57343) ∨ (32 ≤ k ∧ k ≤ 126)) := (decide_eq_false (by omega)).symm
theorem lc_k4 {k : Int} (h1 : ¬ k ≤ 126) (h2 : ¬ 56320 ≤ k) : false = decide ((56320 ≤ k ∧ k ≤ 57343) ∨ (32 ≤ k ∧ k ≤ 126)) := (decide_eq_false (by omega)).symm
theorem lc_k5 {k : Int} (h2 : ¬ k ≤ 57343) : false = decide ((56320 ≤ k ∧ k ≤ 57343) ∨ (32 ≤ k ∧ k ≤ 126)) := (decide_eq_false (by omega)).symm
theorem lc_pair (q : lc3s pre = some fs) (h0 : decide (fs = []) = false) (h1 : 55296 ≤ fs.getLastD 0) (h1' : fs.getLastD 0 ≤ 56319) (h2 : 56320 ≤ k) (h2' : k ≤ 57343) : lc3s (pre ++ [k]) = some (fs.dropLast ++ [65536 + (fs.getLastD 0 - 55296) * 1024 + k - 56320]) := by
  rw [lc3s_snoc, q]; show (if _ then _ else _) = _
  rw [if_pos ⟨of_decide_eq_false h0, h1, h1'⟩, if_pos ⟨h2, h2'⟩]
theorem lc_none (r : List Int) : r.foldl lc3 none = none := by induction r with | nil => rfl | cons u r ih => exact ih
theorem lc_dead (q : lc3s pre = some fs) (e : us = pre ++ k :: post) (h : lc3 (some fs) k = none) : lc3s us = none := by
  subst e; unfold lc3s at *; rw [List.foldl_append, q, List.foldl_cons, h, lc_none]
theorem lc_dead1 (q : lc3s pre = some fs) (e : us = pre ++ k :: post) (h1 : ¬ (55296 ≤ fs.getLastD 0 ∧ fs.getLastD 0 ≤ 56319)) (h : (56320 ≤ k ∧ k ≤ 57343) ∨ (32 ≤ k ∧ k ≤ 126)) : lc3s us = none := lc_dead q e (by
  show (if _ then _ else _) = _
  rw [if_neg (fun h => h1 h.2), if_pos h])
theorem lc_dead2 (q : lc3s pre = some fs) (e : us = pre ++ k :: post) (h0 : decide (fs = []) = false) (h1 : 55296 ≤ fs.getLastD 0) (h1' : fs.getLastD 0 ≤ 56319) (h : ¬ (56320 ≤ k ∧ k ≤ 57343)) : lc3s us = none := lc_dead q e (by
  show (if _ then _ else _) = _
  rw [if_pos ⟨of_decide_eq_false h0, h1, h1'⟩, if_neg h])
theorem lc_ne (hu : 0 < us.length) (q : lc3s us = some fs) : decide (fs = []) = false := by
  obtain ⟨p, y, rfl⟩ := snoc_of_pos hu
  rw [lc3s_snoc] at q
  cases e : lc3s p with
  | none => rw [e] at q; cases q
  | some f =>
    rw [e] at q
    unfold lc3 at q
    dsimp only at q
    (repeat' split at q) <;> first | (cases q; done) | (cases q; simp)
theorem sub3 {α : Type} {x a b : α} {l r : List α} : ∀ p ∈ a :: b :: l, p ∈ x :: a :: b :: (l ++ r) := by
  intro p hp; simp only [List.mem_cons, List.mem_append] at hp ⊢; rcases hp with hp | hp | hp <;> simp only [hp, true_or, or_true]
theorem own3 {α : Type} {x a b : α} {l r : List α} : ∀ p ∈ r, p ∈ x :: a :: b :: (l ++ r) := by
  intro p hp; simp only [List.mem_cons, List.mem_append, hp, or_true]
theorem sub2 {α : Type} {a b : α} {l r : List α} : ∀ p ∈ a :: b :: l, p ∈ a :: b :: (l ++ r) := by
  intro p hp; simp only [List.mem_cons, List.mem_append] at hp ⊢; rcases hp with hp | hp | hp <;> simp only [hp, true_or, or_true]
theorem own2 {α : Type} {a b : α} {l r : List α} : ∀ p ∈ r, p ∈ a :: b :: (l ++ r) := by
  intro p hp; simp only [List.mem_cons, List.mem_append, hp, or_true]
noncomputable def RLast (r : Option (List Int)) : Option (List Int) := match r with
  | none => none
  | some f => if 55296 ≤ f.getLastD 0 ∧ f.getLastD 0 ≤ 56319 then none else some f
end
section
theorem codes_ctr (w : World) (news : List (Addr × Obj)) (b : Array UInt8) (ks : List Int) (t : Tok) (hb : KBw.bInts b = ks) (hlen : ks.length ≤ 1000) (hpos : 0 < ks.length) :
    CtrG w 216 [.bytes b t] news 3 100 (RCodes news (lawCodes ks)) (fun _ _ => False) := by
  k_with_none
  k_with "execs cons" => first | (k_here; k_gentoks) | ((with_reducible refine wpAny_execs_cons ?_); (try dsimp only); (try k_fold))
  k_with "exec For" => (k_here; (rename Fr _ _ _ _ => lF'); (with_unfolding_all refine' For_invVF lF' ?k1 ?k2 ?_; (case k1 => exact rfl); (case k2 => exact rfl); k_whole))
  k_with "exec If" => refine Stop.mk ?_
  k_with "pyIter bytes" => refine Stop.mk ?_
  k_with "pyIter ref" => refine Stop.mk ?_
  k_with "InvEndN" => refine Stop.mk ?_
  k_with "call ref" => (k_here; (refine' Ctr.use (signs_ctr _ _) ?k1 ?k2 ?k3 ?k4 ?k5 ?kK ?kd ?ku ?_; (case k1 => k_asm); (case k2 => k_asm); (case k3 => k_asm); (case k4 => k_asm); (case k5 => k_asm); (case kK => first | exact rfl | assumption); (case kd => ktr_room); (case ku => ktr_units); intro cv cled h' tk' hR F' N'; revert N'; apply elim2 hR; clear hR; intro b9 t9 hb9 N'; (try dsimp only); (try k_fold)))
  k_with "compareOp NotIn int bytes" => (refine BL.notIn_bytes (ks := signsK) (by with_reducible assumption) (by omega) (by omega) ?_)
  k_with "getMethod bytes" => (refine BL.m_index ?_)
  k_with "call builtin:bytes.index" => (refine BL.index_K (ks := signsK) (by with_reducible assumption) (by omega) (by omega) (by with_reducible assumption) ?_; intro _ _)
  k_with "binaryOp FloorDiv int int" => ((with_reducible refine fdiv_gen (pow2_pos (by with_reducible assumption)) (pow2_log (by with_reducible assumption) (by omega)) ?_); intro _ _)
  k_with "binaryOp Mod int int" => ((with_reducible refine mod_gen (pow2_pos (by with_reducible assumption)) ?_); intro _ _)
  k_with "binaryOp Pow int int" => ((with_reducible refine pow_gen (by omega) (by omega) ?_); intro _ _)
  k_with "subscriptTail" => (refine last_K (by k_asm) (by k_mem) (by with_reducible assumption) (pos_ne (by with_reducible assumption) (by with_reducible assumption)) (by omega) ?_; intro _)
  k_with "subscriptTail Name" => (refine last_K (by k_asm) (by k_mem) (by with_reducible assumption) (pos_ne (by with_reducible assumption) (by with_reducible assumption)) (by omega) ?_; intro _)
  k_with "subscriptTail Name UnaryOp" => (refine last_K (by k_asm) (by k_mem) (by with_reducible assumption) (pos_ne (by with_reducible assumption) (by with_reducible assumption)) (by omega) ?_; intro _)
  k_with "subscriptTail Name UnaryOp ref" => (refine last_K (by k_asm) (by k_mem) (by with_reducible assumption) (pos_ne (by with_reducible assumption) (by with_reducible assumption)) (by omega) ?_; intro _)
  k_with "subscriptTail Name UnaryOp ref int" => (refine last_K (by k_asm) (by k_mem) (by with_reducible assumption) (pos_ne (by with_reducible assumption) (by with_reducible assumption)) (by omega) ?_; intro _)
  k_with "setItem ref int" => refine Stop.mk ?_
  k_with "setItem" => refine Stop.mk ?_
  have kMark := kstMark
  (unfold CtrG; k_fill; intros; rename_i hret hexc; refine G_call ?_; k_dflt (refine' code_def_G ?k1 ?k2 ?k3 ?k4 ?k5 ?kA ?kF ?kK ?k6 ?k7 ?k8 ?k9 ?kB ?_ ?c2 ?c3 ?c4 ?c5; (case kA => exact rfl); (case kF => exact rfl); (case kK => assumption); (case k1 => k_asm); (case k2 => k_asm); (case k3 => k_asm); (case k4 => k_asm); (case k5 => k_asm); (case k6 => k_is); (case k7 => k_is); (case k8 => ktr_room); (case k9 => exact BindsTo.of_eq rfl); (case c5 => decide); (case kB => exact locs rfl); (case c2 => exact rfl); (case c3 => exact rfl); (case c4 => exact rfl); k_whole; intro g' L' h' FG' F' N' B' X' T' hLt'; (try dsimp only); (try k_lift B'); (try k_fold)))
  with_reducible rename Shared => s0
  refine hideP (by passes_own) fun Q' E' hQ' hE' => ?_
  refine G_execs_cons (G_of ?_)
  try k_fold
  k_steps
  refine G_execs_cons (G_of ?_)
  try k_fold
  k_steps
  with_reducible refine Stop.out ?_
  (with_reducible rename Fr _ _ _ _ => lF')
  (with_reducible rename News _ _ _ _ => lN')
  refine' KStb.kst_bytes (σ := Int × Tok) (fun c => news) (fun c => [(Str.ofString "number", .int c.1 c.2)]) (fun c => True) []
    (fun pre c => (∀ s ∈ pre, s ∈ signsK) ∧ c.1 = lcNum pre) (0, _) (by kba_ints2) rfl (by rfl) lF' (cb_drop lN' (by (try dsimp only); (repeat refine sub_cons ?_ ?_); all_goals first | exact sub_nil | k_memK | ((repeat refine sub_skip ?_); first | exact fun _ hp => hp | exact fun _ hp => List.mem_append_left _ hp | exact fun _ hp => List.mem_append_right _ hp))) ?kf ?kk ?kp ?turn ?done
  case kf => trivial
  case kk => kst_all
  case kp => exact ⟨fun _ h => (nomatch h), rfl⟩
  case turn =>
    rintro ⟨num, tn⟩ pre post k tk0 uu h9 tk9 own hEq hlt hk0 hk1 hOff hIs hOk F9 N9
    clear lF' lN'
    dsimp only at hOk F9 N9 ⊢
    simp only [kstB, List.contains_nil, Bool.false_eq_true, if_false] at F9
    k_steps
    with_reducible refine Stop.out ?_
    with_reducible refine wpAny_If ?_
    k_steps
    · with_reducible refine Stop.out ?_
      have hk : k ∈ signsK := by with_reducible assumption
      (with_reducible rename News _ _ _ _ => nE')
      refine kst_end (_, _) (by k_asm) nE' (by (try dsimp only); (repeat refine sub_cons ?_ ?_); all_goals first | exact sub_nil | k_memK | ((repeat refine sub_skip ?_); first | exact fun _ hp => hp | exact fun _ hp => List.mem_append_left _ hp | exact fun _ hp => List.mem_append_right _ hp)) (by (try dsimp only); (repeat refine sub_cons ?_ ?_); all_goals first | exact sub_nil | k_memK | ((repeat refine sub_skip ?_); first | exact fun _ hp => hp | exact fun _ hp => List.mem_append_left _ hp | exact fun _ hp => List.mem_append_right _ hp)) (by rfl) trivial (by kst_all) (by kst_same) ?_
      exact lc_snoc hk hOk
    · refine hQ' _ _ ?_
      dsimp only
      k_steps
      refine hret _ _ _ _ (RCodes.none_ (codes_bad (lc_in hEq) (by with_reducible assumption))) (by k_asm) (cb_drop (by k_asm) (by (try dsimp only); (repeat refine sub_cons ?_ ?_); all_goals first | exact sub_nil | k_memK | ((repeat refine sub_skip ?_); first | exact fun _ hp => hp | exact fun _ hp => List.mem_append_left _ hp | exact fun _ hp => List.mem_append_right _ hp)))
  case done =>
    rintro ⟨num, tn⟩ uu h9 tk9 hEq hIs hOk F9 N9
    clear lF' lN'
    dsimp only at hOk F9 N9 ⊢
    (try simp only [kstB] at F9)
    have hl2 : 0 ≤ lcLeft ks ∧ lcLeft ks < 16 := lc_leftn ks
    refine G_execs_cons (G_of ?_)
    try k_fold
    k_steps
    change wpG _ _ _ _ _ _
    rw [show (6 * (ks.length : Int)).fmod 16 = lcLeft ks from rfl] at *
    generalize hlf : lcLeft ks = lf at *
    refine G_execs_cons ?_
    (with_reducible rename Fr _ _ _ _ => lF')
    (with_reducible rename News _ _ _ _ => lN')
    refine G_IfJ (decide (lf > 5 ∨ num.fmod (2 ^ lf.toNat) ≠ 0)) lF' lN' ?test2 ?yes2 ?no2
    case test2 =>
      k_steps
      all_goals (first | refine Joined.mk (lf_1 (by with_reducible assumption)) (by k_asm) (by k_asm) | refine Joined.mk (lf_2 (by with_reducible assumption) (by with_reducible assumption) (by with_reducible assumption)) (by k_asm) (by k_asm) | refine Joined.mk (lf_3 (by with_reducible assumption) (by with_reducible assumption) (by with_reducible assumption) (by with_reducible assumption)) (by k_asm) (by k_asm))
    case yes2 =>
      intro hc h8 tk8 F8 N8
      clear lF' lN' F9 N9
      refine G_execs_cons (G_of ?_)
      try k_fold
      k_steps
      refine hQ' _ _ ?_
      dsimp only
      k_steps
      exact hret _ _ _ _ (RCodes.none_ (codes_left (by rw [hlf, hOk.2.symm.trans rfl]; exact of_decide_eq_true hc))) (by k_asm) (cb_drop (by k_asm) (by (try dsimp only); (repeat refine sub_cons ?_ ?_); all_goals first | exact sub_nil | k_memK | ((repeat refine sub_skip ?_); first | exact fun _ hp => hp | exact fun _ hp => List.mem_append_left _ hp | exact fun _ hp => List.mem_append_right _ hp)))
    case no2 =>
      intro hc h8 tk8 F8 N8
      clear lF' lN' F9 N9
      have hc := of_decide_eq_false hc
      have hc1 : ¬ lf > 5 := fun h => hc (Or.inl h)
      have hc2 : num.fmod (2 ^ lf.toNat) = 0 := Classical.byContradiction fun h => hc (Or.inr h)
      refine G_execs_nil ?_
      refine G_execs_cons (G_of ?_)
      try k_fold
      k_steps
      refine G_execs_cons (G_For ?_)
      k_steps
      with_reducible refine Stop.out ?_
      (with_reducible rename Fr _ _ _ _ => lF')
      (with_reducible rename News _ _ _ _ => lN')
      rename_i r1 hr1 r0 hr0 lu g1 l1a lfo g2 l1b D0 g3 l1c g4 g5 g6 g7 y1 y2 g8 y3 y4 y5 y6 hRg y7
      have hU : r0 = (lcNum ks).fdiv (2 ^ lf.toNat) := by rw [hr0, hr1, hOk.2]
      have hmany0 : 0 ≤ (6 * (ks.length : Int)).fdiv 16 := by rw [Int.fdiv_eq_ediv_of_nonneg _ (by decide)]; omega
      have hmany1 : (6 * (ks.length : Int)).fdiv 16 ≤ 1000 := by rw [Int.fdiv_eq_ediv_of_nonneg _ (by decide)]; omega
      have hpos2 : 0 < lcMany ks := lc_left hpos (by rw [hlf]; exact hc1)
      refine' G_forRangeI (n := lcMany ks) (σ := List Int × List Value × Nat × Addr × Int × Tok) (fun c => (c.2.2.2.1, listOf c.2.1.toArray c.2.2.1) :: (lfo, listOf #[] 0) :: news) (fun c => [(Str.ofString "units", .ref c.2.2.2.1), (Str.ofString "number", .int c.2.2.2.2.1 c.2.2.2.2.2), (Str.ofString "found", .ref lfo)])
        (fun I i c => (c.1, c.2.2.2.2.1) = lcIter r0 i ∧ IntsAre c.2.1 c.1 ∧ c.2.2.2.1 ≠ I ∧ c.2.2.2.1 ≠ lfo ∧ lfo ≠ I ∧ (∀ p ∈ news, p.1 ≠ I)) ([], [], 0, lu, r0, _) (by rfl) (by rfl) (by rfl) hRg (small_one (by omega) (by omega) (by omega) (by omega)) (rangeSize_to hmany0) lF' lN' (by (try dsimp only); (repeat refine sub_cons ?_ ?_); all_goals first | exact sub_nil | k_memK | ((repeat refine sub_skip ?_); first | exact fun _ hp => hp | exact fun _ hp => List.mem_append_left _ hp | exact fun _ hp => List.mem_append_right _ hp)) ?kk3 ?kp3 ?hne3 ?turn3 ?done3 ?pass3
      case kk3 => kst_all
      case kp3 =>
        intro I hI
        exact ⟨rfl, .nil, Nat.ne_of_lt (hI (lu, listOf #[] 0) (by k_mem)), Nat.ne_of_lt l1b.1, Nat.ne_of_lt (hI (lfo, listOf #[] 0) (by k_mem)), fun p hp => Nat.ne_of_lt (hI p (by revert p; exact (by (try dsimp only); (repeat refine sub_cons ?_ ?_); all_goals first | exact sub_nil | k_memK | ((repeat refine sub_skip ?_); first | exact fun _ hp => hp | exact fun _ hp => List.mem_append_left _ hp | exact fun _ hp => List.mem_append_right _ hp))))⟩
      case hne3 =>
        rintro I i c ⟨e1, e2, e3, e4, e5, e6⟩ p hp
        rcases List.mem_cons.mp hp with rfl | hp
        · exact e3
        · rcases List.mem_cons.mp hp with rfl | hp
          · exact e5
          · exact e6 p hp
      case pass3 => exact hE'
      case turn3 =>
        clear lF' lN'
        rintro ⟨us, uvs, un, lu2, num2, tn2⟩ i tk2 u9 h9 tk9 I o hi9 hP9 F9 N9 ho9
        have F9 : Fr g' L' h9 _ := F9
        have N9 : News g' L' h9 _ := N9
        dsimp only at hP9 F9 N9 ⊢
        simp only [kstB] at F9
        obtain ⟨e1, e2, e3, e4, e5, e6⟩ := hP9
        have hml := lcMany_le hlen
        have hul : us.length = i := by have := lcIter_len r0 i; rw [← e1] at this; exact this
        have huvl := e2.length
        refine G_execs_cons (G_of ?_)
        try k_fold
        k_steps
        (with_reducible rename Fr _ _ _ _ => lF')
        (with_reducible rename News _ _ _ _ => lN')
        try dsimp only
        (with_reducible rename IntsAre _ ([_] ++ _) => hI5)
        refine G_execs_nil (gend (num2.fmod 65536 :: us, _, _, _, num2.fdiv 65536, _) lF' lN' (by (try dsimp only); (repeat refine sub_cons ?_ ?_); all_goals first | exact sub_nil | k_memK | ((repeat refine sub_skip ?_); first | exact fun _ hp => hp | exact fun _ hp => List.mem_append_left _ hp | exact fun _ hp => List.mem_append_right _ hp)) (by kst_all) ⟨lcIter_step e1, hI5, (by k_ne), (by k_ne), e5, e6⟩)
      case done3 =>
        clear lF' lN'
        rintro I ⟨us, uvs, un, lu2, num2, tn2⟩ u9 h9 tk9 hP9 F9 N9
        have F9 : Fr g' L' h9 _ := F9
        have N9 : News g' L' h9 _ := N9
        dsimp only at hP9 F9 N9 ⊢
        simp only [kstB] at F9
        obtain ⟨e1, e2, e3, e4, e5, e6⟩ := hP9
        have hml := lcMany_le hlen
        have hul : us.length = lcMany ks := by have := lcIter_len r0 (lcMany ks); rw [← e1] at this; exact this
        have huvl := e2.length
        have hgo : lawCodes ks = RLast (lc3s us) := by
          rw [codes_go hOk.1 (by rw [hlf]; exact hc1) (by rw [hlf, ← hOk.2]; exact hc2), hlf, ← hU, ← e1]; rfl
        refine G_execs_cons (G_of ?_)
        try k_fold
        k_steps
        with_reducible refine Stop.out ?_
        (with_reducible rename Fr _ _ _ _ => lF')
        (with_reducible rename News _ _ _ _ => lN')
        (with_reducible rename IntsAre uvs us => e2)
        refine' kst_head (σ := List Int × List Value × Nat) lN' lF' e2 (fun c => (lfo, listOf c.2.1.toArray c.2.2) :: news) (fun _ => []) (fun _ => True) []
          (fun pre c => lc3s pre = some c.1 ∧ IntsAre c.2.1 c.1 ∧ c.1.length ≤ pre.length) ([], [], 0) (by rfl) (by (try dsimp only); (repeat refine sub_cons ?_ ?_); all_goals first | exact sub_nil | k_memK | ((repeat refine sub_skip ?_); first | exact fun _ hp => hp | exact fun _ hp => List.mem_append_left _ hp | exact fun _ hp => List.mem_append_right _ hp)) trivial (by kst_all) ⟨rfl, .nil, Nat.le_refl _⟩ (by rfl) (by rfl) ?turn4 ?done4
        case turn4 =>
          rintro ⟨fs, fvs, fn⟩ pre post k tk0 uu h9 tk9 own hEq hmem hOff hIs hOk F9 N9
          clear lF' lN'
          dsimp only at hOk F9 N9 ⊢
          simp only [List.cons_append] at N9
          simp only [kstB] at F9
          simp only [List.map_cons] at hOff
          obtain ⟨q1, q2, q3⟩ := hOk
          have hpl : pre.length < us.length := by rw [hEq]; simp
          have hfl := q2.length
          k_steps
          with_reducible refine Stop.out ?_
          (with_reducible rename Fr _ _ _ _ => lF')
          (with_reducible rename News _ _ _ _ => lN')
          refine IfJ (decide (decide (fs = []) = false ∧ 55296 ≤ fs.getLastD 0 ∧ fs.getLastD 0 ≤ 56319)) lF' lN' ?t5 ?y5 ?n5
          case t5 =>
            k_steps
            all_goals exact JB.mk (by first | exact lc_j1 (by with_reducible assumption) | exact lc_j2 (by with_reducible assumption) | exact lc_j3 (by with_reducible assumption) | exact lc_j4 (by with_reducible assumption) (by with_reducible assumption) (by with_reducible assumption)) (by k_asm) (cb_drop (by k_asm) (by (try dsimp only); (repeat refine sub_cons ?_ ?_); all_goals first | exact sub_nil | k_memK | ((repeat refine sub_skip ?_); first | exact fun _ hp => hp | exact fun _ hp => List.mem_append_left _ hp | exact fun _ hp => List.mem_append_right _ hp)))
          case n5 =>
            intro hc5 h8 tk8 F8 N8
            clear lF' lN'
            have hn5 := lc_jn hc5
            k_steps
            with_reducible refine Stop.out ?_
            (with_reducible rename Fr _ _ _ _ => lF')
            (with_reducible rename News _ _ _ _ => lN')
            refine IfJ (decide ((56320 ≤ k ∧ k ≤ 57343) ∨ (32 ≤ k ∧ k ≤ 126))) lF' lN' ?t6 ?y6 ?n6
            case t6 =>
              k_steps
              all_goals exact JB.mk (by first | exact lc_k1 (by with_reducible assumption) (by with_reducible assumption) | exact lc_k2 (by with_reducible assumption) (by with_reducible assumption) | exact lc_k3 (by with_reducible assumption) | exact lc_k4 (by with_reducible assumption) (by with_reducible assumption) | exact lc_k5 (by with_reducible assumption) | exact (decide_eq_false (by omega)).symm | exact (decide_eq_true (by omega)).symm) (by k_asm) (by k_asm)
            case y6 =>
              intro hc6 h7 tk7 F7 N7
              clear lF' lN'
              k_steps
              refine hQ' _ _ ?_
              dsimp only
              k_steps
              exact hret _ _ _ _ (RCodes.none_ (by rw [hgo, lc_dead1 q1 hEq hn5 (of_decide_eq_true hc6)]; rfl)) (by k_asm) (cb_drop (by k_asm) (by (try dsimp only); (repeat refine sub_cons ?_ ?_); all_goals first | exact sub_nil | k_memK | ((repeat refine sub_skip ?_); first | exact fun _ hp => hp | exact fun _ hp => List.mem_append_left _ hp | exact fun _ hp => List.mem_append_right _ hp)))
            case n6 =>
              intro hc6 h7 tk7 F7 N7
              clear lF' lN'
              have hn6 := of_decide_eq_false hc6
              k_steps
              with_reducible refine Stop.out ?_
              (with_reducible rename News _ _ _ _ => nE')
              (try simp only [List.push_toArray] at nE')
              exact kst_end (fs ++ [k], fvs ++ [.int k tk0], fn + 1) (by k_asm) nE' (by (try dsimp only); (repeat refine sub_cons ?_ ?_); all_goals first | exact sub_nil | k_memK | ((repeat refine sub_skip ?_); first | exact fun _ hp => hp | exact fun _ hp => List.mem_append_left _ hp | exact fun _ hp => List.mem_append_right _ hp)) (by (try dsimp only); (repeat refine sub_cons ?_ ?_); all_goals first | exact sub_nil | k_memK | ((repeat refine sub_skip ?_); first | exact fun _ hp => hp | exact fun _ hp => List.mem_append_left _ hp | exact fun _ hp => List.mem_append_right _ hp)) (by rfl) trivial (by kst_all) (by kst_same) ⟨lc_append q1 hn5 (fun q => hn6 (.inl q)) (fun q => hn6 (.inr q)), IntsAre.snoc_ q2 _ _, by simp only [List.length_append, List.length_singleton]; omega⟩
          case y5 =>
            intro hc5 h8 tk8 F8 N8
            clear lF' lN'
            have hy5 := of_decide_eq_true hc5
            have hy0 := hy5.1
            have hy1 := hy5.2.1
            have hy2 := hy5.2.2
            clear hy5
            k_steps
            with_reducible refine Stop.out ?_
            with_reducible refine wpAny_If ?_
            k_steps
            all_goals first
              | (with_reducible refine Stop.out ?_; with_reducible show wpAny _ _ _ _ _ _; refine Stop.mk ?_)
              | (refine hQ' _ _ ?_; dsimp only; k_steps; exact hret _ _ _ _ (RCodes.none_ (by rw [hgo, lc_dead2 q1 hEq hy0 hy1 hy2 (by omega)]; rfl)) (by k_asm) (cb_drop (by k_asm) (by (try dsimp only); (repeat refine sub_cons ?_ ?_); all_goals first | exact sub_nil | k_memK | ((repeat refine sub_skip ?_); first | exact fun _ hp => hp | exact fun _ hp => List.mem_append_left _ hp | exact fun _ hp => List.mem_append_right _ hp))))
            with_reducible refine Stop.out ?_
            have hil := (ints_last q2 (pos_ne q2 (by with_reducible assumption))).elim fun _ h => h.2
            (with_reducible rename Fr _ _ _ _ => lF')
            (with_reducible rename News _ _ _ _ => lN')
            refine set_last (vs := fvs) (n := fn) [(lu2, listOf uvs.toArray un)] (post := news ++ own) lF' (cb_drop lN' (by (try dsimp only); (repeat refine sub_cons ?_ ?_); all_goals first | exact sub_nil | k_memK | ((repeat refine sub_skip ?_); first | exact fun _ hp => hp | exact fun _ hp => List.mem_append_left _ hp | exact fun _ hp => List.mem_append_right _ hp))) ?h1 ?h2 (pos_ne q2 (by with_reducible assumption)) (by omega) ?_
            case h1 => exact fun p hp => (List.mem_singleton.mp hp) ▸ e4
            case h2 => exact fun p hp => (List.mem_append.mp hp).elim (fun hp => Nat.ne_of_lt (kst_ltOf l1b.2 p hp)) (fun hp => hOff.ne (List.mem_cons_of_mem _ List.mem_cons_self) p hp)
            intro h5 F5 N5
            clear lF' lN'
            k_steps
            with_reducible refine Stop.out ?_
            (with_reducible rename News _ _ _ _ => nE')
            refine kst_end (fs.dropLast ++ [65536 + (fs.getLastD 0 - 55296) * 1024 + k - 56320], fvs.dropLast ++ [.int (65536 + (fs.getLastD 0 - 55296) * 1024 + k - 56320) _], fn) (by k_asm) nE' (by (try dsimp only); (repeat refine sub_cons ?_ ?_); all_goals first | exact sub_nil | k_memK | ((repeat refine sub_skip ?_); first | exact fun _ hp => hp | exact fun _ hp => List.mem_append_left _ hp | exact fun _ hp => List.mem_append_right _ hp)) (by (try dsimp only); (repeat refine sub_cons ?_ ?_); all_goals first | exact sub_nil | k_memK | ((repeat refine sub_skip ?_); first | exact fun _ hp => hp | exact fun _ hp => List.mem_append_left _ hp | exact fun _ hp => List.mem_append_right _ hp)) (by rfl) trivial (by kst_all) (by kst_same) ⟨?_, IntsAre.snoc_ hil _ _, by simp only [List.length_append, List.length_singleton, List.length_dropLast]; omega⟩
            exact lc_pair q1 (by with_reducible assumption) (by with_reducible assumption) (by with_reducible assumption) (by with_reducible assumption) (by with_reducible assumption)
        case done4 =>
          rintro ⟨fs, fvs, fn⟩ uu h9 tk9 hIs hOk F9 N9
          clear lF' lN'
          dsimp only at hOk F9 N9 ⊢
          simp only [kstB] at F9
          obtain ⟨q1, q2, q3⟩ := hOk
          have hfl := q2.length
          have hne := lc_ne (by omega) q1
          refine G_execs_cons (G_of ?_)
          try k_fold
          k_steps
          · have hz : lawCodes ks = none := by rw [hgo, q1]; show (if _ then _ else _) = _; rw [if_pos ⟨by with_reducible assumption, by with_reducible assumption⟩]
            refine hQ' _ _ ?_
            dsimp only
            k_steps
            exact hret _ _ _ _ (RCodes.none_ (hz)) (by k_asm) (cb_drop (by k_asm) (by (try dsimp only); (repeat refine sub_cons ?_ ?_); all_goals first | exact sub_nil | k_memK | ((repeat refine sub_skip ?_); first | exact fun _ hp => hp | exact fun _ hp => List.mem_append_left _ hp | exact fun _ hp => List.mem_append_right _ hp)))
          all_goals
            have hz : lawCodes ks = some fs := by rw [hgo, q1]; show (if _ then _ else _) = _; rw [if_neg (by omega)]
            refine hQ' _ _ ?_
            dsimp only
            k_steps
            exact hret _ _ _ _ (RCodes.some_ hz q2 l1b.2) (by k_asm) (cb_drop (by k_asm) (by (try dsimp only); (repeat refine sub_cons ?_ ?_); all_goals first | exact sub_nil | k_memK | ((repeat refine sub_skip ?_); first | exact fun _ hp => hp | exact fun _ hp => List.mem_append_left _ hp | exact fun _ hp => List.mem_append_right _ hp)))
end

end
section
open BL
/-- the law's own reader, pure -/
noncomputable def lawReadF (ks : List Int) : Nat → Int → Int → Option (List Int)
  | 0, _, _ => some []
  | n + 1, i, bh =>
    if i < ks.length then
      if 32 ≤ ks.getD i.toNat 0 ∧ ks.getD i.toNat 0 ≤ 126 then
        if ks.getD i.toNat 0 = 38 then
          if findInt ks 45 i.toNat < 0 then none
          else if findInt ks 45 i.toNat = i + 1 then (lawReadF ks n (findInt ks 45 i.toNat + 1) bh).map (38 :: ·)
          else if i = bh then none
          else match lawCodes (slc ks (i + 1) (findInt ks 45 i.toNat)) with
            | none => none
            | some run => (lawReadF ks n (findInt ks 45 i.toNat + 1) (findInt ks 45 i.toNat + 1)).map (run ++ ·)
        else (lawReadF ks n (i + 1) bh).map (ks.getD i.toNat 0 :: ·)
      else none
    else some []
noncomputable def lawRead (ks : List Int) : Option (List Int) := lawReadF ks ks.length 0 (-1)
theorem find_none {ks : List Int} {i : Nat} (h : findInt ks 45 i < 0) : ∀ x ∈ ks.drop i, x ≠ 45 := by
  unfold findInt findAt at h
  cases e : (ks.drop i).findIdx? (fun x => decide (x = 45)) with
  | none => intro x hx he; have := List.findIdx?_eq_none_iff.mp e x hx; simp [he] at this
  | some j => rw [e] at h; simp only [Option.map_some] at h; omega
theorem find_some {ks : List Int} {i : Nat} (h : ¬ findInt ks 45 i < 0) : ∃ j : Nat, findInt ks 45 i = ((i + j : Nat) : Int) ∧ ks[i + j]? = some 45 ∧ ∀ k, k < j → ks[i + k]? ≠ some 45 := by
  unfold findInt findAt at h ⊢
  cases e : (ks.drop i).findIdx? (fun x => decide (x = 45)) with
  | none => rw [e] at h; simp at h
  | some j =>
    obtain ⟨h1, h2, h3⟩ := List.findIdx?_eq_some_iff_getElem.mp e
    refine ⟨j, by simp only [Option.map_some]; omega, ?_, fun k hk he => ?_⟩
    · rw [← List.getElem?_drop, List.getElem?_eq_getElem h1]
      simpa using h2
    · have := h3 k hk
      rw [← List.getElem?_drop, List.getElem?_eq_getElem (by omega)] at he
      simp at he this
      exact this he

theorem find_in {ks : List Int} {i : Int} (h0 : 0 ≤ i) (h1 : i < ks.length) (h38 : ks.getD i.toNat 0 = 38) (h : ¬ findInt ks 45 i.toNat < 0) : i + 1 ≤ findInt ks 45 i.toNat ∧ findInt ks 45 i.toNat < ks.length := by
  obtain ⟨j, e1, e2, e3⟩ := find_some h
  have hl := (List.getElem?_eq_some_iff.mp e2).1
  have hj : j ≠ 0 := by
    rintro rfl
    rw [Nat.add_zero] at e2
    rw [List.getD_eq_getElem?_getD, e2] at h38
    exact absurd h38 (by decide)
  omega
theorem lc3s_len (us : List Int) : ∀ f, lc3s us = some f → f.length ≤ us.length := by
  have key : ∀ (us : List Int) (r : Option (List Int)) (b : Nat), (∀ f, r = some f → f.length ≤ b) → ∀ f, us.foldl lc3 r = some f → f.length ≤ b + us.length := by
    intro us
    induction us with
    | nil => intro r b h f e; exact h f e
    | cons u t ih =>
      intro r b h f e
      have := ih (lc3 r u) (b + 1) (fun f' e' => by
        cases r with
        | none => cases e'
        | some g =>
          have hg := h g rfl
          unfold lc3 at e'
          dsimp only at e'
          (repeat' split at e') <;> first | (cases e'; done) | (cases e'; simp only [List.length_append, List.length_dropLast, List.length_singleton]; omega)) f e
      simp only [List.length_cons]; omega
  intro f e
  have := key us (some []) 0 (fun f' e' => by cases e'; exact Nat.le_refl _) f e
  omega
theorem codes_len {ks cs : List Int} (h : lawCodes ks = some cs) : cs.length ≤ ks.length := by
  unfold lawCodes at h
  split at h
  · split at h
    · cases h
    · revert h
      generalize hu : (lcIter ((lcNum ks).fdiv (2 ^ (lcLeft ks).toNat)) (lcMany ks)).1 = us
      have hl : us.length = lcMany ks := by rw [← hu]; exact lcIter_len _ _
      have hm : lcMany ks ≤ ks.length := by unfold lcMany; rw [Int.fdiv_eq_ediv_of_nonneg _ (by decide)]; omega
      cases e : lc3s us with
      | none => intro h; cases h
      | some f =>
        have := lc3s_len us f e
        dsimp only
        split
        · intro h; cases h
        · intro h; cases h; omega
  · cases h
noncomputable def RdOk (ks fs : List Int) (i bh : Int) : Prop := 0 ≤ i ∧ i ≤ ks.length ∧ (fs.length : Int) ≤ i ∧ ∃ n : Nat, ks.length ≤ i + n ∧ lawRead ks = (lawReadF ks n i bh).map (fs ++ ·)
section
variable {ks fs : List Int} {i bh : Int}
theorem rr_0 (ks : List Int) : RdOk ks [] 0 (-1) := ⟨by omega, by omega, by decide, ks.length, by omega, by unfold lawRead; cases lawReadF ks ks.length 0 (-1) <;> simp⟩
theorem rr_step (h : RdOk ks fs i bh) (hi : i < ks.length) : ∃ n : Nat, (ks.length : Int) ≤ i + (n + 1 : Nat) ∧ lawRead ks = (lawReadF ks (n + 1) i bh).map (fs ++ ·) := by
  obtain ⟨h0, h1, _, n, hn, hd⟩ := h
  cases n with
  | zero => omega
  | succ n => exact ⟨n, hn, hd⟩
theorem rr_bad (h : RdOk ks fs i bh) (hi : i < ks.length) (a : ¬ (32 ≤ ks.getD i.toNat 0 ∧ ks.getD i.toNat 0 ≤ 126)) : lawRead ks = none := by
  obtain ⟨n, hn, hd⟩ := rr_step h hi
  rw [hd, lawReadF, if_pos hi, if_neg a]; rfl
theorem rr_plain (h : RdOk ks fs i bh) (hi : i < ks.length) (a : 32 ≤ ks.getD i.toNat 0) (a' : ks.getD i.toNat 0 ≤ 126) (b : ¬ ks.getD i.toNat 0 = 38) : RdOk ks (fs ++ [ks.getD i.toNat 0]) (i + 1) bh := by
  obtain ⟨n, hn, hd⟩ := rr_step h hi
  refine ⟨by have := h.1; omega, by omega, by have := h.2.2.1; simp only [List.length_append, List.length_singleton]; omega, n, by omega, ?_⟩
  rw [hd, lawReadF, if_pos hi, if_pos ⟨a, a'⟩, if_neg b]
  cases lawReadF ks n (i + 1) bh <;> simp
theorem rr_nofind (h : RdOk ks fs i bh) (hi : i < ks.length) (b : ks.getD i.toNat 0 = 38) (c : findInt ks 45 i.toNat < 0) : lawRead ks = none := by
  obtain ⟨n, hn, hd⟩ := rr_step h hi
  rw [hd, lawReadF, if_pos hi, if_pos (by rw [b]; decide), if_pos b, if_pos c]; rfl
theorem rr_amp (h : RdOk ks fs i bh) (hi : i < ks.length) (b : ks.getD i.toNat 0 = 38) (c : ¬ findInt ks 45 i.toNat < 0) (d : findInt ks 45 i.toNat = i + 1) : RdOk ks (fs ++ [38]) (findInt ks 45 i.toNat + 1) bh := by
  obtain ⟨n, hn, hd⟩ := rr_step h hi
  have hf := find_in h.1 hi b c
  refine ⟨by have := h.1; omega, by omega, by have := h.2.2.1; simp only [List.length_append, List.length_singleton]; omega, n, by omega, ?_⟩
  rw [hd, lawReadF, if_pos hi, if_pos (by rw [b]; decide), if_pos b, if_neg c, if_pos d]
  cases lawReadF ks n (findInt ks 45 i.toNat + 1) bh <;> simp
theorem rr_behind (h : RdOk ks fs i bh) (hi : i < ks.length) (b : ks.getD i.toNat 0 = 38) (c : ¬ findInt ks 45 i.toNat < 0) (d : ¬ findInt ks 45 i.toNat = i + 1) (e : i = bh) : lawRead ks = none := by
  obtain ⟨n, hn, hd⟩ := rr_step h hi
  rw [hd, lawReadF, if_pos hi, if_pos (by rw [b]; decide), if_pos b, if_neg c, if_neg d, if_pos e]; rfl
theorem rr_codes (h : RdOk ks fs i bh) (hi : i < ks.length) (b : ks.getD i.toNat 0 = 38) (c : ¬ findInt ks 45 i.toNat < 0) (d : ¬ findInt ks 45 i.toNat = i + 1) (e : ¬ i = bh) (f : lawCodes (slc ks (i + 1) (findInt ks 45 i.toNat)) = none) : lawRead ks = none := by
  obtain ⟨n, hn, hd⟩ := rr_step h hi
  rw [hd, lawReadF, if_pos hi, if_pos (by rw [b]; decide), if_pos b, if_neg c, if_neg d, if_neg e, f]; rfl
theorem slc_len2 (h0 : 0 ≤ i) (h1 : i < ks.length) {p : Int} (h2 : i < p) (h3 : p ≤ ks.length) : ((slc ks i p).length : Int) = p - i := by
  unfold slc
  rw [clipAt_in h0 (by omega), clipAt_in (by omega) h3, List.length_take, List.length_drop, Nat.min_eq_left (Nat.sub_le_sub_right (Int.toNat_le.mpr h3) _), Int.ofNat_sub (Int.toNat_le_toNat (Int.le_of_lt h2)), Int.toNat_of_nonneg (Int.le_trans h0 (Int.le_of_lt h2)), Int.toNat_of_nonneg h0]
theorem rr_run {run : List Int} (h : RdOk ks fs i bh) (hi : i < ks.length) (b : ks.getD i.toNat 0 = 38) (c : ¬ findInt ks 45 i.toNat < 0) (d : ¬ findInt ks 45 i.toNat = i + 1) (e : ¬ i = bh) (f : lawCodes (slc ks (i + 1) (findInt ks 45 i.toNat)) = some run) : RdOk ks (fs ++ run) (findInt ks 45 i.toNat + 1) (findInt ks 45 i.toNat + 1) := by
  obtain ⟨n, hn, hd⟩ := rr_step h hi
  have hf := find_in h.1 hi b c
  have hl := codes_len f
  have hs := slc_len2 (ks := ks) (i := i + 1) (p := findInt ks 45 i.toNat) (by have := h.1; omega) (by omega) (by omega) (by omega)
  refine ⟨by have := h.1; omega, by omega, by have := h.2.2.1; simp only [List.length_append]; omega, n, by omega, ?_⟩
  rw [hd, lawReadF, if_pos hi, if_pos (by rw [b]; decide), if_pos b, if_neg c, if_neg d, if_neg e, f]
  dsimp only
  cases lawReadF ks n (findInt ks 45 i.toNat + 1) (findInt ks 45 i.toNat + 1) <;> simp
theorem rr_end (h : RdOk ks fs i bh) (hi : ¬ i < ks.length) : lawRead ks = some fs := by
  obtain ⟨_, _, _, n, hn, hd⟩ := h
  rw [hd]
  cases n with
  | zero => simp [lawReadF]
  | succ n => rw [lawReadF, if_neg hi]; simp
end

end
section
open BL
noncomputable def RRd (news : List (Addr × Obj)) (r : Option (List Int)) (v : Value) (led : List (Addr × Obj)) : Prop :=
  (.none = v ∧ r = none ∧ news = led) ∨ ∃ l vs n cs, .ref l = v ∧ r = some cs ∧ IntsAre vs cs ∧ (l, listOf vs.toArray n) :: news = led ∧ AllLt l news
theorem RRd.none_ {news : List (Addr × Obj)} {r : Option (List Int)} (h : r = none) : RRd news r .none news := .inl ⟨rfl, h, rfl⟩
theorem RRd.some_ {news : List (Addr × Obj)} {r : Option (List Int)} {cs : List Int} {l : Addr} {vs : List Value} {n : Nat} (h : r = some cs) (hi : IntsAre vs cs) (ha : AllLt l news) : RRd news r (.ref l) ((l, listOf vs.toArray n) :: news) := .inr ⟨l, vs, n, cs, rfl, h, hi, rfl, ha⟩
theorem RRd.elim {news : List (Addr × Obj)} {led : List (Addr × Obj)} {r : Option (List Int)} {v : Value} (h : RRd news r v led) {M : Value → List (Addr × Obj) → Prop} (k1 : r = none → M .none news) (k2 : ∀ l vs n cs, r = some cs → IntsAre vs cs → AllLt l news → M (.ref l) ((l, listOf vs.toArray n) :: news)) : M v led := by
  rcases h with ⟨rfl, h, rfl⟩ | ⟨l, vs, n, cs, rfl, h1, h2, rfl, h3⟩
  · exact k1 h
  · exact k2 l vs n cs h1 h2 h3
section
theorem read_ctr (w : World) (news : List (Addr × Obj)) (b : Array UInt8) (ks : List Int) (t : Tok) (hb : KBw.bInts b = ks) (hlen : ks.length ≤ 1000) :
    CtrG w 223 [.bytes b t] news 4 120 (RRd news (lawRead ks)) (fun _ _ => False) := by
  k_with_none
  k_with "getMethod bytes" => (refine BL.m_find ?_)
  k_with "call builtin:bytes.find" => refine Stop.mk ?_
  have kMark := kstMark
  have hbl := KBw.ints_length b
  rw [hb] at hbl
  (unfold CtrG; k_fill; intros; rename_i hret hexc; refine G_call ?_; k_dflt (refine' code_def_G ?k1 ?k2 ?k3 ?k4 ?k5 ?kA ?kF ?kK ?k6 ?k7 ?k8 ?k9 ?kB ?_ ?c2 ?c3 ?c4 ?c5; (case kA => exact rfl); (case kF => exact rfl); (case kK => assumption); (case k1 => k_asm); (case k2 => k_asm); (case k3 => k_asm); (case k4 => k_asm); (case k5 => k_asm); (case k6 => k_is); (case k7 => k_is); (case k8 => ktr_room); (case k9 => exact BindsTo.of_eq rfl); (case c5 => decide); (case kB => exact locs rfl); (case c2 => exact rfl); (case c3 => exact rfl); (case c4 => exact rfl); k_whole; intro g' L' h' FG' F' N' B' X' T' hLt'; (try dsimp only); (try k_lift B'); (try k_fold)))
  with_reducible rename Shared => s0
  refine hideP (by passes_own) fun Q' E' hQ' hE' => ?_
  refine G_execs_cons (G_of ?_)
  k_steps
  refine G_execs_cons ?_
  (with_reducible rename Fr _ _ _ _ => lF')
  (with_reducible rename News _ _ _ _ => lN')
  rename_i D gz l1a D0 g1 l1b g2 g3 g4 g5
  refine' G_whileSR (σ := List Int × List Value × Nat × Addr × Int × Tok × Int × Tok) (fun c => (c.2.2.2.1, listOf c.2.1.toArray c.2.2.1) :: news) (fun c => [(Str.ofString "octets", .bytes b t), (Str.ofString "found", .ref c.2.2.2.1), (Str.ofString "at", .int c.2.2.2.2.1 c.2.2.2.2.2.1), (Str.ofString "behind", .int c.2.2.2.2.2.2.1 c.2.2.2.2.2.2.2)])
    (fun c => RdOk ks c.1 c.2.2.2.2.1 c.2.2.2.2.2.2.1 ∧ IntsAre c.2.1 c.1 ∧ (∀ p ∈ news, p.1 < c.2.2.2.1)) (fun c => (ks.length - c.2.2.2.2.1).toNat) ([], [], 0, D, 0, _, -1, _) lF' lN' (by (try dsimp only); (repeat refine sub_cons ?_ ?_); all_goals first | exact sub_nil | k_memK | ((repeat refine sub_skip ?_); first | exact fun _ hp => hp | exact fun _ hp => List.mem_append_left _ hp | exact fun _ hp => List.mem_append_right _ hp)) ?kk ?kp ?turn ?pass
  case kk => kst_all
  case kp => exact ⟨rr_0 ks, .nil, l1a⟩
  case pass => exact hE'
  clear lF' lN'
  rintro ⟨fs, fvs, fn, D1, i, ti, bh, th⟩ u9 h9 tk9 ⟨e1, e2, e3⟩ F9 N9
  dsimp only at e1 e2 e3 F9 N9 ⊢
  simp only [kstB] at F9
  have hi0 := e1.1
  have hi1 := e1.2.1
  have hfl := e2.length
  have hfb := e1.2.2.1
  k_steps
  · refine G_execs_cons (G_of ?_)
    k_steps
    all_goals (try dsimp only [WEnd])
    rotate_left
    · k_steps
      refine hQ' _ _ ?_
      dsimp only
      k_steps
      exact hret _ _ _ _ (RRd.none_ (rr_bad e1 (by with_reducible assumption) (fun h => absurd h.2 (by with_reducible assumption)))) (by k_asm) (cb_drop (by k_asm) (by (try dsimp only); (repeat refine sub_cons ?_ ?_); all_goals first | exact sub_nil | k_memK | ((repeat refine sub_skip ?_); first | exact fun _ hp => hp | exact fun _ hp => List.mem_append_left _ hp | exact fun _ hp => List.mem_append_right _ hp)))
    · k_steps
      refine hQ' _ _ ?_
      dsimp only
      k_steps
      exact hret _ _ _ _ (RRd.none_ (rr_bad e1 (by with_reducible assumption) (fun h => absurd h.1 (by with_reducible assumption)))) (by k_asm) (cb_drop (by k_asm) (by (try dsimp only); (repeat refine sub_cons ?_ ?_); all_goals first | exact sub_nil | k_memK | ((repeat refine sub_skip ?_); first | exact fun _ hp => hp | exact fun _ hp => List.mem_append_left _ hp | exact fun _ hp => List.mem_append_right _ hp)))
    refine G_execs_cons ?_
    (with_reducible rename Fr _ _ _ _ => lF')
    (with_reducible rename News _ _ _ _ => lN')
    refine G_IfJ (ks.getD i.toNat 0 != 38) lF' lN' ?t1 ?y1 ?n1
    case t1 =>
      k_steps
      exact Joined.mk rfl (by k_asm) (cb_drop (by k_asm) (by (try dsimp only); (repeat refine sub_cons ?_ ?_); all_goals first | exact sub_nil | k_memK | ((repeat refine sub_skip ?_); first | exact fun _ hp => hp | exact fun _ hp => List.mem_append_left _ hp | exact fun _ hp => List.mem_append_right _ hp)))
    case y1 =>
      intro hc h8 tk8 F8 N8
      clear lF' lN'
      refine G_execs_cons (G_of ?_)
      k_steps
      refine G_execs_cons (G_of ?_)
      k_steps
      refine G_execs_cons (G_of ?_)
      k_steps
      (with_reducible rename Fr _ _ _ _ => lF')
      (with_reducible rename News _ _ _ _ => lN')
      (try simp only [List.push_toArray] at lN')
      have hp := rr_plain e1 (by with_reducible assumption) (by with_reducible assumption) (by with_reducible assumption) (by simpa using hc)
      exact loopSt (fs ++ [ks.getD i.toNat 0], _, fn + 1, D1, i + 1, _, bh, th) lF' lN' (by (try dsimp only); (repeat refine sub_cons ?_ ?_); all_goals first | exact sub_nil | k_memK | ((repeat refine sub_skip ?_); first | exact fun _ hp => hp | exact fun _ hp => List.mem_append_left _ hp | exact fun _ hp => List.mem_append_right _ hp)) (by kst_all) ⟨⟨hp, IntsAre.snoc_ e2 _ _, e3⟩, by dsimp only; omega⟩
    case n1 =>
      intro hc h8 tk8 F8 N8
      clear lF' lN'
      refine G_execs_nil ?_
      have h38 : ks.getD i.toNat 0 = 38 := by simpa using hc
      refine G_execs_cons (G_of ?_)
      k_steps
      with_reducible refine Stop.out ?_
      refine find_K (x := 45) hb (by decide) (by decide) hi0 (by omega) fun t5 k5 => ?_
      k_steps
      refine G_execs_cons (G_of ?_)
      k_steps
      · (try dsimp only [WEnd])
        k_steps
        refine hQ' _ _ ?_
        dsimp only
        k_steps
        exact hret _ _ _ _ (RRd.none_ (rr_nofind e1 (by with_reducible assumption) h38 (by with_reducible assumption))) (by k_asm) (cb_drop (by k_asm) (by (try dsimp only); (repeat refine sub_cons ?_ ?_); all_goals first | exact sub_nil | k_memK | ((repeat refine sub_skip ?_); first | exact fun _ hp => hp | exact fun _ hp => List.mem_append_left _ hp | exact fun _ hp => List.mem_append_right _ hp)))
      have hnf : ¬ findInt ks 45 i.toNat < 0 := by with_reducible assumption
      have hfi := find_in hi0 (by with_reducible assumption) h38 hnf
      generalize hY : findInt ks 45 i.toNat = y at *
      refine G_execs_cons ?_
      (with_reducible rename Fr _ _ _ _ => lF')
      (with_reducible rename News _ _ _ _ => lN')
      refine G_IfJ (decide (y = i + 1)) lF' lN' ?t2 ?y2 ?n2
      case t2 =>
        k_steps
        exact Joined.mk rfl (by k_asm) (cb_drop (by k_asm) (by (try dsimp only); (repeat refine sub_cons ?_ ?_); all_goals first | exact sub_nil | k_memK | ((repeat refine sub_skip ?_); first | exact fun _ hp => hp | exact fun _ hp => List.mem_append_left _ hp | exact fun _ hp => List.mem_append_right _ hp)))
      case y2 =>
        intro hc2 h7 tk7 F7 N7
        clear lF' lN'
        refine G_execs_cons (G_of ?_)
        k_steps
        refine G_execs_nil ?_
        refine G_execs_cons (G_of ?_)
        k_steps
        refine G_execs_nil ?_
        (with_reducible rename Fr _ _ _ _ => lF')
        (with_reducible rename News _ _ _ _ => lN')
        (try simp only [List.push_toArray] at lN')
        have hp := rr_amp e1 (by with_reducible assumption) h38 (by rw [hY]; exact hnf) (by rw [hY]; exact of_decide_eq_true hc2)
        rw [hY] at hp
        exact loopSt (fs ++ [38], _, fn + 1, D1, y + 1, _, bh, th) lF' lN' (by (try dsimp only); (repeat refine sub_cons ?_ ?_); all_goals first | exact sub_nil | k_memK | ((repeat refine sub_skip ?_); first | exact fun _ hp => hp | exact fun _ hp => List.mem_append_left _ hp | exact fun _ hp => List.mem_append_right _ hp)) (by kst_all) ⟨⟨hp, IntsAre.snoc_ e2 _ _, e3⟩, by dsimp only; omega⟩
      case n2 =>
        intro hc2 h7 tk7 F7 N7
        clear lF' lN'
        refine G_execs_cons (G_Assign_Name (G_IfExp (G_of ?_)))
        k_steps
        rotate_left
        · refine G_of ?_
          k_steps
          refine G_execs_cons (G_of ?_)
          k_steps
          (try dsimp only [WEnd])
          k_steps
          refine hQ' _ _ ?_
          dsimp only
          k_steps
          exact hret _ _ _ _ (RRd.none_ (rr_behind e1 (by with_reducible assumption) h38 (by rw [hY]; exact hnf) (by rw [hY]; exact of_decide_eq_false hc2) (by with_reducible assumption))) (by k_asm) (cb_drop (by k_asm) (by (try dsimp only); (repeat refine sub_cons ?_ ?_); all_goals first | exact sub_nil | k_memK | ((repeat refine sub_skip ?_); first | exact fun _ hp => hp | exact fun _ hp => List.mem_append_left _ hp | exact fun _ hp => List.mem_append_right _ hp)))
        refine G_Call ?_
        k_steps
        refine G_callWith_K (K := hd.heap_39 w.params) (by k_is) ?_
        k_steps
        have hpk : KBw.bInts (KBy.picked b (some (i + 1)) (some y)) = slc ks (i + 1) y := KBc.ints_picked hb (some (i + 1)) (some y)
        have hsl := slc_len2 (ks := ks) (i := i + 1) (p := y) (by omega) (by omega) (by have := of_decide_eq_false hc2; omega) (by omega)
        have hne2 := of_decide_eq_false hc2
        (with_reducible rename Fr _ _ _ _ => lF')
        (with_reducible rename News _ _ _ _ => lN')
        refine' CtrG.use (codes_ctr w _ _ (slc ks (i + 1) y) _ hpk (by omega) (by omega)) ?k1 lF' ?k3 lN' ?k5 ?kK ?kd ?ku ?kr ?ke
        case k1 => k_asm
        case k3 => k_asm
        case k5 => k_asm
        case kK => first | exact rfl | assumption
        case kd => ktr_room
        case ku => ktr_units
        case ke => exact fun _ _ _ _ _ _ z => z.elim
        case kr =>
          clear lF' lN'
          intro v5 led5 h5 tk5 hR F5 N5
          revert N5
          apply RCodes.elim hR
          · clear hR
            intro hr N5
            dsimp only
            k_steps
            refine G_execs_cons (G_of ?_)
            k_steps
            (try dsimp only [WEnd])
            k_steps
            refine hQ' _ _ ?_
            dsimp only
            k_steps
            exact hret _ _ _ _ (RRd.none_ (rr_codes e1 (by with_reducible assumption) h38 (by rw [hY]; exact hnf) (by rw [hY]; exact hne2) (by with_reducible assumption) (by rw [hY]; exact hr))) (by k_asm) (cb_drop (by k_asm) (by (try dsimp only); (repeat refine sub_cons ?_ ?_); all_goals first | exact sub_nil | k_memK | ((repeat refine sub_skip ?_); first | exact fun _ hp => hp | exact fun _ hp => List.mem_append_left _ hp | exact fun _ hp => List.mem_append_right _ hp)))
          · clear hR
            intro l9 vs9 n9 cs hr hi9 hA9 N5
            dsimp only
            k_steps
            refine G_execs_cons (G_of ?_)
            k_steps
            have hp := rr_run e1 (by with_reducible assumption) h38 (by rw [hY]; exact hnf) (by rw [hY]; exact hne2) (by with_reducible assumption) (by rw [hY]; exact hr)
            rw [hY] at hp
            have hcl := codes_len hr
            have h9l := hi9.length
            refine G_execs_cons (G_of ?_)
            k_steps
            refine G_execs_nil ?_
            refine G_execs_cons (G_of ?_)
            k_steps
            refine G_execs_nil ?_
            (with_reducible rename Fr _ _ _ _ => lF')
            (with_reducible rename News _ _ _ _ => lN')
            (with_reducible rename IntsAre _ (fs ++ cs) => hI5)
            (with_reducible rename _ < _ ∧ _ < _ ∧ AllLt _ news => l5)
            exact loopSt (fs ++ cs, _, _, _, y + 1, _, y + 1, _) lF' lN' (by (try dsimp only); (repeat refine sub_cons ?_ ?_); all_goals first | exact sub_nil | k_memK | ((repeat refine sub_skip ?_); first | exact fun _ hp => hp | exact fun _ hp => List.mem_append_left _ hp | exact fun _ hp => List.mem_append_right _ hp)) (by kst_all) ⟨⟨hp, hI5, kst_ltOf l5.2.2⟩, by dsimp only; omega⟩
  · refine G_execs_cons (G_of ?_)
    k_steps
    refine hQ' _ _ ?_
    dsimp only
    k_steps
    exact hret _ _ _ _ (RRd.some_ (rr_end e1 (by with_reducible assumption)) e2 (allLt_of e3)) (by k_asm) (by k_asm)
end

end
section
/-! the plain law: numbers by their digits -/
noncomputable def num (B : Int) (ds : List Int) : Int := ds.foldl (fun n d => n * B + d) 0
theorem num_snoc (B : Int) (ds : List Int) (d : Int) : num B (ds ++ [d]) = num B ds * B + d := by simp [num]
noncomputable def InB (B : Int) (ds : List Int) : Prop := ∀ d ∈ ds, 0 ≤ d ∧ d < B
theorem InB.snoc {B : Int} {ds : List Int} {d : Int} (h : InB B ds) (h0 : 0 ≤ d) (h1 : d < B) : InB B (ds ++ [d]) := by
  intro x hx
  rcases List.mem_append.mp hx with hx | hx
  · exact h x hx
  · rw [List.mem_singleton.mp hx]; exact ⟨h0, h1⟩
theorem InB.left {B : Int} {a b : List Int} (h : InB B (a ++ b)) : InB B a := fun x hx => h x (List.mem_append_left _ hx)
theorem InB.last {B : Int} {a : List Int} {d : Int} (h : InB B (a ++ [d])) : 0 ≤ d ∧ d < B := h d (by simp)
theorem snoc_ind {P : List Int → Prop} (h0 : P []) (hs : ∀ l x, P l → P (l ++ [x])) (l : List Int) : P l := by
  have key : ∀ r : List Int, P r.reverse := by
    intro r
    induction r with
    | nil => exact h0
    | cons x r ih => rw [List.reverse_cons]; exact hs _ _ ih
  have := key l.reverse
  rwa [List.reverse_reverse] at this
theorem dm {B n x : Int} (h0 : 0 ≤ x) (h1 : x < B) : (n * B + x) / B = n ∧ (n * B + x) % B = x := by
  have hB : B ≠ 0 := by omega
  constructor
  · rw [Int.add_comm, Int.add_mul_ediv_right _ _ hB, Int.ediv_eq_zero_of_lt h0 h1]; omega
  · rw [Int.add_comm, Int.add_mul_emod_self_right, Int.emod_eq_of_lt h0 h1]
theorem num_inj {B : Int} : ∀ (n : Nat) (a b : List Int), a.length = n → b.length = n → InB B a → InB B b → num B a = num B b → a = b := by
  intro n
  induction n with
  | zero => intro a b ha hb _ _ _; rw [List.length_eq_zero_iff.mp ha, List.length_eq_zero_iff.mp hb]
  | succ n ih =>
    intro a b ha hb ia ib e
    obtain ⟨a', x, rfl⟩ := snoc_of_pos (l := a) (by omega)
    obtain ⟨b', y, rfl⟩ := snoc_of_pos (l := b) (by omega)
    rw [num_snoc, num_snoc] at e
    have hx := dm (n := num B a') ia.last.1 ia.last.2
    have hy := dm (n := num B b') ib.last.1 ib.last.2
    rw [e] at hx
    have e1 : num B a' = num B b' := hx.1.symm.trans hy.1
    have e2 : x = y := hx.2.symm.trans hy.2
    simp only [List.length_append, List.length_singleton] at ha hb
    rw [ih a' b' (by omega) (by omega) ia.left ib.left e1, e2]
theorem p2 (n : Nat) : 0 < (2 : Int) ^ n := Int.pow_pos (by decide)
/-- what the reading of the signs keeps -/
theorem ruV_inv (vs : List Int) : InB 64 vs → ∃ us r m, vs.foldl ruStep ([], 0, 0) = (us, r, m) ∧ num 64 vs = num 65536 us * 2 ^ m.toNat + r ∧ 0 ≤ r ∧ r < 2 ^ m.toNat ∧ 0 ≤ m ∧ m < 16 ∧ 6 * (vs.length : Int) = 16 * us.length + m ∧ InB 65536 us := by
  refine snoc_ind (P := fun vs => InB 64 vs → ∃ us r m, vs.foldl ruStep ([], 0, 0) = (us, r, m) ∧ num 64 vs = num 65536 us * 2 ^ m.toNat + r ∧ 0 ≤ r ∧ r < 2 ^ m.toNat ∧ 0 ≤ m ∧ m < 16 ∧ 6 * (vs.length : Int) = 16 * us.length + m ∧ InB 65536 us) ?_ ?_ vs
  · intro _
    exact ⟨[], 0, 0, rfl, rfl, by decide, by decide, by decide, by decide, rfl, fun _ h => nomatch h⟩
  · intro l v ih h
    obtain ⟨us, r, m, e, hN, r0, r1, m0, m1, hl, hi⟩ := ih h.left
    have hv := h.last
    rw [List.foldl_append, e, List.foldl_cons, List.foldl_nil, num_snoc, hN]
    simp only [List.length_append, List.length_singleton]
    unfold ruStep
    by_cases c : 16 ≤ m + 6
    · rw [if_pos c]
      dsimp only
      obtain ⟨k, hk⟩ : ∃ k : Nat, m = k + 10 := ⟨(m - 10).toNat, by omega⟩
      subst hk
      have e1 : ((k : Int) + 10 + 6 - 16).toNat = k := by omega
      have e2 : ((k : Int) + 10).toNat = k + 10 := by omega
      have e3 : (2 : Int) ^ (k + 10) = 1024 * 2 ^ k := by rw [Int.pow_add, Int.mul_comm]; rfl
      rw [e2, e3] at r1
      rw [e1, e2, e3]
      have hp := p2 k
      obtain ⟨P, hP⟩ : ∃ P, (2 : Int) ^ k = P := ⟨_, rfl⟩
      rw [hP] at hp r1
      rw [hP]
      have q1 := Int.mul_ediv_add_emod (r * 64 + v) P
      have q2 := Int.emod_nonneg (r * 64 + v) (Int.ne_of_gt hp)
      have q3 := Int.emod_lt_of_pos (r * 64 + v) hp
      refine ⟨_, _, _, rfl, ?_, q2, ?_, by omega, by omega, by simp only [List.length_append, List.length_singleton]; omega, hi.snoc (Int.ediv_nonneg (by omega) (by omega)) (Int.ediv_lt_of_lt_mul hp (by omega))⟩
      · rw [num_snoc, e1, hP]
        generalize (r * 64 + v) / P = q at *
        generalize (r * 64 + v) % P = z at *
        grind
      · rw [e1, hP]; exact q3
    · rw [if_neg c]
      dsimp only
      have e2 : (m + 6).toNat = m.toNat + 6 := by omega
      refine ⟨_, _, _, rfl, ?_, by omega, ?_, by omega, by omega, by omega, hi⟩
      · rw [e2, Int.pow_add]; generalize (2 : Int) ^ m.toNat = P; grind
      · rw [e2, Int.pow_add, show (2 : Int) ^ 6 = 64 from rfl]; omega
theorem sign_nat : ∀ n : Nat, n < 64 → pyValue (pySign (n : Int)) = some (n : Int) ∧ signsK.getD n 0 = pySign (n : Int) := by decide +kernel
theorem sign_val {v : Int} (h0 : 0 ≤ v) (h1 : v < 64) : pyValue (pySign v) = some v ∧ signsK.getD v.toNat 0 = pySign v := by
  have := sign_nat v.toNat (by omega)
  rwa [Int.toNat_of_nonneg h0] at this
theorem signs_valid : ∀ s ∈ signsK, valid s = true ∧ (signsK.idxOf s : Int) = (pyValue s).getD 0 := by decide +kernel
theorem valid_nat : ∀ n : Nat, n < 128 → valid (n : Int) = true → (n : Int) ∈ signsK := by decide +kernel
theorem valid_range {o : Int} (h : valid o = true) : 0 ≤ o ∧ o < 128 := by
  unfold valid pyValue at h
  (repeat' split at h) <;> first | omega | (cases h; done)
theorem valid_mem {o : Int} : valid o = true ↔ o ∈ signsK := by
  constructor
  · intro h
    have hr := valid_range h
    have := valid_nat o.toNat (by omega)
    rw [Int.toNat_of_nonneg hr.1] at this
    exact this h
  · intro h; exact (signs_valid o h).1
theorem valid_some {o : Int} (h : valid o = true) : ∃ v, pyValue o = some v := Option.isSome_iff_exists.mp h
theorem vals_in {os : List Int} (h : ∀ o ∈ os, valid o = true) : InB 64 (vals os) := by
  intro d hd
  obtain ⟨o, ho, rfl⟩ := List.mem_map.mp hd
  obtain ⟨v, hv⟩ := valid_some (h o ho)
  rw [hv]; exact pyValue_in hv
theorem lcNum_eq (os : List Int) : (∀ o ∈ os, valid o = true) → lcNum os = num 64 (vals os) := by
  refine snoc_ind (P := fun os => (∀ o ∈ os, valid o = true) → lcNum os = num 64 (vals os)) (fun _ => rfl) ?_ os
  intro l x ih h
  have e : vals (l ++ [x]) = vals l ++ [(pyValue x).getD 0] := by simp [vals]
  rw [lcNum_snoc, ih (fun o ho => h o (List.mem_append_left _ ho)), e, num_snoc, (signs_valid x (valid_mem.mp (h x (by simp)))).2]
theorem lcIter_drop (us : List Int) (h : InB 65536 us) : ∀ i, i ≤ us.length → lcIter (num 65536 us) i = (us.drop (us.length - i), num 65536 (us.take (us.length - i))) := by
  intro i
  induction i with
  | zero => intro _; simp [lcIter]
  | succ i ih =>
    intro hi
    have e := ih (by omega)
    show ((lcIter (num 65536 us) i).2.fmod 65536 :: (lcIter (num 65536 us) i).1, (lcIter (num 65536 us) i).2.fdiv 65536) = _
    rw [e]
    dsimp only
    have hj : us.length - i = us.length - (i + 1) + 1 := by omega
    have hlt : us.length - (i + 1) < us.length := by omega
    generalize us.length - (i + 1) = j at *
    rw [hj, List.take_add_one, List.getElem?_eq_getElem hlt, Option.toList_some, num_snoc]
    have hd := h us[j] (List.getElem_mem _)
    have q := dm (n := num 65536 (us.take j)) hd.1 hd.2
    rw [Int.fmod_eq_emod_of_nonneg _ (by decide), Int.fdiv_eq_ediv_of_nonneg _ (by decide), q.1, q.2, List.drop_eq_getElem_cons hlt]
theorem lcIter_all (us : List Int) (h : InB 65536 us) : (lcIter (num 65536 us) us.length).1 = us := by
  rw [lcIter_drop us h us.length (Nat.le_refl _)]; simp
noncomputable def finC (r : Option (List Int)) : Option (List Int) := match r with
  | none => none
  | some f => if 55296 ≤ f.getLastD 0 ∧ f.getLastD 0 ≤ 56319 then none else some f
theorem lc3_none (us : List Int) : us.foldl lc3 none = none := by induction us with | nil => rfl | cons u r ih => exact ih
theorem getLastD_snoc (f : List Int) (u : Int) : (f ++ [u]).getLastD 0 = u := by simp
theorem lc3_dec : ∀ (n : Nat) (us f : List Int), us.length ≤ n → ¬ (55296 ≤ f.getLastD 0 ∧ f.getLastD 0 ≤ 56319) → finC (us.foldl lc3 (some f)) = (decU us).map (f ++ ·) := by
  intro n
  induction n with
  | zero =>
    intro us f hl hf
    cases us with
    | nil => simp only [List.foldl_nil, finC, decU]; rw [if_neg hf]; simp
    | cons => simp at hl
  | succ n ih =>
    intro us f hl hf
    cases us with
    | nil => simp only [List.foldl_nil, finC, decU]; rw [if_neg hf]; simp
    | cons u r =>
      have e0 : lc3 (some f) u = if (56320 ≤ u ∧ u ≤ 57343) ∨ (32 ≤ u ∧ u ≤ 126) then none else some (f ++ [u]) := by
        unfold lc3; dsimp only; rw [if_neg (fun h => hf h.2)]
      rw [List.foldl_cons, e0, decU.eq_def]
      dsimp only
      simp only [List.length_cons] at hl
      by_cases h1 : pyHigh u = true
      · have h1' : 55296 ≤ u ∧ u ≤ 56319 := by unfold pyHigh at h1; exact of_decide_eq_true h1
        rw [if_neg (by omega), if_pos h1]
        cases r with
        | nil => simp only [List.foldl_nil, finC, getLastD_snoc]; rw [if_pos h1']; rfl
        | cons v r' =>
          have e1 : lc3 (some (f ++ [u])) v = if 56320 ≤ v ∧ v ≤ 57343 then some (f ++ [65536 + (u - 55296) * 1024 + v - 56320]) else none := by
            unfold lc3; dsimp only; rw [getLastD_snoc, if_pos ⟨by simp, h1'⟩, List.dropLast_concat]
          rw [List.foldl_cons, e1]
          dsimp only
          simp only [List.length_cons] at hl
          by_cases h2 : pyLow v = true
          · have h2' : 56320 ≤ v ∧ v ≤ 57343 := by unfold pyLow at h2; exact of_decide_eq_true h2
            rw [if_pos h2', if_pos h2, ih r' _ (by omega) (by rw [getLastD_snoc]; omega)]
            cases decU r' <;> simp
          · have h2' : ¬ (56320 ≤ v ∧ v ≤ 57343) := by unfold pyLow at h2; exact fun h => h2 (decide_eq_true h)
            rw [if_neg h2', if_neg h2, lc3_none]; rfl
      · have h1' : ¬ (55296 ≤ u ∧ u ≤ 56319) := by unfold pyHigh at h1; exact fun h => h1 (decide_eq_true h)
        rw [if_neg h1]
        by_cases h2 : pyLow u = true
        · have h2' : 56320 ≤ u ∧ u ≤ 57343 := by unfold pyLow at h2; exact of_decide_eq_true h2
          rw [if_pos (Or.inl h2'), if_pos h2, lc3_none]; rfl
        · have h2' : ¬ (56320 ≤ u ∧ u ≤ 57343) := by unfold pyLow at h2; exact fun h => h2 (decide_eq_true h)
          rw [if_neg h2]
          have hd : (pyDirect u = true ∨ u = 38) ↔ (32 ≤ u ∧ u ≤ 126) := by
            unfold pyDirect; simp only [Bool.and_eq_true, decide_eq_true_eq]; omega
          by_cases h3 : 32 ≤ u ∧ u ≤ 126
          · rw [if_pos (Or.inr h3), if_pos (hd.mpr h3), lc3_none]; rfl
          · rw [if_neg (by omega), if_neg (fun h => h3 (hd.mp h)), ih r _ (by omega) (by rw [getLastD_snoc]; omega)]
            cases decU r <;> simp
theorem codes_run {os : List Int} (h : ∀ o ∈ os, valid o = true) : lawCodes os = runRes os := by
  obtain ⟨us, r, m, e, hN, r0, r1, m0, m1, hl, hi⟩ := ruV_inv (vals os) (vals_in h)
  have hlen : (vals os).length = os.length := by simp [vals]
  rw [hlen] at hl
  have e1 : lcLeft os = m := by unfold lcLeft; rw [Int.fmod_eq_emod_of_nonneg _ (by decide)]; omega
  have e2 : lcMany os = us.length := by unfold lcMany; rw [Int.fdiv_eq_ediv_of_nonneg _ (by decide)]; omega
  have q := dm (n := num 65536 us) r0 r1
  have hp := p2 m.toNat
  unfold lawCodes
  rw [if_pos (codes_all fun s hs => valid_mem.mp (h s hs)), lcNum_eq os h, e1, e2, hN, Int.fmod_eq_emod_of_nonneg _ (by omega), Int.fdiv_eq_ediv_of_nonneg _ (by omega), q.1, q.2, lcIter_all us hi]
  have hru : ruFold os = (us, r, m) := e
  unfold runRes rdU
  rw [hru]
  dsimp only
  by_cases c : m > 5 ∨ r ≠ 0
  · rw [if_pos c, if_neg]
    simp only [Bool.and_eq_true, decide_eq_true_eq]; omega
  · rw [if_neg c, if_pos (by simp only [Bool.and_eq_true, decide_eq_true_eq]; omega)]
    have := lc3_dec us.length us [] (Nat.le_refl _) (by decide)
    show finC (us.foldl lc3 (some [])) = _
    rw [this]
    cases decU us <;> simp

end
section
/-- what the drain keeps -/
noncomputable def DrOk (N T : Int) (st : List Int × Int × Int) : Prop := ∃ ds, st.1 = ds.map pySign ∧ InB 64 ds ∧ N = num 64 ds * 2 ^ st.2.2.toNat + st.2.1 ∧ 0 ≤ st.2.1 ∧ st.2.1 < 2 ^ st.2.2.toNat ∧ 0 ≤ st.2.2 ∧ T = 6 * (ds.length : Int) + st.2.2
theorem drain_ok {N T : Int} : ∀ (k : Nat) (st : List Int × Int × Int), DrOk N T st → st.2.2 < 6 * k + 6 → DrOk N T (drain k st) ∧ (drain k st).2.2 < 6 := by
  intro k
  induction k with
  | zero => intro st h hl; exact ⟨h, by simpa [drain] using hl⟩
  | succ k ih =>
    rintro ⟨bs, r, m⟩ h hl
    rw [drain]
    by_cases c : 6 ≤ m
    · rw [if_pos c]
      refine ih _ ?_ (by dsimp only at hl ⊢; omega)
      obtain ⟨ds, e1, hi, hN, r0, r1, m0, hT⟩ := h
      dsimp only at e1 hN r0 r1 m0 hT ⊢
      have hp := p2 (m - 6).toNat
      have e : m.toNat = (m - 6).toNat + 6 := by omega
      rw [e, Int.pow_add, show (2 : Int) ^ 6 = 64 from rfl] at r1 hN
      unfold DrOk
      dsimp only
      generalize (2 : Int) ^ (m - 6).toNat = P at *
      have q1 := Int.mul_ediv_add_emod r P
      have q2 := Int.emod_nonneg r (Int.ne_of_gt hp)
      have q3 := Int.emod_lt_of_pos r hp
      have d0 : 0 ≤ r / P := Int.ediv_nonneg r0 (by omega)
      have d1 : r / P < 64 := Int.ediv_lt_of_lt_mul hp (by rw [Int.mul_comm]; exact r1)
      refine ⟨ds ++ [r / P], by rw [e1]; simp, hi.snoc d0 d1, ?_, q2, q3, by omega, by simp only [List.length_append, List.length_singleton]; omega⟩
      rw [num_snoc]
      generalize r / P = q at *
      generalize r % P = z at *
      grind
    · rw [if_neg c]; exact ⟨h, by dsimp only at *; omega⟩
theorem pk_inv (us : List Int) : InB 65536 us → DrOk (num 65536 us) (16 * us.length) (pkFold us) ∧ (pkFold us).2.2 < 6 := by
  refine snoc_ind (P := fun us => InB 65536 us → DrOk (num 65536 us) (16 * us.length) (pkFold us) ∧ (pkFold us).2.2 < 6) ?_ ?_ us
  · intro _; exact ⟨⟨[], rfl, (fun _ h => nomatch h), rfl, by decide, by decide, by decide, rfl⟩, by decide⟩
  · intro l u ih h
    obtain ⟨⟨ds, e1, hi, hN, r0, r1, m0, hT⟩, hlt⟩ := ih h.left
    have hu := h.last
    have e : pkFold (l ++ [u]) = pkStep (pkFold l) u := by simp [pkFold]
    rw [e]
    refine drain_ok 3 _ ⟨ds, e1, hi, ?_, ?_, ?_, ?_, ?_⟩ (by dsimp only; omega)
    · dsimp only
      rw [num_snoc, hN, show ((pkFold l).2.2 + 16).toNat = (pkFold l).2.2.toNat + 16 by omega, Int.pow_add, show (2 : Int) ^ 16 = 65536 from rfl]
      generalize (2 : Int) ^ (pkFold l).2.2.toNat = P
      grind
    · dsimp only; omega
    · dsimp only
      rw [show ((pkFold l).2.2 + 16).toNat = (pkFold l).2.2.toNat + 16 by omega, Int.pow_add, show (2 : Int) ^ 16 = 65536 from rfl]
      omega
    · dsimp only; omega
    · dsimp only; simp only [List.length_append, List.length_singleton]; omega
/-- what is packed: the signs of some figures that tell the number -/
theorem packed_inv (us : List Int) (h : InB 65536 us) : ∃ ds, ∃ less : Nat, packed us = ds.map pySign ∧ InB 64 ds ∧ less < 6 ∧ num 64 ds = num 65536 us * 2 ^ less ∧ 16 * us.length + less = 6 * ds.length := by
  obtain ⟨⟨ds, e1, hi, hN, r0, r1, m0, hT⟩, hlt⟩ := pk_inv us h
  unfold packed
  generalize pkFold us = st at *
  obtain ⟨bs, r, m⟩ := st
  dsimp only at *
  by_cases c : 0 < m
  · rw [if_pos c]
    obtain ⟨k, hk⟩ : ∃ k : Nat, m = k := ⟨m.toNat, by omega⟩
    subst hk
    have e2 : (6 - (k : Int)).toNat = 6 - k := by omega
    rw [e2, Int.toNat_natCast] at *
    have hp : (2 : Int) ^ k * 2 ^ (6 - k) = 64 := by rw [← Int.pow_add, show k + (6 - k) = 6 by omega]; rfl
    have hp1 := p2 (6 - k)
    refine ⟨ds ++ [r * 2 ^ (6 - k)], 6 - k, by rw [e1]; simp, hi.snoc (Int.mul_nonneg r0 (by omega)) ?_, by omega, ?_, by simp only [List.length_append, List.length_singleton]; omega⟩
    · have := Int.mul_lt_mul_of_pos_right r1 hp1
      rw [hp] at this; exact this
    · rw [num_snoc, hN]
      generalize (2 : Int) ^ k = P at *
      generalize (2 : Int) ^ (6 - k) = P' at *
      grind
  · rw [if_neg c]
    have hm : m = 0 := by omega
    subst hm
    have hr : r = 0 := by have : r < 1 := r1; omega
    subst hr
    refine ⟨ds, 0, e1, hi, by omega, ?_, by omega⟩
    rw [hN]; simp
theorem digit (ds : List Int) : InB 64 ds → ∀ k, (hk : k < ds.length) → (num 64 ds / 64 ^ (ds.length - 1 - k)) % 64 = ds[k] := by
  refine snoc_ind (P := fun ds => InB 64 ds → ∀ k, (hk : k < ds.length) → (num 64 ds / 64 ^ (ds.length - 1 - k)) % 64 = ds[k]) (fun _ k hk => by cases hk) ?_ ds
  intro l d ih h k hk
  have q := dm (n := num 64 l) h.last.1 h.last.2
  have hl : (l ++ [d]).length = l.length + 1 := by simp
  rw [num_snoc]
  by_cases c : k < l.length
  · rw [List.getElem_append_left c, ← ih h.left k c]
    have e : (l ++ [d]).length - 1 - k = (l.length - 1 - k) + 1 := by omega
    rw [e, Int.pow_succ, Int.mul_comm (64 ^ _) 64, ← Int.ediv_ediv_of_nonneg (by decide), q.1]
  · have e : k = l.length := by omega
    subst e
    have e0 : (l ++ [d]).length - 1 - l.length = 0 := by omega
    rw [e0, Int.pow_zero, Int.ediv_one, q.2]
    simp
theorem lrStep_num (us : List Int) (st : Int × Int) : (us.foldl lrStep st).1 = us.foldl (fun n d => n * 65536 + d) st.1 := by
  induction us generalizing st with
  | nil => rfl
  | cons u r ih => rw [List.foldl_cons, ih]; rfl
theorem lrFold_num (ns : List Int) : (lrFold ns).1 = num 65536 (pyUnits ns) := by unfold lrFold num; rw [lrStep_num]
theorem lawRun_packed {ns : List Int} (h : InB 65536 (pyUnits ns)) : lawRun ns = [38] ++ packed (pyUnits ns) ++ [45] := by
  obtain ⟨ds, less, e, hi, hl, hN, hT⟩ := packed_inv _ h
  have hm := lrFold_many ns
  unfold lawRun
  have e1 : (-(lrFold ns).2).fmod 6 = less := by rw [Int.fmod_eq_emod_of_nonneg _ (by decide)]; omega
  have e2 : ((lrFold ns).2 + less).fdiv 6 = ds.length := by rw [Int.fdiv_eq_ediv_of_nonneg _ (by decide)]; omega
  rw [e1, e2, Int.toNat_natCast, e]
  congr 2
  refine List.ext_getElem (by simp [rangeKs]) fun k h1 h2 => ?_
  simp only [List.length_map] at h2
  simp only [List.getElem_map, rangeKs, List.getElem_range]
  unfold lrSign
  rw [e1, e2, lrFold_num, Int.toNat_natCast, ← hN]
  have e3 : ((ds.length : Int) - 1 - (0 + (k : Int))).toNat = ds.length - 1 - k := by omega
  rw [e3, Int.fdiv_eq_ediv_of_nonneg _ (Int.le_of_lt (Int.pow_pos (by decide))), Int.fmod_eq_emod_of_nonneg _ (by decide), digit ds hi k h2]
  have hd := hi _ (List.getElem_mem h2)
  exact (sign_val hd.1 hd.2).2
theorem units_in {ns : List Int} (h : ∀ c ∈ ns, 0 ≤ c ∧ c ≤ 1114111) : InB 65536 (pyUnits ns) := by
  intro x hx
  obtain ⟨c, hc, hx⟩ := List.mem_flatMap.mp hx
  have := h c hc
  unfold pyUnit at hx
  split at hx
  · rw [List.mem_singleton.mp hx]; omega
  · rcases List.mem_cons.mp hx with rfl | hx
    · omega
    · rw [List.mem_singleton.mp hx]; omega
theorem flush_eq {run : List Int} (h : ∀ c ∈ run, 0 ≤ c ∧ c ≤ 1114111) : wrFlush run = flush run := by
  unfold wrFlush flush
  by_cases c : run = []
  · rw [if_pos c, if_pos c]
  · rw [if_neg c, if_neg c, lawRun_packed (units_in h)]
/-- encode_mailbox and the law's writing, from the left -/
noncomputable def encR : List Int → List Int → List Int
  | run, [] => flush run
  | run, x :: r => if 32 ≤ x ∧ x ≤ 126 then flush run ++ (if x = 38 then [38, 45] else [x]) ++ encR [] r else encR (run ++ [x]) r
theorem enc_R (ns : List Int) : ∀ st : List Int × List Int, (ns.foldl encStep st).1 ++ flush (ns.foldl encStep st).2 = st.1 ++ encR st.2 ns := by
  induction ns with
  | nil => intro st; rfl
  | cons x r ih =>
    intro st
    rw [List.foldl_cons, ih, encR]
    unfold encStep plainC
    by_cases c : 32 ≤ x ∧ x ≤ 126
    · rw [if_pos (decide_eq_true c), if_pos c]; simp
    · rw [if_neg (by simpa using c), if_neg c]
theorem encAll_R (ns : List Int) : encAll ns = encR [] ns := by unfold encAll encFold; rw [enc_R]; rfl
theorem wr_R (ns : List Int) : ∀ st : List Int × List Int, (∀ c ∈ ns, 0 ≤ c ∧ c ≤ 1114111) → (∀ c ∈ st.2, 0 ≤ c ∧ c ≤ 1114111) → (ns.foldl wrStep st).1 ++ wrFlush (ns.foldl wrStep st).2 = st.1 ++ encR st.2 ns ∧ (∀ c ∈ (ns.foldl wrStep st).2, 0 ≤ c ∧ c ≤ 1114111) := by
  induction ns with
  | nil => intro st _ h; exact ⟨by rw [List.foldl_nil, flush_eq h]; rfl, h⟩
  | cons x r ih =>
    intro st hn h
    have hr : ∀ c ∈ r, 0 ≤ c ∧ c ≤ 1114111 := fun c hc => hn c (List.mem_cons_of_mem _ hc)
    have hx := hn x List.mem_cons_self
    rw [List.foldl_cons, encR]
    by_cases c : 32 ≤ x ∧ x ≤ 126
    · have eW : wrStep st x = (st.1 ++ wrFlush st.2 ++ (if x = 38 then [38, 45] else [x]), []) := if_pos c
      rw [eW, if_pos c]
      have := ih (st.1 ++ wrFlush st.2 ++ (if x = 38 then [38, 45] else [x]), []) hr (fun _ h => nomatch h)
      refine ⟨?_, this.2⟩
      rw [this.1, flush_eq h]; simp
    · have eW : wrStep st x = (st.1, st.2 ++ [x]) := if_neg c
      rw [eW, if_neg c]
      refine ih (st.1, st.2 ++ [x]) hr fun y hy => ?_
      rcases List.mem_append.mp hy with hy | hy
      · exact h y hy
      · rw [List.mem_singleton.mp hy]; exact hx
theorem lawText_enc {ns : List Int} (h : ∀ c ∈ ns, 0 ≤ c ∧ c ≤ 1114111) : lawText ns = encAll ns := by
  have hw := wr_R ns ([], []) h (fun _ h => nomatch h)
  rw [encAll_R]
  unfold lawText
  rw [wrFold_snoc]
  have e : wrStep (wrFold ns) 32 = ((wrFold ns).1 ++ wrFlush (wrFold ns).2 ++ [32], []) := rfl
  rw [e]
  show List.dropLast ((wrFold ns).1 ++ wrFlush (wrFold ns).2 ++ [32]) = _
  rw [List.dropLast_concat]
  exact hw.1

end
section
open BL
/-- decode_mailbox over what is left to read -/
noncomputable def mailL (fl : Bool) (r : List Int) : Option (List Int × List Int × Bool) :=
  if r.takeWhile valid = [] ∧ (r.dropWhile valid).head? = some 45 then some ([38], (r.dropWhile valid).tail, false)
  else if fl = true then none
  else if r.takeWhile valid = [] then none
  else match runRes (r.takeWhile valid) with
    | none => none
    | some cs => if (r.dropWhile valid).head? = some 45 then some (cs, (r.dropWhile valid).tail, true) else none
noncomputable def decL : Nat → Bool → List Int → Option (List Int)
  | 0, _, _ => some []
  | _ + 1, _, [] => some []
  | n + 1, fl, x :: r =>
    if x = 38 then
      match mailL fl r with
      | none => none
      | some (cs, r', fl') => (decL n fl' r').map (cs ++ ·)
    else if pyDirect x = true then (decL n false r).map (x :: ·)
    else none
theorem drop_cons {ks : List Int} {i : Nat} (h : i < ks.length) : ks.drop i = ks.getD i 0 :: ks.drop (i + 1) := by
  rw [List.drop_eq_getElem_cons h]; simp [List.getD_eq_getElem?_getD, List.getElem?_eq_getElem h]
theorem drop_head (ks : List Int) (i : Nat) : (ks.drop i).head? = ks[i]? := by rw [List.head?_drop]
theorem takeWhile_app (l : List Int) : l = l.takeWhile valid ++ l.dropWhile valid := (List.takeWhile_append_dropWhile).symm
theorem drop_takeWhile (l : List Int) : l.drop (l.takeWhile valid).length = l.dropWhile valid := by
  induction l with
  | nil => rfl
  | cons x r ih =>
    rw [List.takeWhile_cons, List.dropWhile_cons]
    split
    · simpa using ih
    · rfl
theorem closed_eq {ks : List Int} {en : Nat} : closed ks (en : Int) = true ↔ ks[en]? = some 45 := by
  unfold closed
  simp only [Bool.and_eq_true, decide_eq_true_eq, Int.toNat_natCast, List.getD_eq_getElem?_getD]
  constructor
  · rintro ⟨h1, h2⟩
    rw [List.getElem?_eq_getElem (by omega)] at h2 ⊢
    simpa using h2
  · intro h
    have := (List.getElem?_eq_some_iff.mp h).1
    rw [h]; exact ⟨by omega, rfl⟩
theorem mail_L {ks : List Int} {i : Nat} {bo : Option Int} {fl : Bool} (hi : i < ks.length) (hb : bo = some (i : Int) ↔ fl = true) :
    (mailRun ks i bo = none ∧ mailL fl (ks.drop (i + 1)) = none) ∨
    ∃ cs, ∃ p : Nat, ∃ fl', mailRun ks i bo = some (cs, (p : Int)) ∧ mailL fl (ks.drop (i + 1)) = some (cs, ks.drop p, fl') ∧ i + 2 ≤ p ∧ p ≤ ks.length ∧ (fl' = true ↔ i + 2 < p) := by
  have htw := drop_takeWhile (ks.drop (i + 1))
  rw [List.drop_drop] at htw
  have hle : ((ks.drop (i + 1)).takeWhile valid).length ≤ (ks.drop (i + 1)).length := (List.takeWhile_sublist _).length_le
  rw [List.length_drop] at hle
  have hre : runEnd ks ((i : Int) + 1) = ((i + 1 + ((ks.drop (i + 1)).takeWhile valid).length : Nat) : Int) := by
    unfold runEnd; rw [show ((i : Int) + 1).toNat = i + 1 by omega]; omega
  have hs : slc ks ((i : Int) + 1) (runEnd ks ((i : Int) + 1)) = (ks.drop (i + 1)).takeWhile valid := by
    rw [slc_eq (by omega) (by omega), show ((i : Int) + 1).toNat = i + 1 by omega]
  unfold mailRun mailL
  rw [hs, hre, ← htw, List.tail_drop, drop_head]
  generalize htv : (ks.drop (i + 1)).takeWhile valid = v at *
  have hv0 : (((i + 1 + v.length : Nat) : Int) = (i : Int) + 1) ↔ v = [] := by
    constructor
    · intro h; exact List.length_eq_zero_iff.mp (by omega)
    · rintro rfl; simp
  simp only [hv0, closed_eq]
  have hcl : ks[i + 1 + v.length]? = some 45 → i + 1 + v.length < ks.length := fun h => (List.getElem?_eq_some_iff.mp h).1
  by_cases c1 : v = [] ∧ ks[i + 1 + v.length]? = some 45
  · rw [if_pos c1, if_pos c1]
    refine .inr ⟨[38], i + 1 + v.length + 1, false, by simp, rfl, by omega, by have := hcl c1.2; omega, ?_⟩
    rw [c1.1]; simp
  · rw [if_neg c1, if_neg c1]
    by_cases c2 : fl = true
    · rw [if_pos (hb.mpr c2), if_pos c2]; exact .inl ⟨rfl, rfl⟩
    · rw [if_neg (fun h => c2 (hb.mp h)), if_neg c2]
      by_cases c3 : v = []
      · rw [if_pos c3, if_pos c3]; exact .inl ⟨rfl, rfl⟩
      · rw [if_neg c3, if_neg c3]
        have hvp : 0 < v.length := List.length_pos_iff.mpr c3
        cases runRes v with
        | none => exact .inl ⟨rfl, rfl⟩
        | some cs =>
          dsimp only
          by_cases c4 : ks[i + 1 + v.length]? = some 45
          · rw [if_pos c4, if_pos c4]
            exact .inr ⟨cs, i + 1 + v.length + 1, true, by simp, rfl, by omega, by have := hcl c4; omega, by simp; omega⟩
          · rw [if_neg c4, if_neg c4]; exact .inl ⟨rfl, rfl⟩
theorem dec_L (ks : List Int) : ∀ (n i : Nat) (bo : Option Int) (fl : Bool), i ≤ ks.length → (bo = some (i : Int) ↔ fl = true) → (∀ b, bo = some b → b ≤ i) → decF ks n i bo = decL n fl (ks.drop i) := by
  intro n
  induction n with
  | zero => intro i bo fl _ _ _; rfl
  | succ n ih =>
    intro i bo fl hi hb hbl
    rw [decF]
    by_cases c : (i : Int) < ks.length
    · have ci : i < ks.length := by omega
      rw [if_pos c, drop_cons ci, decL, Int.toNat_natCast]
      by_cases c2 : ks.getD i 0 = 38
      · rw [if_pos c2, if_pos c2]
        rcases mail_L ci hb with ⟨e1, e2⟩ | ⟨cs, p, fl', e1, e2, hp, hp2, hf⟩
        · rw [e1, e2]
        · rw [e1, e2]
          dsimp only
          rw [ih p (if (p : Int) > i + 2 then some (p : Int) else none) fl' hp2 ?_ ?_]
          · by_cases d : i + 2 < p
            · rw [if_pos (by omega)]; simp [hf.mpr d]
            · rw [if_neg (by omega)]; simp only [reduceCtorEq, false_iff]; exact fun h => d (hf.mp h)
          · intro b hb2
            split at hb2
            · injection hb2; omega
            · cases hb2
      · rw [if_neg c2, if_neg c2]
        by_cases c3 : pyDirect (ks.getD i 0) = true
        · rw [if_pos c3, if_pos c3]
          have : (i : Int) + 1 = ((i + 1 : Nat) : Int) := by omega
          rw [this, ih (i + 1) bo false (by omega) ?_ ?_]
          · constructor
            · intro h; have := hbl _ h; omega
            · intro h; cases h
          · intro b h; have := hbl b h; omega
        · rw [if_neg c3, if_neg c3]
    · have e : ks.drop i = [] := List.drop_eq_nil_of_le (by omega)
      rw [if_neg c, e]; rfl
theorem decAll_L (ks : List Int) : decAll ks = decL ks.length false ks := by
  unfold decAll
  have := dec_L ks ks.length 0 none false (Nat.zero_le _) (by simp) (fun _ h => by cases h)
  simpa using this
/-- the law's reader and decode_mailbox -/
theorem v45 : valid 45 = false := by decide
theorem read_L (ks : List Int) : ∀ (n i : Nat) (bh : Int) (fl : Bool), i ≤ ks.length → (bh = (i : Int) ↔ fl = true) → bh ≤ i → lawReadF ks n i bh = decL n fl (ks.drop i) := by
  intro n
  induction n with
  | zero => intro i bo fl _ _ _; rfl
  | succ n ih =>
    intro i bh fl hi hb hbl
    rw [lawReadF]
    by_cases c : (i : Int) < ks.length
    · have ci : i < ks.length := by omega
      rw [if_pos c, drop_cons ci, decL, Int.toNat_natCast]
      by_cases c2 : ks.getD i 0 = 38
      · rw [if_pos (by rw [c2]; decide), if_pos c2, if_pos c2]
        have htw := drop_takeWhile (ks.drop (i + 1))
        rw [List.drop_drop] at htw
        have hle : ((ks.drop (i + 1)).takeWhile valid).length ≤ (ks.drop (i + 1)).length := (List.takeWhile_sublist _).length_le
        rw [List.length_drop] at hle
        have hval := takeWhile_valid (ks.drop (i + 1))
        have hnx : ∀ y, ks[i + 1 + ((ks.drop (i + 1)).takeWhile valid).length]? = some y → valid y = false := by
          intro y hy
          rw [← drop_head, htw] at hy
          have := List.head?_dropWhile_not valid (ks.drop (i + 1))
          rw [hy] at this; simpa using this
        unfold mailL
        rw [← htw, List.tail_drop, drop_head]
        by_cases c3 : findInt ks 45 i < 0
        · rw [if_pos c3]
          have hno := find_none c3
          have h45 : ¬ ks[i + 1 + ((ks.drop (i + 1)).takeWhile valid).length]? = some 45 := by
            intro h
            refine hno 45 ?_ rfl
            refine List.mem_of_getElem? (i := 1 + ((ks.drop (i + 1)).takeWhile valid).length) ?_
            rw [List.getElem?_drop, ← h, Nat.add_assoc]
          rw [if_neg (fun h => h45 h.2)]
          split
          · rfl
          · rename_i cs r' fl' hm
            exfalso
            split at hm
            · cases hm
            · split at hm
              · cases hm
              · split at hm
                · cases hm
                · first | (cases hm; done) | (rw [if_neg h45] at hm; cases hm)
        · rw [if_neg c3]
          obtain ⟨j, e1, e2, e3⟩ := find_some c3
          rw [e1]
          have hj0 : j ≠ 0 := by
            rintro rfl
            rw [Nat.add_zero, List.getElem?_eq_getElem ci] at e2
            rw [List.getD_eq_getElem?_getD, List.getElem?_eq_getElem ci] at c2
            simp at e2 c2; omega
          have hjl : i + j < ks.length := (List.getElem?_eq_some_iff.mp e2).1
          generalize hv : (ks.drop (i + 1)).takeWhile valid = v at *
          have hvj : v.length ≤ j - 1 := by
            refine Nat.le_of_not_lt fun hlt => ?_
            have h1 : (ks.drop (i + 1))[j - 1]? = some 45 := by rw [List.getElem?_drop, ← e2]; congr 1; omega
            have h2 : v[j - 1]? = some 45 := by
              rw [takeWhile_app (ks.drop (i + 1)), hv, List.getElem?_append_left hlt] at h1; exact h1
            have := hval 45 (List.mem_of_getElem? h2)
            rw [v45] at this; cases this
          have hslc : slc ks ((i : Int) + 1) ((i + j : Nat) : Int) = (ks.drop (i + 1)).take (j - 1) := by
            unfold slc
            rw [clipAt_in (by omega) (by omega), clipAt_in (by omega) (by omega)]
            rw [show ((i : Int) + 1).toNat = i + 1 by omega, Int.toNat_natCast, show i + j - (i + 1) = j - 1 by omega]
          by_cases c4 : ((i + j : Nat) : Int) = (i : Int) + 1
          · have hj1 : j = 1 := by omega
            subst hj1
            have hv0 : v = [] := List.length_eq_zero_iff.mp (by omega)
            subst hv0
            rw [if_pos c4, if_pos ⟨rfl, by simpa using e2⟩]
            dsimp only
            have e4 : ((i + 1 : Nat) : Int) + 1 = ((i + 2 : Nat) : Int) := by omega
            rw [e4, ih (i + 2) bh false (by omega) ⟨fun h => by omega, fun h => by cases h⟩ (by omega)]
            show Option.map _ (decL n false (ks.drop (i + 2))) = Option.map _ (decL n false (ks.drop (i + 1 + 0 + 1)))
            rfl
          · rw [if_neg c4]
            have h45 : v = [] → ¬ ks[i + 1 + v.length]? = some 45 := by
              rintro rfl h
              exact e3 1 (by omega) (by simpa using h)
            rw [if_neg (show ¬ (v = [] ∧ ks[i + 1 + v.length]? = some 45) from fun h => h45 h.1 h.2)]
            by_cases c5 : fl = true
            · rw [if_pos (hb.mpr c5).symm, if_pos c5]
            · rw [if_neg (fun h => c5 (hb.mp h.symm)), if_neg c5, hslc]
              by_cases c6 : v.length = j - 1
              · have hvn : v ≠ [] := by intro h; rw [h] at c6; simp at c6; omega
                have htk : (ks.drop (i + 1)).take (j - 1) = v := by
                  rw [← c6, ← hv]; exact take_len_takeWhile _
                have h45' : ks[i + 1 + v.length]? = some 45 := by rw [← e2]; congr 1; omega
                rw [if_neg hvn, htk, codes_run hval]
                cases runRes v with
                | none => rfl
                | some cs =>
                  dsimp only
                  rw [if_pos h45']
                  dsimp only
                  have e4 : ((i + j : Nat) : Int) + 1 = ((i + j + 1 : Nat) : Int) := by omega
                  have e5 : i + 1 + v.length + 1 = i + j + 1 := by omega
                  rw [e4, e5, ih (i + j + 1) _ true (by omega) ⟨fun _ => rfl, fun _ => rfl⟩ (Int.le_refl _)]
              · have hlt : v.length < j - 1 := by omega
                have hin : i + 1 + v.length < ks.length := by omega
                have hbad : ks[i + 1 + v.length]? = some ks[i + 1 + v.length] := List.getElem?_eq_getElem hin
                have hinv := hnx _ hbad
                have hcn : lawCodes ((ks.drop (i + 1)).take (j - 1)) = none := by
                  refine codes_bad (k := ks[i + 1 + v.length]) (List.mem_of_getElem? (i := v.length) ?_) fun hm => ?_
                  · rw [List.getElem?_take_of_lt hlt, List.getElem?_drop]; exact hbad
                  · rw [valid_mem.mpr hm] at hinv; cases hinv
                have h45' : ¬ ks[i + 1 + v.length]? = some 45 := by
                  intro h
                  exact e3 (1 + v.length) (by omega) (by rw [← Nat.add_assoc]; exact h)
                rw [hcn]
                by_cases c7 : v = []
                · rw [if_pos c7]
                · rw [if_neg c7]
                  cases runRes v with
                  | none => rfl
                  | some cs => dsimp only; rw [if_neg h45']
      · rw [if_neg c2, if_neg c2]
        have hd : pyDirect (ks.getD i 0) = true ↔ (32 ≤ ks.getD i 0 ∧ ks.getD i 0 ≤ 126) := by
          unfold pyDirect; simp only [Bool.and_eq_true, decide_eq_true_eq]
          exact ⟨fun h => h.1, fun h => ⟨h, c2⟩⟩
        by_cases c3 : 32 ≤ ks.getD i 0 ∧ ks.getD i 0 ≤ 126
        · rw [if_pos c3, if_pos (hd.mpr c3)]
          have : (i : Int) + 1 = ((i + 1 : Nat) : Int) := by omega
          rw [this, ih (i + 1) bh false (by omega) ⟨fun h => by omega, fun h => by cases h⟩ (by omega)]
        · rw [if_neg c3, if_neg (fun h => c3 (hd.mp h))]
    · have e : ks.drop i = [] := List.drop_eq_nil_of_le (by omega)
      rw [if_neg c, e]; rfl
theorem read_eq (ks : List Int) : lawRead ks = decAll ks := by
  rw [decAll_L]
  unfold lawRead
  have := read_L ks ks.length 0 (-1) false (Nat.zero_le _) ⟨fun h => by omega, fun h => by cases h⟩ (by omega)
  simpa using this

end
section
theorem sign_not45 : ∀ n : Nat, n < 64 → valid (pySign (n : Int)) = true := by decide +kernel
theorem sign_valid {v : Int} (h0 : 0 ≤ v) (h1 : v < 64) : valid (pySign v) = true := by
  have := sign_not45 v.toNat (by omega)
  rwa [Int.toNat_of_nonneg h0] at this
theorem vals_signs {ds : List Int} (h : InB 64 ds) : vals (ds.map pySign) = ds := by
  unfold vals
  rw [List.map_map]
  conv => rhs; rw [← List.map_id ds]
  refine List.map_congr_left fun d hd => ?_
  have := h d hd
  simp [(sign_val this.1 this.2).1]
/-- what is packed is read back -/
theorem ru_packed {us : List Int} (h : InB 65536 us) : ∃ less : Int, ruFold (packed us) = (us, 0, less) ∧ less < 6 := by
  obtain ⟨ds, less, e, hi, hl, hN, hT⟩ := packed_inv us h
  obtain ⟨us2, r2, m2, e2, hN2, r0, r1, m0, m1, hl2, hi2⟩ := ruV_inv ds hi
  have hru : ruFold (packed us) = (us2, r2, m2) := by unfold ruFold; rw [e, vals_signs hi]; exact e2
  have hm : m2 = less := by omega
  have hlen : us2.length = us.length := by omega
  subst hm
  rw [Int.toNat_natCast] at hN2 r1
  rw [hN] at hN2
  have q := dm (n := num 65536 us2) r0 r1
  rw [← hN2] at q
  have hp := p2 less
  have q1 : num 65536 us * 2 ^ less / 2 ^ less = num 65536 us := Int.mul_ediv_cancel _ (Int.ne_of_gt hp)
  have q2 : num 65536 us * 2 ^ less % 2 ^ less = 0 := Int.mul_emod_left _ _
  rw [q1] at q
  rw [q2] at q
  have hr2 : r2 = 0 := q.2.symm
  subst hr2
  have hus := num_inj us.length us us2 rfl hlen h hi2 q.1
  subst hus
  exact ⟨less, hru, by omega⟩
theorem decU_units : ∀ (ns : List Int), (∀ c ∈ ns, pyScalar c = true ∧ ¬ (32 ≤ c ∧ c ≤ 126)) → decU (pyUnits ns) = some ns := by
  intro ns
  induction ns with
  | nil => intro _; rfl
  | cons c r ih =>
    intro h
    have hc := h c List.mem_cons_self
    have ihr := ih (fun d hd => h d (List.mem_cons_of_mem _ hd))
    have hs := hc.1
    unfold pyScalar pyCode pySur at hs
    simp only [Bool.and_eq_true, decide_eq_true_eq, Bool.not_eq_true', decide_eq_false_iff_not] at hs
    have e : pyUnits (c :: r) = pyUnit c ++ pyUnits r := by simp [pyUnits]
    rw [e]
    unfold pyUnit
    by_cases hlt : c < 65536
    · rw [if_pos hlt, List.singleton_append, decU.eq_def]
      dsimp only
      have n1 : ¬ pyHigh c = true := by unfold pyHigh; simp only [decide_eq_true_eq]; omega
      have n2 : ¬ pyLow c = true := by unfold pyLow; simp only [decide_eq_true_eq]; omega
      have n3 : ¬ (pyDirect c = true ∨ c = 38) := by unfold pyDirect; simp only [Bool.and_eq_true, decide_eq_true_eq]; omega
      rw [if_neg n1, if_neg n2, if_neg n3, ihr]; rfl
    · rw [if_neg hlt, decU.eq_def]
      dsimp only [List.cons_append, List.nil_append]
      have n1 : pyHigh (55296 + (c - 65536) / 1024) = true := by unfold pyHigh; simp only [decide_eq_true_eq]; omega
      have n2 : pyLow (56320 + (c - 65536) % 1024) = true := by unfold pyLow; simp only [decide_eq_true_eq]; omega
      rw [if_pos n1, if_pos n2, ihr, Option.map_some]
      congr 2
      omega
/-- decode_mailbox of what is written, from the left -/
theorem packed_ne {us : List Int} (h : InB 65536 us) (hn : us ≠ []) : packed us ≠ [] := by
  obtain ⟨ds, less, e, hi, hl, hN, hT⟩ := packed_inv us h
  have hp := List.length_pos_iff.mpr hn
  intro he
  rw [e] at he
  have := congrArg List.length he
  simp only [List.length_map, List.length_nil] at this
  omega
theorem packed_valid {us : List Int} (h : InB 65536 us) : ∀ o ∈ packed us, valid o = true := by
  obtain ⟨ds, less, e, hi, hl, hN, hT⟩ := packed_inv us h
  intro o ho
  rw [e] at ho
  obtain ⟨d, hd, rfl⟩ := List.mem_map.mp ho
  exact sign_valid (hi d hd).1 (hi d hd).2
theorem takeWhile_all {l r : List Int} (h : ∀ o ∈ l, valid o = true) : (l ++ 45 :: r).takeWhile valid = l ∧ (l ++ 45 :: r).dropWhile valid = 45 :: r := by
  induction l with
  | nil => simp [v45]
  | cons x t ih =>
    have hx := h x List.mem_cons_self
    have := ih (fun o ho => h o (List.mem_cons_of_mem _ ho))
    rw [List.cons_append, List.takeWhile_cons, List.dropWhile_cons, hx]
    exact ⟨by simp [this.1], by simp [this.2]⟩
theorem mail_packed {run : List Int} {r : List Int} (hn : run ≠ []) (h : ∀ c ∈ run, pyScalar c = true ∧ ¬ (32 ≤ c ∧ c ≤ 126)) : mailL false (packed (pyUnits run) ++ 45 :: r) = some (run, r, true) := by
  have hb : ∀ c ∈ run, 0 ≤ c ∧ c ≤ 1114111 := fun c hc => scalar_in (h c hc).1
  have hu := units_in hb
  have hun : pyUnits run ≠ [] := by
    intro he
    have := decU_units run h
    rw [he] at this
    exact hn (Option.some.inj this).symm
  have hw := takeWhile_all (r := r) (packed_valid hu)
  have hpn := packed_ne hu hun
  obtain ⟨less, hru, hl⟩ := ru_packed hu
  unfold mailL
  rw [hw.1, hw.2, if_neg (fun hx => hpn hx.1), if_neg (by decide), if_neg hpn]
  have hrr : runRes (packed (pyUnits run)) = some run := by
    unfold runRes rdU
    rw [hru]
    dsimp only
    rw [if_pos (by simp only [Bool.and_eq_true, decide_eq_true_eq]; exact ⟨hl, trivial⟩)]
    exact decU_units run h
  rw [hrr]
  simp
noncomputable def Odd (c : Int) : Prop := pyScalar c = true ∧ ¬ (32 ≤ c ∧ c ≤ 126)
/-- what follows a run: nothing, or a plain sign -/
theorem dec_enc_L : ∀ (ns run : List Int), (∀ c ∈ ns, pyScalar c = true) → (∀ c ∈ run, Odd c) → ∀ (n : Nat) (fl : Bool), (fl = true → run = [] ∧ (∀ x r, ns = x :: r → 32 ≤ x ∧ x ≤ 126)) → (encR run ns).length ≤ n → decL n fl (encR run ns) = some (run ++ ns) := by
  intro ns
  induction ns with
  | nil =>
    intro run _ hr n fl hfl hn
    rw [encR, List.append_nil] at *
    unfold flush at *
    by_cases c : run = []
    · rw [if_pos c, c]; cases n <;> rfl
    · rw [if_neg c] at hn ⊢
      have hf : fl = false := by cases fl with | false => rfl | true => exact absurd (hfl rfl).1 c
      subst hf
      cases n with
      | zero => simp at hn
      | succ n =>
        show decL (n + 1) false (38 :: (packed (pyUnits run) ++ [45])) = _
        rw [decL, if_pos rfl, mail_packed c hr]
        dsimp only
        cases n <;> simp [decL]
  | cons x r ih =>
    intro run hs hr n fl hfl hn
    have hsr : ∀ c ∈ r, pyScalar c = true := fun c hc => hs c (List.mem_cons_of_mem _ hc)
    rw [encR] at hn ⊢
    by_cases c : 32 ≤ x ∧ x ≤ 126
    · rw [if_pos c] at hn ⊢
      have tail : ∀ (n : Nat) (fl : Bool), ((if x = 38 then [38, 45] else [x]) ++ encR [] r).length ≤ n → decL n fl ((if x = 38 then [38, 45] else [x]) ++ encR [] r) = some (x :: r) := by
        intro n fl hn
        by_cases d : x = 38
        · rw [if_pos d] at hn ⊢
          cases n with
          | zero => simp at hn
          | succ n =>
            show decL (n + 1) fl (38 :: 45 :: encR [] r) = _
            have hm : mailL fl (45 :: encR [] r) = some ([38], encR [] r, false) := by
              unfold mailL
              rw [List.takeWhile_cons, List.dropWhile_cons, v45]
              simp
            rw [decL, if_pos rfl, hm]
            dsimp only
            rw [ih [] hsr (fun _ h => nomatch h) n false (fun h => by cases h) (by simp only [List.length_append, List.length_cons, List.length_nil] at hn; omega), d]
            rfl
        · rw [if_neg d] at hn ⊢
          cases n with
          | zero => simp at hn
          | succ n =>
            show decL (n + 1) fl (x :: encR [] r) = _
            have hd : pyDirect x = true := by unfold pyDirect; simp only [Bool.and_eq_true, decide_eq_true_eq]; exact ⟨c, d⟩
            rw [decL, if_neg d, if_pos hd, ih [] hsr (fun _ h => nomatch h) n false (fun h => by cases h) (by simp only [List.length_append, List.length_cons, List.length_nil] at hn; omega)]
            rfl
      by_cases e : run = []
      · subst e
        exact tail n fl (by simpa [flush] using hn)
      · have hf : fl = false := by cases fl with | false => rfl | true => exact absurd (hfl rfl).1 e
        subst hf
        have hfl2 : flush run = 38 :: (packed (pyUnits run) ++ [45]) := by unfold flush; rw [if_neg e]; rfl
        rw [hfl2] at hn ⊢
        cases n with
        | zero => simp at hn
        | succ n =>
          have ea : (38 :: (packed (pyUnits run) ++ [45])) ++ (if x = 38 then [38, 45] else [x]) ++ encR [] r = 38 :: (packed (pyUnits run) ++ 45 :: ((if x = 38 then [38, 45] else [x]) ++ encR [] r)) := by simp
          rw [ea] at hn ⊢
          rw [decL, if_pos rfl, mail_packed e hr]
          dsimp only
          rw [tail n true (by simp only [List.length_append, List.length_cons, List.length_nil] at hn ⊢; omega)]
          simp
    · rw [if_neg c] at hn ⊢
      have := ih (run ++ [x]) hsr (fun y hy => (List.mem_append.mp hy).elim (hr y) (fun h => by rw [List.mem_singleton.mp h]; exact ⟨hs x List.mem_cons_self, c⟩)) n fl (fun h => absurd ((hfl h).2 x r rfl) c) hn
      rw [this]; simp
theorem dec_enc {ns : List Int} (h : ∀ c ∈ ns, pyScalar c = true) : decAll (encAll ns) = some ns := by
  rw [decAll_L, encAll_R]
  have := dec_enc_L ns [] h (fun _ h => nomatch h) (encR [] ns).length false (fun h => by cases h) (Nat.le_refl _)
  simpa using this
theorem encR_len (ns : List Int) : ∀ run : List Int, (encR run ns).length ≤ 6 * run.length + 3 + 12 * ns.length := by
  induction ns with
  | nil => intro run; have := flush_len run; rw [encR]; simp only [List.length_nil]; omega
  | cons x r ih =>
    intro run
    rw [encR]
    by_cases c : 32 ≤ x ∧ x ≤ 126
    · rw [if_pos c]
      have h1 := flush_len run
      have h2 := ih []
      have h3 : (if x = 38 then [38, 45] else [x] : List Int).length ≤ 2 := by split <;> simp
      simp only [List.length_append, List.length_cons, List.length_nil] at *
      omega
    · rw [if_neg c]
      have := ih (run ++ [x])
      simp only [List.length_append, List.length_cons, List.length_nil] at *
      omega
theorem encAll_len {ns : List Int} (h : ns.length ≤ 10) : (encAll ns).length ≤ 1000 := by
  rw [encAll_R]
  have := encR_len ns []
  simp only [List.length_nil] at this
  omega

end
section
section
variable {M : Model} {A : Around} {E : Value → Shared → Prop} {s : Shared} {env : Env}
theorem G_attempt {α : Type} {m : Sem α} {Q : Except Value α → Shared → Prop} (h : wpG M A m (fun a => Q (.ok a)) (fun e => Q (.error e)) s) :
    wpG M A m.attempt Q E s := fun Γ p hΓ a b => by rw [Sem.wp_attempt]; exact h Γ p hΓ a b
theorem G_Try {prog : Program} {w : World} {body orelse : List Stmt} {h₀ : ExceptHandler} {hs : List ExceptHandler} {pos : Pos} {Q : Flow → Shared → Prop}
    (h : wpG (model prog w) A (execs body env) (fun f s₁ => match f with | .next => wpG (model prog w) A (execs orelse env) Q E s₁ | f => Q f s₁)
      (fun e s₁ => wpAny (model prog w) A (noteFrame e env) (fun _ s₂ => wpAny (model prog w) A (setFlight e none) (fun _ s₃ => wpAny (model prog w) A (handleBy e env (h₀ :: hs)) Q E s₃) E s₂) E s₁) s) :
    wpG (model prog w) A (exec (.Try body (h₀ :: hs) orelse [] pos) env) Q E s := by
  rw [arm_exec_Try]
  refine G_bindA (wpAny_standAt ?_)
  unfold tryStmt
  simp only [List.isEmpty_nil, if_true, List.isEmpty_cons, Bool.false_and, Bool.false_eq_true, if_false]
  refine G_bind (G_attempt (G_mono h (fun f s₁ h₁ => ?_) fun e s₁ h₁ => ?_))
  · cases f <;> first | exact h₁ | exact G_pure h₁
  · exact G_bindA (wpAny_mono h₁ (fun _ _ h₂ => G_bindA (wpAny_mono h₂ (fun _ _ h₃ => G_of h₃) fun _ _ x => x)) fun _ _ x => x)
end
noncomputable def LeaveH (h₀ : Heap) (L : Addr) (m : Str → Option Value) (led : List (Addr × Obj)) (g : Heap) (R : Result → Shared → Prop) (v : Value) (s' : Shared) : Prop :=
  ∃ g' L' m' news', KtsTurn [L] g g' ∧ Fr g' L' s'.heap m' ∧ News g' L' s'.heap news' ∧ (Fr h₀ L s'.heap m → News h₀ L s'.heap (news' ++ led) → R (.ok (.ret v)) s')
theorem leaveH_ {h₀ g g' : Heap} {L L' : Addr} {m m' : Str → Option Value} {led news' : List (Addr × Obj)} {R : Result → Shared → Prop} {v : Value} {s' : Shared} (T : KtsTurn [L] g g') (F' : Fr g' L' s'.heap m') (N' : News g' L' s'.heap news')
    (k : Fr h₀ L s'.heap m → News h₀ L s'.heap (news' ++ led) → R (.ok (.ret v)) s') : LeaveH h₀ L m led g R v s' := ⟨g', L', m', news', T, F', N', k⟩
/-- the ground of a helper that catches: g is the heap at the call without the helper's own things, bs the same without the law's frame -/
structure GroundH (g bs : Heap) (L : Addr) (A : Around) (env : Env) : Prop where
  stays : bs.StaysIn g
  other : ∀ b o, g.get? b = some o → b ≠ L → bs.get? b = some o
  below : Below A bs [env] g
  frame : env.frame = some L
section
variable {prog : Program} {w : World} {A A₀ : Around} {s : Shared} {h₀ : Heap} {L : Addr} {m : Str → Option Value} {env : Env} {sub led : List (Addr × Obj)} {K : Frag} {p : Program} {loose : List Str} {mean : ExcName → Option Value} {mg mb : Str → Option Value}
  {R : Result → Shared → Prop} {name qual : Str} {params : Arguments} {body : List Stmt} {scope : Scope} {dV kV doc pm cdv ct oc : Value} {an od : Option Addr} {osl : Array (Option Value)} {f : Addr} {args : Args} {binds : List (Str × Value)}
theorem code_def_H (F : Fr h₀ L s.heap m) (X₀ : K.In h₀) (N : News h₀ L s.heap (sub ++ led)) (hdis : ∀ p ∈ led, ∀ q ∈ sub, p.1 ≠ q.1) (T : Top p loose mean mg mb h₀) (hA : A.frames = some [env]) (hf : env.frame = some L) (hke : env.scope.kind = .function)
    (ho : K.lookup f = some ⟨oc, od, .func (fnOf name qual params body scope dV kV doc pm an cdv ct), osl⟩) (hcd : codeIn K cdv qual = true) (hroom : A.depth < recursionLimit)
    (hbind : BindsTo s (fnOf name qual params body scope dV kV doc pm an cdv ct) args binds) (hloc : ∀ y ∈ binds, scope.names.lookup y.1 = some .local)
    (h : ∀ g bs L' h₁, GroundH g bs L A env → Fr g L' h₁ (fun y => binds.reverse.lookup y) → News g L' h₁ sub → K.In bs → Top p loose mean mg mb bs → (∀ p ∈ sub, p.1 < L') →
      wpG (model prog w) (A.deeper (envOf qual scope L' f cdv)) (execs body (envOf qual scope L' f cdv))
        (fun fl s' => LeaveH h₀ L m led g R (match fl with | .ret v => v | _ => .none) s')
        (fun e s' => wpAny (model prog w) (A.deeper (envOf qual scope L' f cdv)) (leaving (envOf qual scope L' f cdv) e) (fun _ s'' => R (.error e) s'') (fun e' s'' => R (.error e') s'') s')
        { s with heap := h₁, toks := s.toks + binds.length })
    (hco : scope.isCoroutine = false) (hgen : scope.isGenerator = false) (hk : scope.kind = .function)
    (hcell : ∀ x ∈ scope.names, x.2 ≠ .cell) : codeG (model prog w) A (.call (.ref f) args) R s := by
  have nm : ∀ b o, h₀.get? b = some o → b ∉ sub.map (·.1) := fun b o e q => by
    obtain ⟨p, hp, rfl⟩ := List.mem_map.mp q
    rw [(N p (List.mem_append_left _ hp)).2.2] at e; cases e
  have st : h₀.StaysIn (hideAll s.heap (sub.map (·.1))) := fun b o e => hideAll_get _ (F.keep b o e) (nm b o e)
  obtain ⟨oL, es, ep, hL, hLd, hLk, hLf⟩ := F.ns
  have nL : L ∉ sub.map (·.1) := fun q => by
    obtain ⟨p, hp, e⟩ := List.mem_map.mp q
    exact (N p (List.mem_append_left _ hp)).2.1 e
  have hLg := hideAll_get (sub.map (·.1)) hL nL
  have h0L : h₀.get? L = none := Heap.get?_none_of_le F.above
  have stb : h₀.StaysIn (hideAll (hideAll s.heap (sub.map (·.1))) [L]) := fun b o e => hideAll_get _ (st b o e) (fun q => by
    rw [List.mem_singleton.mp q, h0L] at e; cases e)
  have GH : GroundH (hideAll s.heap (sub.map (·.1))) (hideAll (hideAll s.heap (sub.map (·.1))) [L]) L A env := ⟨fun b o e => of_hideAll _ e, fun b o e q => hideAll_get _ e (fun z => q (List.mem_singleton.mp z)),
    ⟨hA, fun b o e => of_hideAll _ e, ⟨by rw [hke]; decide, ⟨L, oL, hf, hideAll_none _ List.mem_cons_self, hLg, fun vs q => by rw [hLd] at q; cases q⟩, trivial⟩⟩, hf⟩
  refine codeG_call_def (fd := fnOf name qual params body scope dV kV doc pm an cdv ct) (body := body) (binds := binds) hroom ((X₀.keeps F.keep) _ _ ho) rfl (T.nolimit.keeps F.keep) (codeRec_of (X₀.keeps F.keep) hcd) rfl hbind hcell hloc (fun h₁ hns hk₁ => ?_) hco hgen hk
  refine G_mono (h _ _ s.heap.objs.size h₁ GH ⟨hns, fun b o e => hk₁ b o (of_hideAll _ e), Nat.le_of_eq (hideAll_size _ _)⟩
    (fun p hp => ⟨hk₁ _ _ (N p (List.mem_append_left _ hp)).1, Nat.ne_of_lt (Heap.lt_size (N p (List.mem_append_left _ hp)).1), hideAll_none _ (List.mem_map_of_mem hp)⟩) (X₀.keeps stb) (T.keeps stb) (fun p hp => Heap.lt_size (N p (List.mem_append_left _ hp)).1)) (fun fl s' hl => ?_) fun _ _ y => y
  obtain ⟨g', L'', m', news', TT, F', N', k⟩ := hl
  obtain ⟨sl, hs⟩ := TT.up hLg
  have oth : ∀ b o, (hideAll s.heap (sub.map (·.1))).get? b = some o → b ≠ L → s'.heap.get? b = some o := fun b o e q => F'.keep _ _ (TT.other b o e (fun z => q (List.mem_singleton.mp z)))
  refine k ⟨⟨_, es, ep, F'.keep _ _ hs, hLd, hLk, hLf⟩, fun b o e => oth b o (st b o e) (fun z => by rw [z, h0L] at e; cases e), F.above⟩ fun q hq => ?_
  rcases List.mem_append.mp hq with hq | hq
  · refine ⟨(N' q hq).1, fun z => ?_, ?_⟩
    · have := (N' q hq).2.2; rw [z, hs] at this; cases this
    · cases e : h₀.get? q.1 with
      | none => rfl
      | some o =>
        have hne : q.1 ≠ L := fun z => by rw [z, h0L] at e; cases e
        have := TT.other q.1 o (st _ _ e) (fun z => hne (List.mem_singleton.mp z))
        rw [(N' q hq).2.2] at this; cases this
  · have hN := N q (List.mem_append_right _ hq)
    refine ⟨oth _ _ (hideAll_get _ hN.1 (fun z => ?_)) hN.2.1, hN.2⟩
    obtain ⟨r, hr, e⟩ := List.mem_map.mp z
    exact hdis q hq r hr e.symm
end
section
variable {prog : Program} {w : World} {A : Around} {E : Value → Shared → Prop} {s' : Shared} {g bs : Heap} {L L' a e C : Addr} {dd : Option Addr} {m' : Str → Option Value} {env : Env} {K : Frag} {p : Program} {loose : List Str} {mean : ExcName → Option Value} {mg mb : Str → Option Value}
  {name : Str} {scope : Scope} {cd : Value} {b₀ : Stmt} {suite : List Stmt} {pos : Pos} {rest : List ExceptHandler} {Q : Flow → Shared → Prop} {tt : Expr}
theorem reground (G : GroundH g bs L A env) {h₅ g₂ : Heap} (F : Fr g L' g₂ m') (hst : bs.StaysIn h₅) (hsm : g₂.UpToSlots h₅) : ∃ g', KtsTurn [L] g g' ∧ Fr g' L' h₅ m' ∧ GroundH g' bs L A env := by
  obtain ⟨_, ⟨L₁, oL, hf, hn, hL, hd⟩, _⟩ := G.below.frames
  obtain rfl : L = L₁ := Option.some.inj (G.frame.symm.trans hf)
  obtain ⟨T, S⟩ := kts_turn_at (h := h₅) (fs := [L]) (g := g) (fun b hb => by rw [List.mem_singleton.mp hb]; exact ⟨oL, hL⟩)
    (fun b o e q => hst _ _ (G.other b o e fun z => q (by rw [z]; exact List.mem_cons_self)))
    (fun b o e q => by
      rw [List.mem_singleton.mp q] at e ⊢
      rw [hL] at e; cases e
      exact hsm _ _ (F.keep _ _ hL) hd)
  have st : bs.StaysIn (ktsHeap h₅ [L] g) := fun b o e => T.other b o (G.stays b o e) (fun q => by rw [List.mem_singleton.mp q, hn] at e; cases e)
  refine ⟨_, T, ⟨hsm.ns F.ns, S, by rw [T.size]; exact F.above⟩, ⟨st, fun b o e q => ?_, ⟨G.below.stack, st, G.below.frames.of_keeps fun b o e _ => ?_⟩, G.frame⟩⟩
  · cases z : g.get? b with
    | none => rw [T.none_ b z] at e; cases e
    | some o' =>
      have := T.other b o' z (fun y => q (List.mem_singleton.mp y))
      rw [this] at e; cases e
      exact G.other b _ z q
  · obtain ⟨sl, hs⟩ := T.up e
    exact ⟨_, hs, rfl⟩
theorem UpToSlots.of_keeps' {h h' : Heap} (k : ∀ b o, h.get? b = some o → h'.get? b = some o) : h.UpToSlots h' := fun b o e _ => ⟨o.slots, k b o e⟩
theorem FlyD.keeps {base : Heap} {l : List Env} {cls fl : Value} {h h' : Heap} (X : FlyD base l e cls dd fl h) (k : ∀ b o, h.get? b = some o → h'.get? b = some o) : FlyD base l e cls dd fl h' := by
  obtain ⟨hkb, hen, hl, oe, vs, T, oT, ts, he, hc, hd, h1, hnT, hTe, hT, hdT, h3⟩ := X
  exact ⟨fun b o q => k b o (hkb b o q), hen, hl.of_keeps fun b o q _ => ⟨o, k b o q, rfl⟩, oe, vs, T, oT, ts, k _ _ he, hc, hd, h1, hnT, hTe, k _ _ hT, hdT, h3⟩
theorem catch_H (G : GroundH g bs L A env) (XB : K.In bs) (TB : Top p loose mean mg mb bs) (hfly : FlyD bs (envOf name scope L' a cd :: [env]) e (.ref C) dd .none s'.heap) (hg : ∃ g₂, Fr g L' g₂ m' ∧ g₂.UpToSlots s'.heap)
    (TT : KtsTest prog w K p loose mg mb name scope L' a cd (.ref C) tt true)
    (k : ∀ h' g', KtsTurn [L] g g' → Fr g' L' h' m' → GroundH g' bs L A env → FlyD bs (envOf name scope L' a cd :: [env]) e (.ref C) dd .none h' → s'.heap.UpToSlots h' →
      wpAny (model prog w) ((A.deeper (envOf name scope L' a cd)).mark (some (.ref e))) (execs (b₀ :: suite) (envOf name scope L' a cd)) Q E { s' with heap := h' })
    (hE : PassesOwnAt (model prog w) ((A.deeper (envOf name scope L' a cd)).mark (some (.ref e))) (A.deeper (envOf name scope L' a cd)) (envOf name scope L' a cd) E := by passes_own) :
    wpAny (model prog w) (A.deeper (envOf name scope L' a cd)) (noteFrame (.ref e) (envOf name scope L' a cd))
      (fun _ s₂ => wpAny (model prog w) (A.deeper (envOf name scope L' a cd)) (setFlight (.ref e) none) (fun _ s₃ =>
        wpAny (model prog w) (A.deeper (envOf name scope L' a cd)) (handleBy (.ref e) (envOf name scope L' a cd) (.ExceptHandler (some tt) none (b₀ :: suite) pos :: rest)) Q E s₃) E s₂) E s' := by
  obtain ⟨g₂, F₂, hu⟩ := hg
  refine note_nextD (Around.frames_deeper G.below.stack) rfl hfly fun h₄ X₄ u₄ => ?_
  refine flightD X₄ fun h₅ X₅ u₅ => ?_
  obtain ⟨g₅, T₅, F₅, G₅⟩ := reground G F₂ X₅.1 (hu.trans (u₄.trans u₅))
  have ty : Looks (model prog w) h₅ (typeOf (.ref e)) (.ref C) := by
    obtain ⟨_, _, _, oe, _, _, _, _, he, ⟨hc, _⟩, _⟩ := X₅
    rw [← hc]
    exact (Looks.ld he).andThen .now
  refine wpAny_handleBy_cons (codeAny_handlers_test (TT _ _ _ _ g₅ e m' F₅ (XB.keeps G₅.stays) (topRead_of (TB.keeps G₅.stays)) ty fun h' kp => ?_)) (by intro q; cases q)
  refine codeAny_handlers_suite ?_
  refine flightD (X₅.keeps kp) fun h₆ X₆ u₆ => ?_
  have uu : s'.heap.UpToSlots h₆ := u₄.trans (u₅.trans ((UpToSlots.of_keeps' kp).trans u₆))
  obtain ⟨g₆, T₆, F₆, G₆⟩ := reground G F₂ X₆.1 (hu.trans uu)
  exact wpAny_passesOwnAt hE (k h₆ g₆ T₆ F₆ G₆ X₆ uu)
end

end
section
/-- the contract of a helper that catches, called from the law's frame -/
noncomputable def CtrL (w : World) (f : Addr) (args : List Value) (sub led : List (Addr × Obj)) (d u : Nat) (R : Value → List (Addr × Obj) → Prop) : Prop :=
  ∀ (mean : ExcName → Option Value) (mg mb : Str → Option Value) (dp un : Nat) (gd : Option (List Code)) (cn : Str) (cs : Scope) (a : Addr) (ccd : Value) (cl : List (Str × Addr)) (h₀ : Heap) (L : Addr) (m : Str → Option Value) (s : Shared) (Q E : Value → Shared → Prop),
    Fr h₀ L s.heap m → (hd.heap_39 w.params).In h₀ → News h₀ L s.heap (sub ++ led) → (∀ p ∈ led, ∀ q ∈ sub, p.1 ≠ q.1) → Top hd.view_39 (looseW hd.view_39 [Str.ofString "UniError"]) mean mg mb h₀ → cs.kind = .function → dp + d < recursionLimit → un + u < cLine →
    (∀ v news' h' tk', R v news' → Fr h₀ L h' m → News h₀ L h' (news' ++ led) → Q v { s with heap := h', toks := tk' }) →
    wpG (model PySem.Challenge.rw_nt0010_01.row.prog w) (ktrTop dp un gd cn cs L a ccd cl []) (call (.ref f) args) Q E s
noncomputable def RHd (r : Option (List Int)) (v : Value) (led : List (Addr × Obj)) : Prop :=
  (.none = v ∧ r = none ∧ [] = led) ∨ ∃ l vs n cs, .ref l = v ∧ r = some cs ∧ IntsAre vs cs ∧ [(l, listOf vs.toArray n)] = led
theorem RHd.elim  {led : List (Addr × Obj)} {r : Option (List Int)} {v : Value} (h : RHd r v led) {M : Value → List (Addr × Obj) → Prop} (k1 : r = none → M .none []) (k2 : ∀ l vs n cs, r = some cs → IntsAre vs cs → M (.ref l) [(l, listOf vs.toArray n)]) : M v led := by
  rcases h with ⟨rfl, h, rfl⟩ | ⟨l, vs, n, cs, rfl, h1, h2, rfl⟩
  · exact k1 h
  · exact k2 l vs n cs h1 h2
section
theorem heard_ctr (w : World) (led : List (Addr × Obj)) (b : Array UInt8) (ks : List Int) (t : Tok) (hb : KBw.bInts b = ks) (hlen : ks.length ≤ 1000) :
    CtrL w 230 [.bytes b t] [] led 7 180 (RHd (decAll ks)) := by
  k_with_none
  k_with "call ref" => refine Stop.mk ?_
  have kMark := kstMark
  (unfold CtrL; k_fill; intros; rename_i hret; refine G_call ?_; k_dflt (refine' code_def_H ?k2 ?k3 ?k4 ?kd ?k5 ?kA ?kF ?kK ?k6 ?k7 ?k8 ?k9 ?kB ?_ ?c2 ?c3 ?c4 ?c5; (case kA => exact rfl); (case kF => exact rfl); (case kK => assumption); (case k2 => k_asm); (case k3 => k_asm); (case k4 => k_asm); (case kd => assumption); (case k5 => k_asm); (case k6 => k_is); (case k7 => k_is); (case k8 => ktr_room); (case k9 => exact BindsTo.of_eq rfl); (case c5 => decide); (case kB => exact locs rfl); (case c2 => exact rfl); (case c3 => exact rfl); (case c4 => exact rfl); k_whole; intro g' bs' L' h' GH' F' N' Xb' Tb' hLt'; (try dsimp only); have B' := GH'.below; have X' := Xb'.keeps GH'.stays; have T' := Tb'.keeps GH'.stays; (try k_lift B'); (try k_fold)))
  refine G_execs_cons (G_of ?_)
  k_steps
  refine G_execs_cons (G_Try ?_)
  refine G_execs_cons (G_of ?_)
  k_steps
  with_reducible refine Stop.out ?_
  refine' CtrX.use (decode_ctr w _ b ks _ hb hlen) ?k1 ?k2 ?k3 ?k4 ?k5 ?kK ?kd ?ku ?kr ?ke
  case k1 => k_asm
  case k2 => k_asm
  case k3 => k_asm
  case k4 => k_asm
  case k5 => k_asm
  case kK => first | exact rfl | assumption
  case kd => ktr_room
  case ku => ktr_units
  case kr =>
    intro v5 led5 h5 tk5 hR F5 N5
    revert N5
    apply RDec.elim hR
    clear hR
    intro l9 vs9 n9 cs hr hi9 hA9 N5
    dsimp only
    k_steps
    refine G_execs_nil ?_
    dsimp only
    refine G_execs_nil ?_
    dsimp only
    refine G_execs_cons (G_of ?_)
    k_steps
    (with_reducible rename Fr _ _ _ _ => lF')
    (with_reducible rename News _ _ _ _ => lN')
    exact leaveH_ KtsTurn.refl lF' lN' fun F9 N9 => hret _ _ _ _ (.inr ⟨_, _, _, _, rfl, hr, hi9, rfl⟩) F9 N9
  case ke =>
    intro e9 C9 dd9 h5 tk5 hR hfly hug
    obtain ⟨hC, hnone⟩ := hR
    subst hC
    dsimp only
    refine catch_H GH' Xb' Tb' hfly hug (test_name (K := hd.heap_39 w.params) (c := .ref 45) (.inl (by k_is)) (by kts_exm) rfl rfl rfl) ?_
    intro h6 g6 T6 F6 G6 X6 U6
    have N6 : News g6 L' h6 [] := News.nil
    k_steps
    dsimp only
    refine G_execs_cons (G_of ?_)
    k_steps
    (with_reducible rename Fr _ _ _ _ => lF')
    exact leaveH_ T6 lF' News.nil fun F9 N9 => hret _ _ _ _ (.inl ⟨rfl, hnone, rfl⟩) F9 N9
end

end
section
theorem ToldAt.up {v : Value} {dd : Option Addr} {h h' : Heap} (T : ToldAt v dd h) (U : h.UpToSlots h') : ToldAt v dd h' := by
  obtain ⟨d, es, n, sl, e1, e2, e3⟩ := T
  obtain ⟨sl', hs⟩ := U _ _ e2 (fun vs q => by cases q)
  exact ⟨d, es, n, sl', e1, hs, e3⟩
section
variable {prog : Program} {w : World} {A : Around} {E : Value → Shared → Prop} {s' : Shared} {g bs : Heap} {L L' a e C : Addr} {dd : Option Addr} {m' : Str → Option Value} {env : Env} {K : Frag} {p : Program} {loose : List Str} {mean : ExcName → Option Value} {mg mb : Str → Option Value}
  {name : Str} {scope : Scope} {cd : Value} {b₀ : Stmt} {suite : List Stmt} {pos : Pos} {rest : List ExceptHandler} {Q : Flow → Shared → Prop} {tt : Expr} {n : Str} {v : Value}
/-- what the suite of «except C as n» finds of the exception -/
noncomputable def Caught (h : Heap) (e C : Addr) (v : Value) : Prop := ∃ oe od es k sl, InstAt h e oe C (some od) ∧ od = { dictO es k with slots := sl } ∧ ToldEs es v
theorem catch_as_H (G : GroundH g bs L A env) (XB : K.In bs) (TB : Top p loose mean mg mb bs) (hfly : FlyD bs (envOf name scope L' a cd :: [env]) e (.ref C) dd .none s'.heap) (hg : ∃ g₂, Fr g L' g₂ m' ∧ g₂.UpToSlots s'.heap)
    (TT : KtsTest prog w K p loose mg mb name scope L' a cd (.ref C) tt true) (htold : ToldAt v dd s'.heap) (hm : ∃ y u, y ≠ Str.ofString "told" ∧ m' y = some u)
    (k : ∀ h' g' tk' (E' : Value → Shared → Prop), KtsTurn [L] g g' → Fr g' L' h' (fun y => if y = n then some (.ref e) else m' y) → GroundH g' bs L A env → Caught h' e C v →
      wpAny (model prog w) ((A.deeper (envOf name scope L' a cd)).mark (some (.ref e))) (execs (b₀ :: suite) (envOf name scope L' a cd))
        (fun f s₄ => wpAny (model prog w) (A.deeper (envOf name scope L' a cd)) (do bindName (envOf name scope L' a cd) n .none; unbindBehindTheSuite (envOf name scope L' a cd) n pos) (fun _ s₅ => Q f s₅) E s₄) E' { s' with heap := h', toks := tk' })
    (hl : (envOf name scope L' a cd).kindOf n = some .local) (hk : scope.kind = .function) :
    wpAny (model prog w) (A.deeper (envOf name scope L' a cd)) (noteFrame (.ref e) (envOf name scope L' a cd))
      (fun _ s₂ => wpAny (model prog w) (A.deeper (envOf name scope L' a cd)) (setFlight (.ref e) none) (fun _ s₃ =>
        wpAny (model prog w) (A.deeper (envOf name scope L' a cd)) (handleBy (.ref e) (envOf name scope L' a cd) (.ExceptHandler (some tt) (some n) (b₀ :: suite) pos :: rest)) Q E s₃) E s₂) E s' := by
  obtain ⟨g₂, F₂, hu⟩ := hg
  refine note_nextD (Around.frames_deeper G.below.stack) rfl hfly fun h₄ X₄ u₄ => ?_
  refine flightD X₄ fun h₅ X₅ u₅ => ?_
  obtain ⟨g₅, T₅, F₅, G₅⟩ := reground G F₂ X₅.1 (hu.trans (u₄.trans u₅))
  have ty : Looks (model prog w) h₅ (typeOf (.ref e)) (.ref C) := by
    obtain ⟨_, _, _, oe, _, _, _, _, he, ⟨hc, _⟩, _⟩ := X₅
    rw [← hc]
    exact (Looks.ld he).andThen .now
  refine wpAny_handleBy_cons (codeAny_handlers_test (TT _ _ _ _ g₅ e m' F₅ (XB.keeps G₅.stays) (topRead_of (TB.keeps G₅.stays)) ty fun h' kp => ?_)) (by intro q; cases q)
  refine codeAny_handlers_suite_as ?_
  refine flightD (X₅.keeps kp) fun h₆ X₆ u₆ => ?_
  refine hideGoal fun GG out => ?_
  have uu : s'.heap.UpToSlots h₆ := u₄.trans (u₅.trans ((UpToSlots.of_keeps' kp).trans u₆))
  obtain ⟨g₆, T₆, F₆, G₆⟩ := reground G F₂ X₆.1 (hu.trans uu)
  obtain ⟨d, es, kk, sl, e1, e2, e3⟩ := htold.up uu
  subst e1
  obtain ⟨_, _, _, oe, vs, _, _, _, he, ⟨hc, hd0⟩, hdat, _⟩ := X₆
  obtain ⟨oL, es', ep, hL, hLd, hLk, hLf⟩ := F₆.ns
  have neE : e ≠ L' := fun z => by rw [z, hL] at he; cases he; rw [hLd] at hdat; cases hdat
  have neD : d ≠ L' := fun z => by
    rw [z, hL] at e2; cases e2
    obtain ⟨y, u, hy, hu⟩ := hm
    obtain ⟨hs, tk, rfl⟩ := e3
    have hLd : PySem.Data.dict #[⟨hs, .str (Str.ofString "told") tk, v⟩] kk = .dict es' ep := hLd
    cases hLd
    have := hLf y
    rw [hu] at this
    unfold nsFind findBy at this
    simp [Value.isStr, hy] at this
    try exact absurd this.1.symm hy
  refine out (wpAny_storeName_local hl F₆.ns (fun h₇ hn₇ hs₇ => ?_) (by show (scope.kind == .class || (scope.kind == .module && L' != mainGlobals)) = false; rw [hk]; rfl))
  refine k _ g₆ _ _ T₆ (F₆.set hn₇ hs₇) G₆ ⟨oe, _, es, kk, sl, ⟨(hs₇.2 e neE).trans he, hc, ?_, ?_⟩, rfl, e3⟩
  · unfold notCls; rw [hdat]
  · rw [hd0]; exact (hs₇.2 d neD).trans e2
theorem sga_eq (a b : Value) : slotArgs "__getattribute__" 1 ⟨[a, b], []⟩ = pure (a, [b]) := by kernel_rfl
theorem aname_eq (n : Str) (t : Tok) : Builtin.ObjectAttr.attrName (.str n t) = pure n := by rfl
theorem get_told {expr : Bool} {Q : Value → Shared → Prop} (X : K.In s'.heap) (I : Caught s'.heap e C v) (hga : findIn K (.ref C) "__getattribute__" = some (some (.builtin "BaseException.__getattribute__"))) (hgh : findIn K (.ref C) "__getattr__" = some none)
    (hsub : subIn K (.ref C) (.type "BaseException") = some true) (hh : hasDictIn K C = true)
    (ha : findIn K (.ref C) (Str.ofString "told") = some none) (hv : handedIn v = true) (h : Q v { s' with toks := s'.toks + 1 }) : wpAny (model prog w) A (getAttr (.ref e) (Str.ofString "told") expr) Q E s' := by
  obtain ⟨oe, od, es, k, sl, I, rfl, hs, tk, rfl⟩ := I
  have hf : findObj K C (some { dictO #[⟨hs, .str (Str.ofString "told") tk, v⟩] k with slots := sl }) (Str.ofString "told") = some (.value v) := findObj_own hh ha (by rfl) (by
    unfold lookIn dictO
    simp [Value.isStr])
  obtain ⟨hh', g, d, t, os⟩ := s'
  have L0 := I.type (M := model prog w)
  have L1 := looks_findIn (M := model prog w) X hga
  have L2 := looks_findIn (M := model prog w) X hgh
  have L3 := looks_find (M := model prog w) X I hf
  have L4 : Looks (model prog w) hh' (isInstance (.ref e) (.type "BaseException")) true := I.type.andThen (looks_subIn X hsub)
  have hx0 : (expr && onTheHeap (Value.builtin "BaseException.__getattribute__")) = false := by cases expr <;> rfl
  have hx2 : (Value.builtin "BaseException.__getattribute__" == Value.builtin "object.__getattribute__") = false := by decide +kernel
  have kd : builtinKind "BaseException.__getattribute__" = some .slot := by decide +kernel
  have sp : splitId "BaseException.__getattribute__" = some ("BaseException", "__getattribute__") := by decide +kernel
  have hb := PySem.F.excAttr_ValueError.ga.bind (.ref e)
  unfold getAttr getAttrBy
  refine wpAny_bind (wpAny_mkText (wpAny_holding (wpAny_bind (L0.at (wpAny_bind (L1.at ?_))))))
  dsimp only
  rw [if_neg (by rw [hx2, Bool.and_false]; decide)]
  unfold getAttrByItsOwn hookBefore
  refine wpAny_bind ?_
  rw [if_pos (show onTheHeap (Value.ref C) = true from rfl)]
  refine L2.at ?_
  refine wpAny_bind (wpAny_attempt (wpAny_holding ?_))
  unfold callGetattribute
  rw [hx0, if_neg (by decide)]
  unfold boundAndCalled
  refine wpAny_bind (wpAny_of_eq hb ?_)
  show wpAny _ _ (call (.builtin "BaseException.__getattribute__") [.ref e, .str (Str.ofString "told") t]) _ _ _
  refine wpAny_call ?_
  refine codeAny_call_builtin (b := Builtin.«object.__getattribute__») PySem.F.excAttr_ValueError.ga.plain PySem.F.entry_bexc_ga ?_
  have ga : argsOk "BaseException.__getattribute__" ⟨[.ref e, .str (Str.ofString "told") t], []⟩ := PySem.F.args_bexc_ga _ _
  refine @check_slot (model prog w) _ _ ⟨hh', g, d, t + 1, os⟩ "BaseException.__getattribute__" "BaseException" "__getattribute__" (.ref e) [.str (Str.ofString "told") t] [] _ kd sp L4 ga ?_
  unfold Builtin.«object.__getattribute__»
  rw [sga_eq]
  refine wpAny_bind (wpAny_pure ?_)
  dsimp only
  refine wpAny_bind (wpAny_of_eq (aname_eq _ _) ?_)
  refine wpAny_bind (L0.at ?_)
  refine wpAny_bind (L3.at ?_)
  dsimp only
  refine wpAny_pure ?_
  show wpAny _ _ (handedOut v) _ _ _
  rw [handedOut_of hv]
  exact wpAny_pure h
end

end
section
section
theorem refused_ctr (w : World) (led : List (Addr × Obj)) (l : Addr) (vs : List Value) (ns : List Int) (n : Nat) (hi : IntsAre vs ns) (hn : ns.length ≤ 100) (x : Int) (hx : ns.find? (fun x => !pyScalar x) = some x) :
    CtrL w 237 [.ref l] [(l, listOf vs.toArray n)] led 7 180 (fun v led' => ∃ t, .int x t = v ∧ [] = led') := by
  k_with_none
  k_with "call ref" => refine Stop.mk ?_
  k_with "getAttr ref" => refine Stop.mk ?_
  have kMark := kstMark
  (unfold CtrL; k_fill; intros; rename_i hret; refine G_call ?_; k_dflt (refine' code_def_H ?k2 ?k3 ?k4 ?kd ?k5 ?kA ?kF ?kK ?k6 ?k7 ?k8 ?k9 ?kB ?_ ?c2 ?c3 ?c4 ?c5; (case kA => exact rfl); (case kF => exact rfl); (case kK => assumption); (case k2 => k_asm); (case k3 => k_asm); (case k4 => k_asm); (case kd => assumption); (case k5 => k_asm); (case k6 => k_is); (case k7 => k_is); (case k8 => ktr_room); (case k9 => exact BindsTo.of_eq rfl); (case c5 => decide); (case kB => exact locs rfl); (case c2 => exact rfl); (case c3 => exact rfl); (case c4 => exact rfl); k_whole; intro g' bs' L' h' GH' F' N' Xb' Tb' hLt'; (try dsimp only); have B' := GH'.below; have X' := Xb'.keeps GH'.stays; have T' := Tb'.keeps GH'.stays; (try k_lift B'); (try k_fold)))
  refine G_execs_cons (G_of ?_)
  k_steps
  refine G_execs_cons (G_Try ?_)
  refine G_execs_cons (G_Expr (G_Call ?_))
  k_steps
  refine G_callWith_K (K := hd.heap_39 w.params) (by k_is) ?_
  k_steps
  (with_reducible rename Fr _ _ _ _ => lF')
  (with_reducible rename News _ _ _ _ => lN')
  refine' CtrG.use (encode_ctr w _ l vs ns n List.mem_cons_self hi hn) ?k1 lF' ?k3 lN' ?k5 ?kK ?kd ?ku ?kr ?ke
  case k1 => k_asm
  case k3 => k_asm
  case k5 => k_asm
  case kK => first | exact rfl | assumption
  case kd => ktr_room
  case ku => ktr_units
  case kr =>
    rintro v5 led5 h5 tk5 ⟨hall, _⟩ F5 N5
    have := List.find?_some hx
    have := List.all_eq_true.mp hall x (List.mem_of_find?_eq_some hx)
    simp_all
  case ke =>
    intro e9 C9 dd9 h5 tk5 v5 hR hfly htold hug
    obtain ⟨hC, t5, y5, hv, hy⟩ := hR
    subst hC; subst hv
    rw [hx] at hy
    cases hy
    have hga : findIn (hd.heap_39 w.params) (.ref 57) "__getattribute__" = some (some (.builtin "BaseException.__getattribute__")) := by k_is
    have hgh : findIn (hd.heap_39 w.params) (.ref 57) "__getattr__" = some none := by k_is
    have hsb : subIn (hd.heap_39 w.params) (.ref 57) (.type "BaseException") = some true := by k_is
    have hha : hasDictIn (hd.heap_39 w.params) 57 = true := by k_is
    have hfa : findIn (hd.heap_39 w.params) (.ref 57) (Str.ofString "told") = some none := by k_is
    dsimp only
    refine catch_as_H GH' Xb' Tb' hfly hug (test_name (K := hd.heap_39 w.params) (c := .ref 57) (.inl (by k_is)) (by kts_exm) rfl rfl rfl) htold ⟨Str.ofString "text", _, by decide, by rfl⟩ ?_ rfl rfl
    intro h6 g6 tk6 E6 T6 F6 G6 I6
    have X6 := Xb'.keeps G6.stays
    have N6 : News g6 L' h6 [] := News.nil
    k_steps
    with_reducible refine Stop.out ?_
    refine get_told (K := hd.heap_39 w.params) (X6.keeps (Fr.keep F6)) I6 hga hgh hsb hha hfa rfl ?_
    k_steps
    refine G_execs_cons (G_of ?_)
    k_steps
    (with_reducible rename Fr _ _ _ _ => lF')
    exact leaveH_ T6 lF' News.nil fun F9 N9 => hret _ _ _ _ ⟨_, rfl, rfl⟩ F9 N9
end

end
section
namespace BL
open Builtin
theorem slot_bytes_join : Slot "bytes" "join" "bytes.join" :=
  .of (owner := "bytes") (n := "join") (by rw [typeLookup_type, builtinLookup_eq_fast]; kernel_rfl) (by decide +kernel) (by decide +kernel) (by decide +kernel)
    (by first | exact .inl (by decide +kernel) | exact .inr (by decide +kernel)) (by rw [isSubtype_type]; kernel_rfl)
theorem type_bytes_join : typeOf (.builtin "bytes.join") = pure (.type "method_descriptor") := by show builtinType _ = _; rw [builtinType_eq_fast]; kernel_rfl
theorem entry_bytes_join : entryFor table "bytes.join" = some Builtin.«bytes.join» := entryFor_of_tree (by kernel_rfl)
theorem args_bytes_join_2 (a b : Value) : argsOk "bytes.join" ⟨[a, b], []⟩ := by
  unfold argsOk; rw [signature?_of (id := "bytes.join") (n := ['n', 'i', 'o', 'j']) (o := ['s', 'e', 't', 'y', 'b']) (by kernel_rfl) FB.owner_bytes]; kernel_rfl
section
variable {prog : Program} {w : World} {A : Around} {E : Value → Shared → Prop} {s : Shared} {b c : Array UInt8} {t u v : Tok}
theorem m_join {M : Model} {pl : Sem Bool} {Q : Value × List Value → Shared → Prop} (h : Q (.builtin "bytes.join", [.bytes b t]) s) : wpAny M A (getMethod (.bytes b t) "join" pl) Q E s := by
  with_reducible exact KBd.method_of (.bytes b t) (typeIs_bytes _ _ _) slot_bytes_join type_bytes_join KBd.noRef h
theorem one_join (y : Value) : selfAndOne "bytes.join" ⟨[.bytes b t, y], []⟩ = pure (.bytes b t, y) := by kernel_rfl
end
section
variable {prog : Program} {w : World} {A : Around} {E : Value → Shared → Prop} {s : Shared} {t u v : Tok} {l : Addr}
theorem join_id : (s!"{Bytes.Kind.bytes.name}.join" : String) = "bytes.join" := by rfl
theorem taken_bytes {M : Model} {id : String} {c : Array UInt8} {Q : Option (Array UInt8 × Option Value) → Shared → Prop} (h : Q (some (c, none)) s) : wpAny M A (Bytes.takeBufferQuiet? id (.bytes c t) 0) Q E s := BA.take_eq h
theorem forIn_inv {M : Model} {β : Type} {f : Nat → β → Sem (ForInStep β)} (I : Nat → β → Shared → Prop) : ∀ (m i : Nat) (b : β) (s : Shared), I i b s →
    (∀ j b s, i ≤ j → j < i + m → I j b s → wpAny M A (f j b) (fun r s' => match r with | .yield b' => I (j + 1) b' s' | .done _ => False) E s) → wpAny M A (forIn (List.range' i m) b f) (fun b' s' => I (i + m) b' s') E s := by
  intro m
  induction m with
  | zero => intro i b s h _; rw [List.range'_zero, List.forIn_nil]; exact wpAny_pure h
  | succ m ih =>
    intro i b s h turn
    rw [List.range'_succ, List.forIn_cons]
    refine wpAny_bind (wpAny_mono (turn i b s (Nat.le_refl _) (by omega) h) (fun r s' h' => ?_) fun _ _ x => x)
    cases r with
    | done b' => exact h'.elim
    | yield b' =>
      have := ih (i + 1) b' s' h' (fun j b s hj hj2 => turn j b s (by omega) (by omega))
      rwa [show i + 1 + m = i + (m + 1) by omega] at this
theorem join_go {M : Model} {keep : List Value} {Q : Unit → Shared → Prop} : ∀ (taken : List (Value × Option Value)), (∀ p ∈ taken, p.2 = none) → Q () s → wpAny M A (Bytes.joinLetGo taken keep) Q E s := by
  intro taken
  induction taken with
  | nil => intro _ h; exact wpAny_pure h
  | cons p r ih =>
    intro hp h
    obtain ⟨x, wv⟩ := p
    have : wv = none := hp _ List.mem_cons_self
    subst this
    unfold Bytes.joinLetGo
    exact wpAny_bind (wpAny_letGo (ih (fun q hq => hp q (List.mem_cons_of_mem _ hq)) h))
theorem joined_size (parts : List (Array UInt8)) (h : ∀ p ∈ parts, p.size ≤ 10) : (Bytes.joined #[] parts).size ≤ 10 * parts.length := by
  have key : ∀ (l : List (Array UInt8 × Nat)) (acc : Array UInt8), (∀ p ∈ l, p.1.size ≤ 10) → (l.foldl (fun out (p, i) => (if i > 0 then out ++ #[] else out) ++ p) acc).size ≤ acc.size + 10 * l.length := by
    intro l
    induction l with
    | nil => intro acc _; simp
    | cons q r ih =>
      intro acc hq
      rw [List.foldl_cons]
      refine Nat.le_trans (ih _ (fun p hp => hq p (List.mem_cons_of_mem _ hp))) ?_
      have h2 := hq q List.mem_cons_self
      have h3 : ((if q.2 > 0 then acc ++ #[] else acc) ++ q.1).size ≤ acc.size + 10 := by
        rw [Array.size_append]; split <;> simp <;> omega
      simp only [List.length_cons]
      omega
  have := key parts.zipIdx #[] (fun p hp => h _ (by
    have := List.mem_zipIdx hp
    obtain ⟨_, _, e⟩ := this
    rw [e]; exact List.getElem_mem _))
  simpa [Bytes.joined] using this
theorem getD_in {its : List Value} {z : Nat} (hits : ∀ v ∈ its, ∃ b t, v = .bytes b t ∧ b.size ≤ z) {j : Nat} (hj : j < its.length) : ∃ b u, its.toArray.getD j .none = .bytes b u ∧ b.size ≤ z := by
  obtain ⟨b, u, e, hz⟩ := hits its[j] (List.getElem_mem hj)
  refine ⟨b, u, ?_, hz⟩
  rw [← e]
  simp [Array.getD, hj]
theorem no_heap {taken : List (Value × Option Value)} (hh : ∀ p ∈ taken, p.1.onHeap = false) : ¬ ((Bytes.Kind.bytes == Bytes.Kind.bytearray || taken.any fun x => x.1.onHeap) = true) := by
  intro h
  rw [show (Bytes.Kind.bytes == Bytes.Kind.bytearray) = false from rfl, Bool.false_or] at h
  obtain ⟨p, hp, e⟩ := List.any_eq_true.mp h
  rw [hh p hp] at e; cases e
theorem sum_size : ∀ (l : List (Array UInt8)), (∀ p ∈ l, p.size ≤ 10) → ∀ b : Nat, l.foldl (fun x y => x + y.size) b ≤ b + 10 * l.length := by
  intro l
  induction l with
  | nil => intro _ b; simp
  | cons p r ih =>
    intro h b
    rw [List.foldl_cons]
    have := ih (fun q hq => h q (List.mem_cons_of_mem _ hq)) (b + p.size)
    have := h p List.mem_cons_self
    simp only [List.length_cons]; omega
theorem meets_join {its : List Value} (hits : ∀ v ∈ its, ∃ b t, v = .bytes b t ∧ b.size ≤ 10) (hn : its.length ≤ 3) :
    Meets («bytes.join» ⟨[.bytes #[] t, .ref l], []⟩) (fun _ R s => s.heap.IsList l its.toArray ∧ ∀ b t' k, b.size ≤ 30 → R (.ok (.ret (.bytes b t'))) { s with toks := k }) := by
  refine .of_wp fun prog w A R s h => ?_
  refine hideGoal fun GG out => ?_
  obtain ⟨⟨o, ho, hc, k, hd⟩, h⟩ := h
  refine out ?_
  clear out GG
  have ty : Looks (model prog w) s.heap (typeOf (.ref l)) o.cls := (Looks.ld ho).andThen .now
  rw [hc] at ty
  unfold «bytes.join» Bytes.joinM
  dsimp only
  rw [join_id]
  refine wpAny_bind (wpAny_of_eq (one_join _) ?_)
  dsimp only
  rw [if_pos (by rfl)]
  unfold Bytes.joinItems
  refine wpAny_bind (wpAny_bind (ty.here ?_))
  rw [if_pos (by rfl)]
  refine wpAny_pure ?_
  refine wpAny_bind (wpAny_seqItems ho hd ?_)
  dsimp only
  rw [if_pos (by rfl)]
  rcases its with _ | ⟨x, _ | ⟨y, r⟩⟩
  · refine wpAny_bind (m := forIn (m := Sem) [:0] ((#[], []) : Array (Array UInt8) × List (Value × Option Value)) _) ?_
    rw [Std.Legacy.Range.forIn_eq_forIn_range']
    refine wpAny_mono (forIn_inv (fun j st s' => s' = s ∧ st = (#[], [])) 0 0 _ s ⟨rfl, rfl⟩ (fun j b s h1 h2 => by omega)) ?after0 fun _ _ x => x
    rintro _ s' ⟨rfl, rfl⟩
    dsimp only
    refine wpAny_bind (m := Bytes.payload (.bytes #[] t)) (wpAny_pure ?_)
    rw [if_neg (by decide)]
    refine wpAny_bind (m := mkBytes _) (wpAny_mkBytes ?_ (by decide))
    refine wpAny_bind (wpAny_holding (wpAny_point ?_))
    refine wpAny_bind (join_go [] (fun _ h => nomatch h) ?_)
    exact wpAny_pure ⟨_, rfl, h _ _ _ (by decide)⟩
  · obtain ⟨b, u, hx, hz⟩ := hits x List.mem_cons_self
    subst hx
    refine wpAny_bind (m := typeOf (.bytes b u)) (wpAny_pure ?_)
    rw [if_pos (by rfl)]
    exact wpAny_bind (wpAny_rule (wpAny_pure ⟨_, rfl, h b u s.toks (by omega)⟩))
  refine wpAny_bind (m := forIn (m := Sem) [:(x :: y :: r).toArray.size] ((#[], []) : Array (Array UInt8) × List (Value × Option Value)) _) ?_
  rw [Std.Legacy.Range.forIn_eq_forIn_range']
  refine wpAny_mono (forIn_inv (fun j st s' => s' = s ∧ st.1.toList.length = j ∧ (∀ p ∈ st.1.toList, p.size ≤ 10) ∧ (∀ p ∈ st.2, p.2 = none) ∧ ∀ p ∈ st.2, p.1.onHeap = false) _ 0 _ s ⟨rfl, rfl, (fun _ h => nomatch h), (fun _ h => nomatch h), fun _ h => nomatch h⟩ ?turn) ?after fun _ _ x => x
  case turn =>
    rintro j ⟨parts, taken⟩ s' hj hj2 hI
    refine hideGoal fun GG out => ?_
    have hss := hI.1
    have hl := hI.2.1
    have hp := hI.2.2.1
    have ht := hI.2.2.2.1
    have hh := hI.2.2.2.2
    clear hI
    subst hss
    obtain ⟨b, u, hb, hz⟩ := getD_in hits (j := j) (by simpa using hj2)
    refine out ?_
    clear out GG
    dsimp only at hl hp ht hh ⊢
    refine wpAny_bind (wpAny_seqItems ho hd ?_)
    dsimp only
    rw [if_neg (no_heap hh)]
    refine wpAny_bind ?_
    rw [hb]
    refine wpAny_holding (taken_bytes ?_)
    dsimp only
    refine wpAny_bind (wpAny_seqItems ho hd ?_)
    dsimp only
    rw [if_neg (by simp)]
    refine wpAny_pure ⟨rfl, by simp [hl], fun p hp' => ?_, fun p hp' => ?_, fun p hp' => ?_⟩
    · rw [Array.toList_push] at hp'
      rcases List.mem_append.mp hp' with h | h
      · exact hp p h
      · rw [List.mem_singleton.mp h]; exact hz
    · rcases List.mem_append.mp hp' with h | h
      · exact ht p h
      · rw [List.mem_singleton.mp h]
    · rcases List.mem_append.mp hp' with h | h
      · exact hh p h
      · rw [List.mem_singleton.mp h]; rfl
  case after =>
    rintro ⟨parts, taken⟩ s' hI
    refine hideGoal fun GG out => ?_
    have hss := hI.1
    have hl := hI.2.1
    have hp := hI.2.2.1
    have ht := hI.2.2.2.1
    have hh := hI.2.2.2.2
    clear hI
    subst hss
    refine out ?_
    clear out GG
    dsimp only at hl hp ht hh ⊢
    have hl3 : parts.toList.length ≤ 3 := by
      rw [hl]
      simp [Std.Legacy.Range.size] at hn ⊢
      omega
    have hj := joined_size parts.toList hp
    refine wpAny_bind (m := Bytes.payload (.bytes #[] t)) (wpAny_pure ?_)
    have hsz : sizeLine = 16777216 := by decide
    rw [if_neg (by
      have := sum_size parts.toList hp ((#[] : Array UInt8).size * (parts.size - 1))
      rw [← Array.foldl_toList]
      unfold Bytes.tooLong
      simp only [decide_eq_true_eq, List.size_toArray, List.length_nil, Nat.zero_mul] at this ⊢
      omega)]
    refine wpAny_bind (m := mkBytes _) (wpAny_mkBytes ?_ (by rw [hsz]; omega))
    refine wpAny_bind (wpAny_holding (wpAny_point ?_))
    refine wpAny_bind (join_go taken ht ?_)
    exact wpAny_pure ⟨_, rfl, h _ _ _ (by omega)⟩
theorem join_K {its : List Value} {Q : Value → Shared → Prop} (hl : s.heap.IsList l its.toArray) (hits : ∀ v ∈ its, ∃ b t, v = .bytes b t ∧ b.size ≤ 10) (hn : its.length ≤ 3) (h : ∀ b t' k, b.size ≤ 30 → Q (.bytes b t') { s with toks := k }) :
    wpAny (model prog w) A (call (.builtin "bytes.join") [.bytes #[] t, .ref l]) Q E s :=
  call_meets slot_bytes_join (typeIs_bytes _ _ _) entry_bytes_join (args_bytes_join_2 _ _) (meets_join hits hn) ⟨hl, h⟩
end
end BL

end
section
/-- a display of written ints, of written bytes: in one step -/
noncomputable def intsOf : List PySem.Expr → Option (List Int)
  | [] => some []
  | .Constant (.int k) _ _ :: r => (intsOf r).map (k :: ·)
  | _ => none
noncomputable def bytesOf : List PySem.Expr → Option (List (Array UInt8))
  | [] => some []
  | .Constant (.bytes k) _ _ :: r => (bytesOf r).map (k.toArray :: ·)
  | _ => none
inductive BytesAre : List Value → List (Array UInt8) → Prop
  | nil : BytesAre [] []
  | cons (b : Array UInt8) (t : Tok) {vs : List Value} {bs : List (Array UInt8)} (h : BytesAre vs bs) : BytesAre (.bytes b t :: vs) (b :: bs)
theorem BytesAre.length {vs : List Value} {bs : List (Array UInt8)} (h : BytesAre vs bs) : vs.length = bs.length := by induction h with | nil => rfl | cons b t h ih => simp [ih]
theorem BytesAre.mem {vs : List Value} {bs : List (Array UInt8)} (h : BytesAre vs bs) : ∀ v ∈ vs, ∃ b t, v = .bytes b t ∧ b ∈ bs := by
  induction h with
  | nil => intro v hv; cases hv
  | cons b t h ih =>
    intro v hv
    rcases List.mem_cons.mp hv with rfl | hv
    · exact ⟨b, t, rfl, List.mem_cons_self⟩
    · obtain ⟨c, u, e, hc⟩ := ih v hv
      exact ⟨c, u, e, List.mem_cons_of_mem _ hc⟩
section
variable {prog : Program} {w : World} {A : Around} {E : Value → Shared → Prop} {env : Env} {pos : Pos}
theorem spliced_ints : ∀ (elts : List PySem.Expr) (ks : List Int) (s : Shared) (Q : List Value → Shared → Prop), intsOf elts = some ks → (∀ vs tk, IntsAre vs ks → Q vs { s with toks := tk }) → wpAny (model prog w) A (spliced (backTo pos (starEach elts env))) Q E s := by
  intro elts
  induction elts with
  | nil => intro ks s Q h k; cases h; exact wpAny_items_nil (k [] s.toks .nil)
  | cons e r ih =>
    intro ks s Q h k
    unfold intsOf at h
    split at h
    · rename_i hc; cases hc
    · rename_i i kk pp r' hc
      cases hc
      obtain ⟨ks', h', rfl⟩ := Option.map_eq_some_iff.mp h
      refine wpAny_items_cons (wpAny_Constant_int (ih ks' _ _ h' fun vs tk hi => ?_))
      exact k _ tk (.cons _ _ hi)
    · cases h
theorem spliced_bytes : ∀ (elts : List PySem.Expr) (ks : List (Array UInt8)) (s : Shared) (Q : List Value → Shared → Prop), bytesOf elts = some ks → (∀ vs tk, BytesAre vs ks → Q vs { s with toks := tk }) → wpAny (model prog w) A (spliced (backTo pos (starEach elts env))) Q E s := by
  intro elts
  induction elts with
  | nil => intro ks s Q h k; cases h; exact wpAny_items_nil (k [] s.toks .nil)
  | cons e r ih =>
    intro ks s Q h k
    unfold bytesOf at h
    split at h
    · rename_i hc; cases hc
    · rename_i i kk pp r' hc
      cases hc
      obtain ⟨ks', h', rfl⟩ := Option.map_eq_some_iff.mp h
      refine wpAny_items_cons (wpAny_mono (Q := fun v s₁ => v = .bytes i.toArray s.toks ∧ s₁ = { s with toks := s.toks + 1 }) (fun _ _ _ => ⟨rfl, rfl⟩) (fun v s₁ h₁ => ?_) fun _ _ x => x)
      obtain ⟨rfl, rfl⟩ := h₁
      exact ih ks' _ _ h' fun vs tk hi => k _ tk (.cons _ _ hi)
    · cases h
variable {s : Shared} {h₀ : Heap} {L : Addr} {m : Str → Option Value} {news : List (Addr × Obj)} {Q : Value → Shared → Prop}
theorem newList_K {vs : List Value} {tk : Nat} (F : Fr h₀ L s.heap m) (N : News h₀ L s.heap news)
    (h : ∀ l h', Fr h₀ L h' m → News h₀ L h' ((l, listOf vs.toArray 0) :: news) → (∀ p ∈ news, p.1 < l) → Q (.ref l) { s with heap := h', toks := tk }) :
    Q (.ref s.heap.objs.size) { s with heap := s.heap.push { cls := .type "list", data := .seq vs.toArray }, toks := tk } := by
  have e0 : ∀ b o, s.heap.get? b = some o → (s.heap.push { cls := .type "list", data := .seq vs.toArray }).get? b = some o := fun b o e => Heap.get?_push_of_some _ e
  exact h _ _ (F.kept e0) (News.kept_cons F N e0 (Nat.le_refl _) (Heap.get?_push_size _ rfl)) (fun p hp => Heap.lt_size (N p hp).1)
theorem List_ints {elts : List PySem.Expr} {ks : List Int} (F : Fr h₀ L s.heap m) (N : News h₀ L s.heap news) (he : intsOf elts = some ks) (hl : ks.length ≤ 1000)
    (h : ∀ vs l h' tk, IntsAre vs ks → Fr h₀ L h' m → News h₀ L h' ((l, listOf vs.toArray 0) :: news) → (∀ p ∈ news, p.1 < l) → Q (.ref l) { s with heap := h', toks := tk }) : wpAny (model prog w) A (eval (.List elts pos) env) Q E s :=
  wpAny_List (spliced_ints elts ks s _ he fun vs tk hi => ⟨by rw [hi.length, sizeLine_eq]; omega, newList_K (s := s) (tk := tk) F N fun l h' F' N' hlt => h vs l h' tk hi F' N' hlt⟩)
theorem List_bytes {elts : List PySem.Expr} {ks : List (Array UInt8)} (F : Fr h₀ L s.heap m) (N : News h₀ L s.heap news) (he : bytesOf elts = some ks) (hl : ks.length ≤ 1000)
    (h : ∀ vs l h' tk, BytesAre vs ks → Fr h₀ L h' m → News h₀ L h' ((l, listOf vs.toArray 0) :: news) → (∀ p ∈ news, p.1 < l) → Q (.ref l) { s with heap := h', toks := tk }) : wpAny (model prog w) A (eval (.List elts pos) env) Q E s :=
  wpAny_List (spliced_bytes elts ks s _ he fun vs tk hi => ⟨by rw [hi.length, sizeLine_eq]; omega, newList_K (s := s) (tk := tk) F N fun l h' F' N' hlt => h vs l h' tk hi F' N' hlt⟩)
end

end
section
section
variable {prog : Program} {w : World} {A : Around} {E : Value → Shared → Prop} {s : Shared} {env : Env} {M : Model}
theorem G_BoolOp_one {op : BoolOp} {e : PySem.Expr} {pos : Pos} {Q : Value → Shared → Prop} (h : wpG M A (eval e env) Q E s) : wpG M A (eval (.BoolOp op [e] pos) env) Q E s := h
theorem G_BoolOp_and {e₁ e₂ : PySem.Expr} {rest : List PySem.Expr} {pos : Pos} {Q : Value → Shared → Prop}
    (h : wpG M A (eval e₁ env) (fun v s₁ => wpAny M A (truthy v) (fun c s₂ => if c then wpG M A (eval (.BoolOp .And (e₂ :: rest) pos) env) Q E s₂ else Q v s₂) E s₁) E s) :
    wpG M A (eval (.BoolOp .And (e₁ :: e₂ :: rest) pos) env) Q E s := by
  show wpG M A (do
    let v ← eval e₁ env
    standAt pos
    let c ← holding [v] (truthy v)
    match BoolOp.And, c with
    | .And, false | .Or, true => pure v
    | _, _ => boolOp pos .And (eval e₂ env :: evalEach rest env)) Q E s
  refine G_bind (G_mono h (fun v s₁ h₁ => G_bindA (wpAny_standAt (G_bindA (wpAny_holding (wpAny_mono h₁ (fun c s₂ h₂ => ?_) fun _ _ x => x))))) fun _ _ x => x)
  cases c with
  | false => exact G_pure h₂
  | true => exact h₂
theorem G_Compare1 {l r : PySem.Expr} {op : CmpOp} {pos : Pos} {Q : Value → Shared → Prop}
    (h : wpG M A (eval l env) (fun a s₁ => wpG M A (eval r env) (fun b s₂ => wpAny M A (compareOp op a b) Q E s₂) E s₁) E s)
    (hm : behindInMarks op r = false) : wpG M A (eval (.Compare l [op] [r] pos) env) Q E s := fun Γ p hΓ x y => by
  simp only [eval_Compare1, markedBehindIn_of_false hm, Sem.wp_bind', Sem.wp_holding, Sem.wp_cmd_standAt, Sem.wp_operate]
  exact Sem.wp_mono M Γ _ (fun a p₁ s₁ h₁ => Sem.wp_mono M Γ _ (fun b _ s₂ h₂ => h₂ Γ _ hΓ)
    (fun _ _ _ h' => h') _ _ (h₁ Γ p₁ hΓ x y)) (fun _ _ _ h' => h') _ _ (h Γ p hΓ x y)
theorem G_Or_consJ {h₀ : Heap} {L : Addr} {m : Str → Option Value} {led : List (Addr × Obj)} {x : PySem.Expr} {rest : List PySem.Expr} {Q : Bool → Shared → Prop} (_F : Fr h₀ L s.heap m) (_N : News h₀ L s.heap led)
    (h : wpG M A (isTrue x env (eval x env)) (Joined h₀ L m led s false) E s)
    (k : ∀ h' tk, Fr h₀ L h' m → News h₀ L h' led → wpG M A (allTrue .Or rest env) Q E { s with heap := h', toks := tk }) : wpG M A (allTrue .Or (x :: rest) env) Q E s := by
  refine G_Or_cons (G_mono h (fun b s₂ h₂ => ?_) fun _ _ z => z)
  obtain ⟨rfl, h', tk, rfl, F, N⟩ := h₂
  exact k h' tk F N
end
theorem encAll_len2 {ns : List Int} (h : ns.length ≤ 5) : (encAll ns).length ≤ 63 := by
  rw [encAll_R]
  have := encR_len ns []
  simp only [List.length_nil] at this
  omega
theorem bent_size2 {b : Array UInt8} {i j k l : Option Int} (h : b.size ≤ 63) : (KBy.picked b i j ++ KBy.picked b k l).size ≤ 200 := by
  have h1 := KBc.size_picked_le b i j
  have h2 := KBc.size_picked_le b k l
  rw [Array.size_append]; omega
theorem bent_size3 {b f : Array UInt8} {i j k l : Option Int} (h : b.size ≤ 63) (hf : f.size ≤ 1) : (KBy.picked b i j ++ f ++ KBy.picked b k l).size ≤ 200 := by
  have h1 := KBc.size_picked_le b i j
  have h2 := KBc.size_picked_le b k l
  rw [Array.size_append, Array.size_append]; omega
noncomputable def lotsK : List (Array UInt8) := [[38, 65, 79, 107, 45], [38, 65, 79, 108, 45], [38, 50, 68, 51, 101, 65, 65, 45], [38, 50, 68, 48, 45], [38, 51, 103, 65, 45], [38, 65, 71, 69, 45], [38, 45], [38, 65, 45], [38, 65, 79, 107, 65, 54, 81, 45], [38, 65, 79, 47, 45], [97], [38], [45], [38, 65, 67, 89, 45], [38, 65, 67, 65, 45], [38, 65, 72, 52, 45], [38, 65, 72, 56, 45], [38, 65, 66, 56, 45], [10], [31], [126], [32]].map (·.toArray)
theorem lots_size : ∀ b ∈ lotsK, b.size ≤ 10 := by decide
theorem lots_len : lotsK.length = 22 := by rfl
theorem read_1 : lawRead [38, 65, 71, 69, 45] = none := by decide +kernel
theorem read_2 : lawRead [38, 65, 79, 107, 45] = some [233] := by decide +kernel
theorem dec_1 : decAll [38, 65, 71, 69, 45] = none := by rw [← read_eq]; exact read_1
theorem bints_len {b : Array UInt8} {n : Nat} (h : b.size ≤ n) : (KBw.bInts b).length ≤ n := by have := KBw.ints_length b; omega
theorem elimAt {vs : List Value} {ns : List Int} {j : Nat} {v : Value} (hi : IntsAre vs ns) (hj : vs[j]? = some v) {M : Value → Prop} (k : ∀ y ty, ns[j]? = some y → M (.int y ty)) : M v := by
  obtain ⟨y, ty, rfl, hy⟩ := IntsAre.at hi j v hj
  exact k y ty hy

end
section
section
variable {prog : Program} {w : World} {A : Around} {R : Result → Shared → Prop} {s : Shared} {name : Str} {params : Arguments} {body : List Stmt} {scope : Scope} {pm cd doc : Value} {a : Addr} {o : Obj} {args : List Value} {binds : List (Str × Value)}
theorem G_enterW {M : Model} {f : Value} {pos : List Value} {kw : List (Str × Value)} {c : ClaimW} {cl : Str → Option Addr} {mean : ExcName → Option Value} {wargs : List WData} {s₁ : Shared}
    (h : codeG M A (.call f ⟨pos, kw⟩) (GoodW c cl mean wargs s₁) s) : wpG M A (PySem.call f pos kw) (fun v s' => GoodWG c cl mean wargs s₁ (.ok (.ret v)) s') (fun e s' => GoodWG c cl mean wargs s₁ (.error e) s') s :=
  G_call (codeG_mono h fun res s' g => by
    have g' := GoodW.toG g
    rcases g.1 with ⟨v, _, _, rfl, _⟩ | ⟨e, _, _, rfl, _⟩ <;> exact g')
theorem callG_cellsN
    (hroom : A.depth < recursionLimit) (ho : s.heap.get? a = some o) (hdata : o.data = .func (Calls.docDef name params body scope pm cd doc)) (hlim : s.heap.NoLimit) (hcd : s.heap.CodeRec cd name)
    (hbind : bindArgs (Calls.docDef name params body scope pm cd doc) ⟨args, []⟩ = pure binds)
    (hkind : ∀ x ∈ binds, scope.names.lookup x.1 = some .local ∨ (scope.names.lookup x.1 = some .cell ∧ ((cellsFrom (s.heap.objs.size + 1) scope.names []).lookup x.1).isSome = true))
    (hnd : ((cellsFrom 0 scope.names []).map (·.1)).Nodup)
    (h : ∀ h₁ tk cells, Fr s.heap s.heap.objs.size h₁ (bindL (envOfC name scope s.heap.objs.size a cd).kindOf binds fun _ => none) → News s.heap s.heap.objs.size h₁ cells →
      CellsAre (bindC (envOfC name scope s.heap.objs.size a cd).kindOf binds fun _ => none) (cellsFrom (s.heap.objs.size + 1) scope.names []) cells →
      wpG (model prog w) (A.deeper (envOfC name scope s.heap.objs.size a cd)) (execs body (envOfC name scope s.heap.objs.size a cd))
        (fun f s' => R (.ok (.ret (match f with | .ret v => v | _ => .none))) s')
        (fun e s' => wpAny (model prog w) (A.deeper (envOfC name scope s.heap.objs.size a cd)) (leaving (envOfC name scope s.heap.objs.size a cd) e)
          (fun _ s'' => R (.error e) s'') (fun e' s'' => R (.error e') s'') s')
        { s with heap := h₁, toks := tk })
    (hco : scope.isCoroutine = false := by rfl) (hgen : scope.isGenerator = false := by rfl) (hk : scope.kind = .function := by rfl) :
    codeG (model prog w) A (.call (.ref a) ⟨args, []⟩) R s := by
  refine codeG_call_function (fd := Calls.docDef name params body scope pm cd doc) hroom ho hdata hco hgen rfl hcd ?_
  rw [hbind]
  refine wpAny_pure (wpAny_newFunctionEnv_cells hk hkind fun env he s' x => ?_)
  subst he
  refine ⟨hlim.keeps x.toInCall.keep, codeG_func ?_⟩
  obtain ⟨h₁, tk, rfl, _⟩ := x.done
  obtain ⟨cells, N, Y⟩ := Cl.news (h₀ := s.heap) (Nat.le_refl _) fun n c hm => ⟨x.cell n c (lookup_of_mem_nodup (cellsFrom_names scope.names 0 (s.heap.objs.size + 1) [] [] rfl ▸ hnd) hm), x.above n c hm⟩
  exact h h₁ tk cells ⟨x.toInCall.ns, x.toInCall.keep, x.toInCall.fresh⟩ N Y
end
noncomputable def poolK : List Int := [97, 38, 45, 32, 126, 127, 10, 233, 8364, 65535, 65536, 128512, 1114111, 43, 44, 65, 31]
noncomputable def oddK : List Int := [55296, 57343, 1114112, -1]
theorem pool_sc : ∀ c ∈ poolK, pyScalar c = true := by decide
theorem odd_bad : ∀ c ∈ oddK, pyScalar c = false := by decide
theorem find_odd {ts : List Int} {y z : Int} (h : ∀ c ∈ ts, pyScalar c = true) (hy : pyScalar y = false) : (ts ++ [y, z]).find? (fun x => !pyScalar x) = some y := by
  rw [List.find?_append, List.find?_eq_none.mpr (fun c hc => by simp [h c hc])]
  simp [hy]
theorem bints_in {b : Array UInt8} {x : Int} (h : x ∈ KBw.bInts b) : 0 ≤ x ∧ x < 256 := by
  obtain ⟨c, _, rfl⟩ := List.mem_map.mp (show x ∈ b.toList.map (fun c => ((c.toNat : Nat) : Int)) from h)
  have := c.toNat_lt
  omega
/-- what is kept of the state behind «bent» -/
noncomputable def BentSt (s₁ : Shared) (L : Addr) (led : List (Addr × Obj)) (s' : Shared) : Prop := ∃ (bb : Array UInt8) (tbb : Tok) (u : Str → Option Value) (h' : Heap) (tk' : Nat), s' = { s₁ with heap := h', toks := tk' } ∧ Fr s₁.heap L h' (fun z => if z = Str.ofString "bent" then some (.bytes bb tbb) else u z) ∧
  News s₁.heap L h' led ∧ bb.size ≤ 200
theorem pool_in : ∀ c ∈ poolK, 0 ≤ c ∧ c ≤ 1114111 := by decide
theorem fr_cast {h₀ h : Heap} {L : Addr} {m m' : Str → Option Value} (F : Fr h₀ L h m) (e : m = m') : Fr h₀ L h m' := e ▸ F
section
theorem law_holds : PySem.Challenge.rw_nt0010_01.Holds := by
  k_with_none
  k_with "call ref" => refine Stop.mk ?_
  k_with "eval ListComp" => (k_here; k_dflt (refine LCg.ListComp_U (F₀ := by k_asm) (by with_unfolding_all rfl) (by decide) (by rfl) (by decide) (by rfl) ?_))
  k_with "CompSrc" => refine Stop.mk ?_
  k_with "getMethod bytes" => (refine BL.m_join ?_)
  k_with "call builtin:bytes.join" => refine Stop.mk ?_
  refine hd ?_
  k_fill
  intro w s₀ s₁ mg mb G Y fa o pm cd doc dV kV ho hd' hcd hD hmg hg args vals as hpre hlay hrd hwl hlo
  have KX := kIn_of Y
  refine Ground.open G ?_
  intro T B D TE TW
  clear B D TE TW
  wrow_args hpre hlay hrd hwl hlo
  refine G_enterW ?_
  w_top on
  have K0 : Below callerA s₁.heap [] s₁.heap := below_caller _
  have he := Dflts.none hD rfl
  subst he
  have he := Dflts.noKw hD
  subst he
  refine callG_cellsN (by decide) ho (fd_plain hd') (Top.nolimit T) hcd rfl (kinds_of (by kinds_ok)) (by decide) fun h₁ tk₁ cells F N0 X0 => ?_
  k_cells X0
  rename_i oa ob oc da db dc
  replace da : oa.data = .cell none := da.trans (by with_unfolding_all rfl)
  replace db : ob.data = .cell none := db.trans (by with_unfolding_all rfl)
  replace dc : oc.data = .cell none := dc.trans (by with_unfolding_all rfl)
  dsimp only at F N0
  clear hd' hcd hD ho G Y hmg
  k_drop
  (try simp only [List.cons_append, List.nil_append] at N0)
  replace F := fr_cast F (m' := fun y => if y = Str.ofString "script" then some _ else none) (by with_unfolding_all rfl)
  have kMark := kstMark
  generalize s₁.heap.objs.size = L at *
  refine hideG fun Q' E' hQ' => ?_
  refine G_execs_cons ?_
  refine G_of ?_
  k_steps
  with_reducible refine Stop.out ?_
  (with_reducible rename Fr _ _ _ _ => lF')
  (with_reducible rename News _ _ _ _ => lN')
  (with_reducible rename Heap.IsList _ _ _ => hIL)
  (with_reducible rename IntsAre _ _ => hI)
  refine' deck_ctr0 w _ _ _ _ hI (by omega) _ _ _ _ _ _ _ _ _ _ _ _ _ _ _ _ _ _ _ _ K0 lF' KX lN' T rfl ?kd ?ku hIL ?kr
  case kd => ktr_room
  case ku => ktr_units
  clear lF' lN' hIL hI
  intro v5 led5 h5 tk5 hR F5 N5
  revert N5
  apply RDeck.elim hR
  clear hR
  intro D lc oD ol hDk hDlc hAD hAc N5
  dsimp only
  simp only [AllLt, and_true] at hAD hAc
  k_steps
  (with_reducible rename Fr _ _ _ _ => lF')
  (with_reducible rename News _ _ _ _ => lN')
  refine G_execs_cons ?_
  refine G_of ?_
  refine wpAny_Assign_Name ?_
  with_reducible refine List_ints (ks := poolK) lF' lN' ?he ?hl ?_
  case he => kernel_rfl
  case hl => decide
  clear lF' lN'
  intro pvs lp h6 tk6 hpv F6 N6 hlp
  replace hlp := allLt_of hlp
  simp only [AllLt, and_true] at hlp
  dsimp only
  k_steps
  refine G_execs_cons ?_
  refine G_of ?_
  k_steps
  with_reducible refine Stop.out ?_
  (with_reducible rename Fr _ _ _ _ => lF')
  (with_reducible rename News _ _ _ _ => lN')
  rename_i hK oK dK hP oP dP
  have hw : ∀ p ∈ (lp, listOf pvs.toArray 0) :: (L + 1 + 1 + 1, oa) :: (L + 1 + 1, oP) :: [(L + 1, oK)], p.1 ≠ D ∧ p.1 ≠ lc := ?hw
  case hw =>
    refine List.forall_mem_cons.mpr ⟨⟨by k_ne, by k_ne⟩, List.forall_mem_cons.mpr ⟨⟨by k_ne, by k_ne⟩, List.forall_mem_cons.mpr ⟨⟨by k_ne, by k_ne⟩, List.forall_mem_cons.mpr ⟨⟨by k_ne, by k_ne⟩, List.forall_mem_nil _⟩⟩⟩⟩
  have N1 := cb_drop (news := (D, oD) :: (lc, ol) :: (lp, listOf pvs.toArray 0) :: (L + 1 + 1 + 1, oa) :: (L + 1 + 1, oP) :: [(L + 1, oK)]) lN' (by (try dsimp only); (repeat refine sub_cons ?_ ?_); all_goals first | exact sub_nil | k_memK | ((repeat refine sub_skip ?_); first | exact fun _ hp => hp | exact fun _ hp => List.mem_append_left _ hp | exact fun _ hp => List.mem_append_right _ hp))
  refine' Ctr.use (draw_ctr w _ D lc oD ol 6 _ hDk (by decide) (by decide) (by decide) hDlc (fun p hp => (hw p hp).1) (fun p hp => (hw p hp).2)) K0 lF' KX N1 T rfl ?kd2 ?ku2 ?kr2
  case kd2 => ktr_room
  case ku2 => ktr_units
  clear lF' lN' N1
  intro v8 led8 h8 tk8 hR F8 N8
  revert N8
  apply RDraw.elim hR
  clear hR
  intro x tx oD2 ol2 hx0 hx1 hD2 N8
  dsimp only
  k_steps
  with_reducible refine Stop.out ?_
  have hpl := hpv.length
  have hp17 : poolK.length = 17 := rfl
  refine LCg.CompSrc.range (n := x.toNat) (by rfl) (by k_asm) (by k_asm) (by with_reducible assumption) (small_one (by omega) (by omega) (by omega) (by omega)) (rangeSize_to hx0) (by rw [sizeLine_eq]; omega) ?_
  intro g2
  refine comp_st (σ := Obj × Obj) (fun c => (D, c.1) :: (lc, c.2) :: (lp, listOf pvs.toArray 0) :: (L + 1 + 1 + 1, oa) :: (L + 1 + 1, oP) :: [(L + 1, oK)]) (fun i c ys => DeckIs w (1 + i) lc c.1 c.2 ∧ ∃ ts, IntsAre ys ts ∧ ∀ t ∈ ts, t ∈ poolK) (oD2, ol2) ⟨hD2, [], .nil, fun _ h => nomatch h⟩ ?turn1 ?fin1
  case turn1 =>
    rintro i ⟨oD3, ol3⟩ v ys I oI C oC D1 m2 h9 tk9 E9 hi9 ⟨tv, hv9⟩ ⟨hD3, ts, hts, hin⟩ hyl hC9 hx9 F9 N9 off9 ne9
    dsimp only at hD3 N9 off9
    have o1 := off9.mem (D, oD3) (by k_mem)
    have o2 := off9.mem (lc, ol3) (by k_mem)
    k_steps
    with_reducible refine Stop.out ?_
    (with_reducible rename Fr _ _ _ _ => lF')
    have N1 := cb_drop (news := (D, oD3) :: (lc, ol3) :: (lp, listOf pvs.toArray 0) :: (I, oI) :: (C, oC) :: (D1, LCg.lst ys) :: (L + 1 + 1 + 1, oa) :: (L + 1 + 1, oP) :: [(L + 1, oK)]) N9 (by (try dsimp only); (repeat refine sub_cons ?_ ?_); all_goals first | exact sub_nil | k_memK | ((repeat refine sub_skip ?_); first | exact fun _ hp => hp | exact fun _ hp => List.mem_append_left _ hp | exact fun _ hp => List.mem_append_right _ hp))
    have hw2 : ∀ p ∈ (lp, listOf pvs.toArray 0) :: (I, oI) :: (C, oC) :: (D1, LCg.lst ys) :: (L + 1 + 1 + 1, oa) :: (L + 1 + 1, oP) :: [(L + 1, oK)], p.1 ≠ D ∧ p.1 ≠ lc := by
      refine List.forall_mem_cons.mpr ⟨⟨by k_ne, by k_ne⟩, List.forall_mem_cons.mpr ⟨⟨fun e => o1.1 e.symm, fun e => o2.1 e.symm⟩, List.forall_mem_cons.mpr ⟨⟨fun e => o1.2.1 e.symm, fun e => o2.2.1 e.symm⟩, List.forall_mem_cons.mpr ⟨⟨fun e => o1.2.2 e.symm, fun e => o2.2.2 e.symm⟩, List.forall_mem_cons.mpr ⟨⟨by k_ne, by k_ne⟩, List.forall_mem_cons.mpr ⟨⟨by k_ne, by k_ne⟩, List.forall_mem_cons.mpr ⟨⟨by k_ne, by k_ne⟩, List.forall_mem_nil _⟩⟩⟩⟩⟩⟩⟩
    refine' Ctr.use (pick_list' w _ D lc lp oD3 ol3 pvs 0 (k := 1 + i) hD3 (by omega) (by omega) (by omega) hDlc (fun p hp => (hw2 p hp).1) (fun p hp => (hw2 p hp).2)) K0 lF' KX N1 T rfl ?kd3 ?ku3 ?kr3
    case kd3 => ktr_room
    case ku3 => ktr_units
    intro v7 led7 h7 tk7 hR F7 N7
    revert N7
    apply RPick.elim hR
    clear hR
    intro j oD4 ol4 hj hD4 N7
    apply elimAt hpv hj
    clear hj
    intro y ty hy
    exact LCg.CompEnd.intro F7 N7 [(D, oD4), (lc, ol4), (lp, listOf pvs.toArray 0), (L + 1 + 1 + 1, oa), (L + 1 + 1, oP), (L + 1, oK)] (by (try dsimp only); (repeat refine sub_cons ?_ ?_); all_goals first | exact sub_nil | k_memK | ((repeat refine sub_skip ?_); first | exact fun _ hp => hp | exact fun _ hp => List.mem_append_left _ hp | exact fun _ hp => List.mem_append_right _ hp)) off9 trivial ⟨(oD4, ol4), rfl, hD4, ts ++ [y], IntsAre.snoc_ hts _ _, fun q hq => (List.mem_append.mp hq).elim (hin q) (fun h => by rw [List.mem_singleton.mp h]; exact List.mem_of_getElem? hy)⟩
  case fin1 =>
    rintro ys ⟨oD3, ol3⟩ ⟨hD3, ts, hts, hin⟩ hyl
    dsimp only at hD3 ⊢
    have hys := hts.length
    k_steps
    refine G_execs_cons ?_
    (with_reducible rename Fr _ _ _ _ => lF')
    (with_reducible rename News _ _ _ _ => lN')
    rename_i Dt hDt tkDt oDt
    with_reducible refine G_Assign_Tuple_swapped (names := [Str.ofString "octets", Str.ofString "odd"]) ?_ ?hs4 ?hw4
    rotate_left
    · rfl
    · rfl
    with_reducible refine G_Tuple ?_
    with_reducible refine G_args_cons ?_ ?ha4
    rotate_left
    · rfl
    with_reducible refine G_Call ?_ ?hb4
    rotate_left
    · rfl
    k_steps
    with_reducible refine G_callWith_K (K := hd.heap_39 w.params) ?hk4 ?_ ?hc4 ?hd4
    case hk4 => k_is
    rotate_left
    · rfl
    · rfl
    k_steps
    (with_reducible rename Fr _ _ _ _ => lF')
    (with_reducible rename News _ _ _ _ => lN')
    have htl : ts.length ≤ 5 := by omega
    have hpr : ∀ c ∈ ts, 0 ≤ c ∧ c ≤ 1114111 := fun c hc => pool_in c (hin c hc)
    have N4' := cb_drop (news := (Dt, listOf ys.toArray ys.length) :: (D, oD3) :: (lc, ol3) :: (lp, listOf pvs.toArray 0) :: (L + 1 + 1 + 1, oa) :: (L + 1 + 1, oP) :: [(L + 1, oK)]) lN' (by (try dsimp only); (repeat refine sub_cons ?_ ?_); all_goals first | exact sub_nil | k_memK | ((repeat refine sub_skip ?_); first | exact fun _ hp => hp | exact fun _ hp => List.mem_append_left _ hp | exact fun _ hp => List.mem_append_right _ hp))
    refine' CtrG.use (written_ctr w _ Dt ys ts ys.length List.mem_cons_self hts (by omega) hpr) K0 lF' KX N4' T rfl ?kd4 ?ku4 ?kr4 ?ke4
    case kd4 => ktr_room
    case ku4 => ktr_units
    case ke4 => exact fun _ _ _ _ _ _ z => z.elim
    clear lF' lN' N4'
    intro v4 led4 h4 tk4 hR F4 N4
    revert N4
    apply elim2 hR
    clear hR
    intro ob4 ot4 hob N4
    dsimp only
    k_steps
    with_reducible refine Stop.out ?_
    (with_reducible rename Fr _ _ _ _ => lF')
    (with_reducible rename News _ _ _ _ => lN')
    rename_i lo hlo lto
    obtain ⟨ovs, hov, N5⟩ : ∃ ovs, IntsAre ovs oddK ∧ News s₁.heap L hlo ((D, oD3) :: (lc, ol3) :: (lo, listOf ovs.toArray 0) :: (Dt, listOf ys.toArray ys.length) :: (lp, listOf pvs.toArray 0) :: (L + 1 + 1 + 1, oa) :: (L + 1 + 1, oP) :: [(L + 1, oK)]) :=
      ⟨_, .cons _ _ (.cons _ _ (.cons _ _ (.cons _ _ .nil))), cb_drop lN' (by (try dsimp only); (repeat refine sub_cons ?_ ?_); all_goals first | exact sub_nil | k_memK | ((repeat refine sub_skip ?_); first | exact fun _ hp => hp | exact fun _ hp => List.mem_append_left _ hp | exact fun _ hp => List.mem_append_right _ hp))⟩
    clear lN'
    have hol := hov.length
    have ho4 : oddK.length = 4 := rfl
    have hw3 : ∀ p ∈ (lo, listOf ovs.toArray 0) :: (Dt, listOf ys.toArray ys.length) :: (lp, listOf pvs.toArray 0) :: (L + 1 + 1 + 1, oa) :: (L + 1 + 1, oP) :: [(L + 1, oK)], p.1 ≠ D ∧ p.1 ≠ lc := by
      refine List.forall_mem_cons.mpr ⟨⟨by k_ne, by k_ne⟩, List.forall_mem_cons.mpr ⟨⟨by k_ne, by k_ne⟩, List.forall_mem_cons.mpr ⟨⟨by k_ne, by k_ne⟩, List.forall_mem_cons.mpr ⟨⟨by k_ne, by k_ne⟩, List.forall_mem_cons.mpr ⟨⟨by k_ne, by k_ne⟩, List.forall_mem_cons.mpr ⟨⟨by k_ne, by k_ne⟩, List.forall_mem_nil _⟩⟩⟩⟩⟩⟩
    refine' Ctr.use (pick_list' w _ D lc lo oD3 ol3 ovs 0 (k := 1 + x.toNat) hD3 (by omega) (by omega) (by omega) hDlc (fun p hp => (hw3 p hp).1) (fun p hp => (hw3 p hp).2)) K0 lF' KX N5 T rfl ?kd5 ?ku5 ?kr5
    case kd5 => ktr_room
    case ku5 => ktr_units
    clear lF' N5
    intro v6 led6 h7 tk7 hR F7 N7
    revert N7
    apply RPick.elim hR
    clear hR
    intro j oD4 ol4 hj hD4 N7
    apply elimAt hov hj
    clear hj
    intro y ty hy
    dsimp only
    k_steps
    have hoE : ob4 = byteArr (encAll ts) := by rw [← lawText_enc hpr, ← hob, byteArr_ints]
    subst hoE
    (with_reducible rename Fr _ _ _ _ => lF')
    (with_reducible rename News _ _ _ _ => lN')
    rename_i Dtu hx1' ltu hx2' hx3' hx4'
    have N6 := cb_drop (news := (D, oD4) :: (lc, ol4) :: (Dt, listOf ys.toArray ys.length) :: (lp, listOf pvs.toArray 0) :: (L + 1 + 1 + 1, oa) :: (L + 1 + 1, oP) :: [(L + 1, oK)]) lN' (by (try dsimp only); (repeat refine sub_cons ?_ ?_); all_goals first | exact sub_nil | k_memK | ((repeat refine sub_skip ?_); first | exact fun _ hp => hp | exact fun _ hp => List.mem_append_left _ hp | exact fun _ hp => List.mem_append_right _ hp))
    clear lN'
    with_reducible refine G_execs_cons ?_
    with_reducible refine G_If ?_
    with_reducible refine G_isTrue_BoolOp ?_
    with_reducible refine G_Or_cons ?_
    with_reducible refine G_isTrue_Compare ?_ ?hm6
    rotate_left
    · with_unfolding_all rfl
    with_reducible refine G_Call ?_ ?hb6
    rotate_left
    · rfl
    k_steps
    with_reducible refine G_callWith_K (K := hd.heap_39 w.params) ?hk6 ?_ ?hc6 ?hd6
    case hk6 => k_is
    rotate_left
    · rfl
    · rfl
    k_steps
    (with_reducible rename Fr _ _ _ _ => lF')
    (with_reducible rename News _ _ _ _ => lN')
    rename_i le ce hle lle
    have hsc : ∀ c ∈ ts, pyScalar c = true := fun c hc => pool_sc c (hin c hc)
    refine' CtrG.use (encode_ctr w _ le ys ts ce (by k_mem) hts (by omega)) K0 lF' KX lN' T rfl ?kd6 ?ku6 ?kr6 ?ke6
    case kd6 => ktr_room
    case ku6 => ktr_units
    case ke6 =>
      rintro _ _ _ _ _ _ ⟨_, _, x6, _, hx6⟩
      have h1 := List.find?_some hx6
      rw [hsc x6 (List.mem_of_find?_eq_some hx6)] at h1
      cases h1
    clear lF' lN'
    intro v6 led6 h9 tk9 hR F9 N9
    revert N9
    apply elim1 hR.2
    clear hR
    intro te N9
    dsimp only
    refine G_of ?_
    k_steps
    with_reducible refine G_Or_cons ?_
    with_reducible refine G_isTrue_Compare ?_ ?hm7
    rotate_left
    · with_unfolding_all rfl
    with_reducible refine G_Call ?_ ?hb7
    rotate_left
    · rfl
    k_steps
    with_reducible refine G_callWith_K (K := hd.heap_39 w.params) ?hk7 ?_ ?hc7 ?hd7
    case hk7 => k_is
    rotate_left
    · rfl
    · rfl
    k_steps
    (with_reducible rename Fr _ _ _ _ => lF')
    (with_reducible rename News _ _ _ _ => lN')
    have hEi : KBw.bInts (byteArr (encAll ts)) = encAll ts := by
      rw [hob, lawText_enc hpr]
    have hEl : (encAll ts).length ≤ 1000 := encAll_len (by omega)
    have N7 := cb_drop (news := (D, oD4) :: (lc, ol4) :: (Dt, listOf ys.toArray ys.length) :: (lp, listOf pvs.toArray 0) :: (L + 1 + 1 + 1, oa) :: (L + 1 + 1, oP) :: [(L + 1, oK)]) lN' (by (try dsimp only); (repeat refine sub_cons ?_ ?_); all_goals first | exact sub_nil | k_memK | ((repeat refine sub_skip ?_); first | exact fun _ hp => hp | exact fun _ hp => List.mem_append_left _ hp | exact fun _ hp => List.mem_append_right _ hp))
    refine' (heard_ctr w _ _ (encAll ts) _ hEi hEl) _ _ _ _ _ _ _ _ _ _ _ _ _ _ _ _ _ lF' KX N7 (fun p hp q hq => nomatch hq) T rfl ?kd7 ?ku7 ?kr7
    case kd7 => ktr_room
    case ku7 => ktr_units
    clear lF' lN' N7
    intro v7 nl7 h10 tk10 hR F10 N10
    revert N10
    rw [dec_enc hsc] at hR
    apply RHd.elim hR
    · intro hr; cases hr
    clear hR
    intro l7 vs7 n7 cs7 hr hi7 N10
    cases hr
    dsimp only
    simp only [List.cons_append, List.nil_append] at N10
    refine G_of ?_
    k_steps
    (with_reducible rename Fr _ _ _ _ => lF')
    (with_reducible rename News _ _ _ _ => lN')
    have N8 := cb_drop (news := (D, oD4) :: (lc, ol4) :: (Dt, listOf ys.toArray ys.length) :: (lp, listOf pvs.toArray 0) :: (L + 1 + 1 + 1, oa) :: (L + 1 + 1, oP) :: [(L + 1, oK)]) lN' (by (try dsimp only); (repeat refine sub_cons ?_ ?_); all_goals first | exact sub_nil | k_memK | ((repeat refine sub_skip ?_); first | exact fun _ hp => hp | exact fun _ hp => List.mem_append_left _ hp | exact fun _ hp => List.mem_append_right _ hp))
    clear lN'
    with_reducible refine G_Or_cons ?_
    with_reducible refine G_isTrue_Compare ?_ ?hm8
    rotate_left
    · with_unfolding_all rfl
    with_reducible refine G_Call ?_ ?hb8
    rotate_left
    · rfl
    k_steps
    with_reducible refine G_callWith_K (K := hd.heap_39 w.params) ?hk8 ?_ ?hc8 ?hd8
    case hk8 => k_is
    rotate_left
    · rfl
    · rfl
    k_steps
    (with_reducible rename Fr _ _ _ _ => lF')
    (with_reducible rename News _ _ _ _ => lN')
    (with_reducible rename IntsAre _ (ts ++ [y, 55297]) => hI8)
    rename_i l8a h8a l8x l8 ws8 h8b l8y
    have N8 := cb_drop (news := [(l8, listOf ws8.toArray 0)] ++ ((D, oD4) :: (lc, ol4) :: (Dt, listOf ys.toArray ys.length) :: (lp, listOf pvs.toArray 0) :: (L + 1 + 1 + 1, oa) :: (L + 1 + 1, oP) :: [(L + 1, oK)])) lN' (by (try dsimp only); (repeat refine sub_cons ?_ ?_); all_goals first | exact sub_nil | k_memK | ((repeat refine sub_skip ?_); first | exact fun _ hp => hp | exact fun _ hp => List.mem_append_left _ hp | exact fun _ hp => List.mem_append_right _ hp))
    have hd8 : ∀ p ∈ ((D, oD4) :: (lc, ol4) :: (Dt, listOf ys.toArray ys.length) :: (lp, listOf pvs.toArray 0) :: (L + 1 + 1 + 1, oa) :: (L + 1 + 1, oP) :: [(L + 1, oK)] : List (Addr × Obj)), p.1 ≠ l8 := by
      refine List.forall_mem_cons.mpr ⟨by k_ne, List.forall_mem_cons.mpr ⟨by k_ne, List.forall_mem_cons.mpr ⟨by k_ne, List.forall_mem_cons.mpr ⟨by k_ne, List.forall_mem_cons.mpr ⟨by k_ne, List.forall_mem_cons.mpr ⟨by k_ne, List.forall_mem_cons.mpr ⟨by k_ne, List.forall_mem_nil _⟩⟩⟩⟩⟩⟩⟩
    refine' (refused_ctr w _ l8 ws8 (ts ++ [y, 55297]) 0 hI8 (by simp only [List.length_append, List.length_cons, List.length_nil]; omega) y (find_odd hsc (odd_bad y (List.mem_of_getElem? hy)))) _ _ _ _ _ _ _ _ _ _ _ _ _ _ _ _ _ lF' KX N8 (fun p hp q hq => by rw [List.mem_singleton.mp hq]; exact hd8 p hp) T rfl ?kd8 ?ku8 ?kr8
    case kd8 => ktr_room
    case ku8 => ktr_units
    clear lF' lN' N8
    intro v9 nl9 h11 tk11 hR F11 N11
    revert N11
    apply elim1 hR
    clear hR
    intro t9 N11
    dsimp only
    simp only [List.nil_append] at N11
    refine G_of ?_
    k_steps
    (with_reducible rename Fr _ _ _ _ => lF')
    (with_reducible rename News _ _ _ _ => lN')
    with_reducible refine G_Or_nil ?_
    rw [if_neg (by decide)]
    with_reducible refine G_execs_nil ?_
    dsimp only
    have hEs : (byteArr (encAll ts)).size = (encAll ts).length := byteArr_size _
    have hw9 : ∀ p ∈ (Dt, listOf ys.toArray ys.length) :: (lp, listOf pvs.toArray 0) :: (L + 1 + 1 + 1, oa) :: (L + 1 + 1, oP) :: [(L + 1, oK)], p.1 ≠ D ∧ p.1 ≠ lc := by
      refine List.forall_mem_cons.mpr ⟨⟨by k_ne, by k_ne⟩, List.forall_mem_cons.mpr ⟨⟨by k_ne, by k_ne⟩, List.forall_mem_cons.mpr ⟨⟨by k_ne, by k_ne⟩, List.forall_mem_cons.mpr ⟨⟨by k_ne, by k_ne⟩, List.forall_mem_cons.mpr ⟨⟨by k_ne, by k_ne⟩, List.forall_mem_nil _⟩⟩⟩⟩⟩
    refine G_execs_cons ?_
    refine G_of ?_
    k_steps
    with_reducible refine Stop.out ?_
    (with_reducible rename Fr _ _ _ _ => lF')
    (with_reducible rename News _ _ _ _ => lN')
    refine' Ctr.use (draw_ctr w _ D lc oD4 ol4 _ _ hD4 (by omega) (by omega) (by omega) hDlc (fun p hp => (hw9 p hp).1) (fun p hp => (hw9 p hp).2)) K0 lF' KX lN' T rfl ?kd9 ?ku9 ?kr9
    case kd9 => ktr_room
    case ku9 => ktr_units
    clear lF' lN'
    intro va leda ha tka hR Fa Na
    revert Na
    apply RDraw.elim hR
    clear hR
    intro at9 ta oD5 ol5 hat0 hat1 hD5 Na
    dsimp only
    k_steps
    with_reducible refine Stop.out ?_
    (with_reducible rename Fr _ _ _ _ => lF')
    (with_reducible rename News _ _ _ _ => lN')
    refine' Ctr.use (draw_ctr w _ D lc oD5 ol5 3 _ hD5 (by decide) (by decide) (by omega) hDlc (fun p hp => (hw9 p hp).1) (fun p hp => (hw9 p hp).2)) K0 lF' KX lN' T rfl ?kda ?kua ?kra
    case kda => ktr_room
    case kua => ktr_units
    clear lF' lN'
    intro vb ledb hb tkb hR Fb Nb
    revert Nb
    apply RDraw.elim hR
    clear hR
    intro way tb oD6 ol6 hwy0 hwy1 hD6 Nb
    dsimp only
    k_steps
    (with_reducible rename Fr _ _ _ _ => lF')
    (with_reducible rename News _ _ _ _ => lN')
    have N12 := cb_drop (news := (D, oD6) :: (lc, ol6) :: (Dt, listOf ys.toArray ys.length) :: (lp, listOf pvs.toArray 0) :: (L + 1 + 1 + 1, oa) :: (L + 1 + 1, oP) :: [(L + 1, oK)]) lN' (by (try dsimp only); (repeat refine sub_cons ?_ ?_); all_goals first | exact sub_nil | k_memK | ((repeat refine sub_skip ?_); first | exact fun _ hp => hp | exact fun _ hp => List.mem_append_left _ hp | exact fun _ hp => List.mem_append_right _ hp))
    clear lN'
    refine G_execs_cons ?_
    refine G_of ?_
    k_steps
    with_reducible refine Stop.out ?_
    (with_reducible rename Fr _ _ _ _ => lF')
    (with_reducible rename News _ _ _ _ => lN')
    refine' Ctr.use (pick_bytes w _ D lc oD6 ol6 _ _ hD6 (by decide) (by decide) (by omega) hDlc (fun p hp => (hw9 p hp).1) (fun p hp => (hw9 p hp).2)) K0 lF' KX lN' T rfl ?kdb ?kub ?krb
    case kdb => ktr_room
    case kub => ktr_units
    clear lF' lN'
    intro vc ledc hc' tkc hR Fc Nc
    revert Nc
    apply RPickB.elim hR
    clear hR
    intro fx tc oD7 ol7 hfx hD7 Nc
    have hfr : 0 ≤ fx ∧ fx < 256 := bints_in hfx
    obtain ⟨hfr0, hfr1⟩ := hfr
    dsimp only
    k_steps
    (with_reducible rename Fr _ _ _ _ => lF')
    (with_reducible rename News _ _ _ _ => lN')
    with_reducible refine G_step (BentSt s₁ L ((D, oD7) :: (lc, ol7) :: (L + 1 + 1 + 1, oa) :: (L + 1 + 1, oP) :: [(L + 1, oK)])) ?_ ?_
    · refine G_of ?_
      have hb63 : (byteArr (encAll ts)).size ≤ 63 := by rw [hEs]; exact encAll_len2 htl
      k_steps
      all_goals (with_reducible rename Fr _ _ _ _ => lF')
      all_goals (with_reducible rename News _ _ _ _ => lN')
      · exact ⟨_, _, _, _, _, rfl, lF', cb_drop lN' (by (try dsimp only); (repeat refine sub_cons ?_ ?_); all_goals first | exact sub_nil | k_memK | ((repeat refine sub_skip ?_); first | exact fun _ hp => hp | exact fun _ hp => List.mem_append_left _ hp | exact fun _ hp => List.mem_append_right _ hp)), bent_size2 hb63⟩
      · exact ⟨_, _, _, _, _, rfl, lF', cb_drop lN' (by (try dsimp only); (repeat refine sub_cons ?_ ?_); all_goals first | exact sub_nil | k_memK | ((repeat refine sub_skip ?_); first | exact fun _ hp => hp | exact fun _ hp => List.mem_append_left _ hp | exact fun _ hp => List.mem_append_right _ hp)), bent_size3 hb63 (Nat.le_refl 1)⟩
    · rintro s9 ⟨bb, tbb, ub, h13, tk13, rfl, F13, N13, hbb⟩
      with_reducible refine G_execs_cons ?_
      refine G_of ?_
      refine wpAny_Assign_Name ?_
      with_reducible refine List_bytes (ks := lotsK) F13 N13 ?hec ?hlc ?_
      case hec => kernel_rfl
      case hlc => decide
      clear F13 N13
      intro lvs ll h14 tk14 hlv F14 N14 hlp2
      replace hlp2 := allLt_of hlp2
      simp only [AllLt, and_true] at hlp2
      dsimp only
      k_steps
      refine G_execs_cons ?_
      refine G_of ?_
      k_steps
      with_reducible refine Stop.out ?_
      (with_reducible rename Fr _ _ _ _ => lF')
      (with_reducible rename News _ _ _ _ => lN')
      rename_i hLo oLo dLo
      obtain ⟨k7, hk7, hD7'⟩ : ∃ k7, k7 ≤ 20 ∧ DeckIs w k7 lc oD7 ol7 := ⟨_, by omega, hD7⟩
      have hlz : lvs.length = 22 := hlv.length.trans lots_len
      have hw10 : ∀ p ∈ (ll, listOf lvs.toArray 0) :: (L + 1 + 1 + 1, oLo) :: (L + 1 + 1, oP) :: [(L + 1, oK)], p.1 ≠ D ∧ p.1 ≠ lc := by
        refine List.forall_mem_cons.mpr ⟨⟨by k_ne, by k_ne⟩, List.forall_mem_cons.mpr ⟨⟨by k_ne, by k_ne⟩, List.forall_mem_cons.mpr ⟨⟨by k_ne, by k_ne⟩, List.forall_mem_cons.mpr ⟨⟨by k_ne, by k_ne⟩, List.forall_mem_nil _⟩⟩⟩⟩
      have N14 := cb_drop (news := (D, oD7) :: (lc, ol7) :: (ll, listOf lvs.toArray 0) :: (L + 1 + 1 + 1, oLo) :: (L + 1 + 1, oP) :: [(L + 1, oK)]) lN' (by (try dsimp only); (repeat refine sub_cons ?_ ?_); all_goals first | exact sub_nil | k_memK | ((repeat refine sub_skip ?_); first | exact fun _ hp => hp | exact fun _ hp => List.mem_append_left _ hp | exact fun _ hp => List.mem_append_right _ hp))
      refine' Ctr.use (draw_ctr w _ D lc oD7 ol7 4 _ hD7' (by decide) (by decide) (by omega) hDlc (fun p hp => (hw10 p hp).1) (fun p hp => (hw10 p hp).2)) K0 lF' KX N14 T rfl ?kdd ?kud ?krd
      case kdd => ktr_room
      case kud => ktr_units
      clear lF' lN' N14
      intro vd ledd hd15 tkd hR Fd Nd
      revert Nd
      apply RDraw.elim hR
      clear hR
      intro nr tn oD8 ol8 hnr0 hnr1 hD8 Nd
      dsimp only
      k_steps
      with_reducible refine Stop.out ?_
      refine LCg.CompSrc.range (n := nr.toNat) (by rfl) (by k_asm) (by k_asm) (by with_reducible assumption) (small_one (by omega) (by omega) (by omega) (by omega)) (rangeSize_to hnr0) (by rw [sizeLine_eq]; omega) ?_
      intro g3
      refine comp_st (σ := Obj × Obj) (fun c => (D, c.1) :: (lc, c.2) :: (ll, listOf lvs.toArray 0) :: (L + 1 + 1 + 1, oLo) :: (L + 1 + 1, oP) :: [(L + 1, oK)]) (fun i c ys => DeckIs w (k7 + 1 + i) lc c.1 c.2 ∧ ∀ y ∈ ys, ∃ b t, y = .bytes b t ∧ b.size ≤ 10) (oD8, ol8) ⟨hD8, fun _ h => nomatch h⟩ ?turn3 ?fin3
      case turn3 =>
        rintro i ⟨oD9, ol9⟩ v ys9 I oI C oC D1 m2 h16 tk16 E16 hi16 ⟨tv, hv16⟩ ⟨hD9, hys9⟩ hyl9 hC16 hx16 F16 N16 off16 ne16
        dsimp only at hD9 N16 off16
        have o1 := off16.mem (D, oD9) (by k_mem)
        have o2 := off16.mem (lc, ol9) (by k_mem)
        k_steps
        with_reducible refine Stop.out ?_
        (with_reducible rename Fr _ _ _ _ => lF')
        have N17 := cb_drop (news := (D, oD9) :: (lc, ol9) :: (ll, listOf lvs.toArray 0) :: (I, oI) :: (C, oC) :: (D1, LCg.lst ys9) :: (L + 1 + 1 + 1, oLo) :: (L + 1 + 1, oP) :: [(L + 1, oK)]) N16 (by (try dsimp only); (repeat refine sub_cons ?_ ?_); all_goals first | exact sub_nil | k_memK | ((repeat refine sub_skip ?_); first | exact fun _ hp => hp | exact fun _ hp => List.mem_append_left _ hp | exact fun _ hp => List.mem_append_right _ hp))
        have hw11 : ∀ p ∈ (ll, listOf lvs.toArray 0) :: (I, oI) :: (C, oC) :: (D1, LCg.lst ys9) :: (L + 1 + 1 + 1, oLo) :: (L + 1 + 1, oP) :: [(L + 1, oK)], p.1 ≠ D ∧ p.1 ≠ lc := by
          refine List.forall_mem_cons.mpr ⟨⟨by k_ne, by k_ne⟩, List.forall_mem_cons.mpr ⟨⟨fun e => o1.1 e.symm, fun e => o2.1 e.symm⟩, List.forall_mem_cons.mpr ⟨⟨fun e => o1.2.1 e.symm, fun e => o2.2.1 e.symm⟩, List.forall_mem_cons.mpr ⟨⟨fun e => o1.2.2 e.symm, fun e => o2.2.2 e.symm⟩, List.forall_mem_cons.mpr ⟨⟨by k_ne, by k_ne⟩, List.forall_mem_cons.mpr ⟨⟨by k_ne, by k_ne⟩, List.forall_mem_cons.mpr ⟨⟨by k_ne, by k_ne⟩, List.forall_mem_nil _⟩⟩⟩⟩⟩⟩⟩
        refine' Ctr.use (pick_list' w _ D lc ll oD9 ol9 lvs 0 (k := k7 + 1 + i) hD9 (by omega) (by omega) (by omega) hDlc (fun p hp => (hw11 p hp).1) (fun p hp => (hw11 p hp).2)) K0 lF' KX N17 T rfl ?kde ?kue ?kre
        case kde => ktr_room
        case kue => ktr_units
        intro v7 led7 h17 tk17 hR F17 N18
        revert N18
        apply RPick.elim hR
        clear hR
        intro j oD10 ol10 hj hD10 N18
        obtain ⟨yb, yt, hvy, hyb⟩ := hlv.mem v7 (List.mem_of_getElem? hj)
        subst hvy
        exact LCg.CompEnd.intro F17 N18 [(D, oD10), (lc, ol10), (ll, listOf lvs.toArray 0), (L + 1 + 1 + 1, oLo), (L + 1 + 1, oP), (L + 1, oK)] (by (try dsimp only); (repeat refine sub_cons ?_ ?_); all_goals first | exact sub_nil | k_memK | ((repeat refine sub_skip ?_); first | exact fun _ hp => hp | exact fun _ hp => List.mem_append_left _ hp | exact fun _ hp => List.mem_append_right _ hp)) off16 trivial ⟨(oD10, ol10), rfl, hD10, fun q hq => (List.mem_append.mp hq).elim (hys9 q) (fun h => by rw [List.mem_singleton.mp h]; exact ⟨yb, yt, rfl, lots_size _ hyb⟩)⟩
      case fin3 =>
        rintro ys9 ⟨oD9, ol9⟩ ⟨hD9, hys9⟩ hyl9
        dsimp only at hD9 ⊢
        k_steps
        with_reducible refine Stop.out ?_
        (with_reducible rename Fr _ _ _ _ => lF')
        (with_reducible rename News _ _ _ _ => lN')
        with_reducible refine BL.join_K (its := ys9) ?hj1 ?hj2 ?hj3 ?_
        case hj1 => exact ⟨_, (lN' _ List.mem_cons_self).1, rfl, _, rfl⟩
        case hj2 => exact hys9
        case hj3 => omega
        intro rb rt rk hrb
        dsimp only
        k_steps
        (with_reducible rename Fr _ _ _ _ => lF')
        (with_reducible rename News _ _ _ _ => lN')
        have N20 := cb_drop (news := [(L + 1 + 1 + 1, oLo), (L + 1 + 1, oP), (L + 1, oK)]) lN' (by (try dsimp only); (repeat refine sub_cons ?_ ?_); all_goals first | exact sub_nil | k_memK | ((repeat refine sub_skip ?_); first | exact fun _ hp => hp | exact fun _ hp => List.mem_append_left _ hp | exact fun _ hp => List.mem_append_right _ hp))
        clear lN'
        with_reducible refine G_execs_cons ?_
        with_reducible refine G_If ?_
        with_reducible refine G_isTrue_BoolOp ?_
        with_reducible refine G_Or_consJ lF' N20 ?or1 ?_
        case or1 =>
          with_reducible refine G_isTrue_Compare ?_ ?hmQa
          rotate_left
          · with_unfolding_all rfl
          with_reducible refine G_Call ?_ ?hbQa
          rotate_left
          · rfl
          k_steps
          with_reducible refine G_callWith_K (K := hd.heap_39 w.params) ?hkQa ?_ ?hcQa ?hdQa
          case hkQa => k_is
          rotate_left
          · rfl
          · rfl
          k_steps
          (with_reducible rename Fr _ _ _ _ => lF')
          (with_reducible rename News _ _ _ _ => lN')
          refine' (heard_ctr w _ bb (KBw.bInts bb) _ rfl (Nat.le_trans (bints_len hbb) (by decide))) _ _ _ _ _ _ _ _ _ _ _ _ _ _ _ _ _ lF' KX lN' (fun p hp q hq => nomatch hq) T rfl ?kdQa ?kuQa ?krQa
          case kdQa => ktr_room
          case kuQa => ktr_units
          clear lF' lN'
          intro vH nlH hH tkH hRH FH NH
          revert NH
          apply RHd.elim hRH
          case' k1 => intro hr NH
          case' k2 => intro lH vsH nH csH hr hiH NH
          all_goals
            clear hRH
            dsimp only
            (try simp only [List.cons_append, List.nil_append] at NH)
            with_reducible refine G_Call ?_ ?_
            rotate_left
            · rfl
            k_steps
            with_reducible refine G_callWith_K (K := hd.heap_39 w.params) ?_ ?_ ?_ ?_
            · k_is
            rotate_left
            · rfl
            · rfl
            k_steps
            (with_reducible rename Fr _ _ _ _ => lF')
            (with_reducible rename News _ _ _ _ => lN')
            refine' CtrG.use (read_ctr w _ bb (KBw.bInts bb) _ rfl (Nat.le_trans (bints_len hbb) (by decide))) K0 lF' KX lN' T rfl ?_ ?_ ?_ ?_
            · ktr_room
            · ktr_units
            rotate_left
            · exact fun _ _ _ _ _ _ z => z.elim
            clear lF' lN'
            intro vR nlR hR tkR hRR FR NR
            revert NR
            apply RRd.elim hRR
            case' k1 => intro hr2 NR
            case' k2 => intro lR vsR nR csR hr2 hiR hAR NR
            all_goals (clear hRR; rw [read_eq, hr] at hr2)
            all_goals first | (cases hr2; done) | skip
            all_goals
              cases hr2
              dsimp only
              (try simp only [AllLt, and_true] at hAR)
              k_steps
              all_goals ((try dsimp only); (with_reducible rename Fr _ _ _ _ => lF'); (with_reducible rename News _ _ _ _ => lN'); exact Joined.mk (by first | rfl | decide) lF' (cb_drop lN' (by (try dsimp only); (repeat refine sub_cons ?_ ?_); all_goals first | exact sub_nil | k_memK | ((repeat refine sub_skip ?_); first | exact fun _ hp => hp | exact fun _ hp => List.mem_append_left _ hp | exact fun _ hp => List.mem_append_right _ hp))))
        intro h21 tk21 F21 N21
        clear lF' N20
        with_reducible refine G_Or_consJ F21 N21 ?or2 ?_
        case or2 =>
          with_reducible refine G_isTrue_Compare ?_ ?hmQb
          rotate_left
          · with_unfolding_all rfl
          with_reducible refine G_Call ?_ ?hbQb
          rotate_left
          · rfl
          k_steps
          with_reducible refine G_callWith_K (K := hd.heap_39 w.params) ?hkQb ?_ ?hcQb ?hdQb
          case hkQb => k_is
          rotate_left
          · rfl
          · rfl
          k_steps
          (with_reducible rename Fr _ _ _ _ => lF')
          (with_reducible rename News _ _ _ _ => lN')
          refine' (heard_ctr w _ rb (KBw.bInts rb) _ rfl (Nat.le_trans (bints_len hrb) (by decide))) _ _ _ _ _ _ _ _ _ _ _ _ _ _ _ _ _ lF' KX lN' (fun p hp q hq => nomatch hq) T rfl ?kdQb ?kuQb ?krQb
          case kdQb => ktr_room
          case kuQb => ktr_units
          clear lF' lN'
          intro vH nlH hH tkH hRH FH NH
          revert NH
          apply RHd.elim hRH
          case' k1 => intro hr NH
          case' k2 => intro lH vsH nH csH hr hiH NH
          all_goals
            clear hRH
            dsimp only
            (try simp only [List.cons_append, List.nil_append] at NH)
            with_reducible refine G_Call ?_ ?_
            rotate_left
            · rfl
            k_steps
            with_reducible refine G_callWith_K (K := hd.heap_39 w.params) ?_ ?_ ?_ ?_
            · k_is
            rotate_left
            · rfl
            · rfl
            k_steps
            (with_reducible rename Fr _ _ _ _ => lF')
            (with_reducible rename News _ _ _ _ => lN')
            refine' CtrG.use (read_ctr w _ rb (KBw.bInts rb) _ rfl (Nat.le_trans (bints_len hrb) (by decide))) K0 lF' KX lN' T rfl ?_ ?_ ?_ ?_
            · ktr_room
            · ktr_units
            rotate_left
            · exact fun _ _ _ _ _ _ z => z.elim
            clear lF' lN'
            intro vR nlR hR tkR hRR FR NR
            revert NR
            apply RRd.elim hRR
            case' k1 => intro hr2 NR
            case' k2 => intro lR vsR nR csR hr2 hiR hAR NR
            all_goals (clear hRR; rw [read_eq, hr] at hr2)
            all_goals first | (cases hr2; done) | skip
            all_goals
              cases hr2
              dsimp only
              (try simp only [AllLt, and_true] at hAR)
              k_steps
              all_goals ((try dsimp only); (with_reducible rename Fr _ _ _ _ => lF'); (with_reducible rename News _ _ _ _ => lN'); exact Joined.mk (by first | rfl | decide) lF' (cb_drop lN' (by (try dsimp only); (repeat refine sub_cons ?_ ?_); all_goals first | exact sub_nil | k_memK | ((repeat refine sub_skip ?_); first | exact fun _ hp => hp | exact fun _ hp => List.mem_append_left _ hp | exact fun _ hp => List.mem_append_right _ hp))))
        clear F21 N21
        intro h22 tk22 F22 N22
        with_reducible refine G_Or_nil ?_
        rw [if_neg (by decide)]
        with_reducible refine G_execs_nil ?_
        dsimp only
        with_reducible refine G_execs_cons ?_
        with_reducible refine G_Return ?_
        with_reducible refine G_BoolOp_and ?_
        with_reducible refine G_Compare1 ?_ ?hmRa
        rotate_left
        · with_unfolding_all rfl
        with_reducible refine G_Call ?_ ?hbRa
        rotate_left
        · rfl
        k_steps
        with_reducible refine G_callWith_K (K := hd.heap_39 w.params) ?hkRa ?_ ?hcRa ?hdRa
        case hkRa => k_is
        rotate_left
        · rfl
        · rfl
        k_steps
        (with_reducible rename Fr _ _ _ _ => lF')
        (with_reducible rename News _ _ _ _ => lN')
        refine' CtrG.use (read_ctr w _ _ [38, 65, 71, 69, 45] _ (by decide) (by decide)) K0 lF' KX lN' T rfl ?kdRa ?kuRa ?krRa ?keRa
        case kdRa => ktr_room
        case kuRa => ktr_units
        case keRa => exact fun _ _ _ _ _ _ z => z.elim
        clear lF' lN'
        intro vR nlR hR tkR hRR FR NR
        revert NR
        apply RRd.elim hRR

        case k2 => intro lR vsR nR csR hr2; exact absurd (read_1.symm.trans hr2) (by simp)
        clear hRR
        intro hr2 NR
        dsimp only
        refine G_of ?_
        k_steps
        with_reducible refine G_BoolOp_and ?_
        with_reducible refine G_Compare1 ?_ ?hmRb
        rotate_left
        · with_unfolding_all rfl
        with_reducible refine G_Call ?_ ?hbRb
        rotate_left
        · rfl
        k_steps
        with_reducible refine G_callWith_K (K := hd.heap_39 w.params) ?hkRb ?_ ?hcRb ?hdRb
        case hkRb => k_is
        rotate_left
        · rfl
        · rfl
        k_steps
        (with_reducible rename Fr _ _ _ _ => lF')
        (with_reducible rename News _ _ _ _ => lN')
        refine' (heard_ctr w _ _ [38, 65, 71, 69, 45] _ (by decide) (by decide)) _ _ _ _ _ _ _ _ _ _ _ _ _ _ _ _ _ lF' KX lN' (fun p hp q hq => nomatch hq) T rfl ?kdRb ?kuRb ?krRb
        case kdRb => ktr_room
        case kuRb => ktr_units
        clear lF' lN'
        intro vH nlH hH tkH hRH FH NH
        revert NH
        apply RHd.elim hRH
        case' k2 => intro lH vsH nH csH hr; exact absurd (dec_1.symm.trans hr) (by simp)
        clear hRH
        intro hr NH
        dsimp only
        (try simp only [List.cons_append, List.nil_append] at NH)
        refine G_of ?_
        k_steps
        with_reducible refine G_BoolOp_one ?_
        with_reducible refine G_Compare1 ?_ ?hmRc
        rotate_left
        · with_unfolding_all rfl
        with_reducible refine G_Call ?_ ?hbRc
        rotate_left
        · rfl
        k_steps
        with_reducible refine G_callWith_K (K := hd.heap_39 w.params) ?hkRc ?_ ?hcRc ?hdRc
        case hkRc => k_is
        rotate_left
        · rfl
        · rfl
        k_steps
        (with_reducible rename Fr _ _ _ _ => lF')
        (with_reducible rename News _ _ _ _ => lN')
        refine' CtrG.use (read_ctr w _ _ [38, 65, 79, 107, 45] _ (by decide) (by decide)) K0 lF' KX lN' T rfl ?kdRc ?kuRc ?krRc ?keRc
        case kdRc => ktr_room
        case kuRc => ktr_units
        case keRc => exact fun _ _ _ _ _ _ z => z.elim
        clear lF' lN'
        intro vR nlR hR tkR hRR FR NR
        revert NR
        apply RRd.elim hRR

        case k1 => intro hr2; exact absurd (read_2.symm.trans hr2) (by simp)
        clear hRR
        intro lR vsR nR csR hr2 hiR hAR NR
        cases read_2.symm.trans hr2
        (try simp only [AllLt, and_true] at hAR)
        dsimp only
        refine G_of ?_
        k_steps
        refine hQ' _ _ ?_
        dsimp only
        k_steps
end

end
end Mine
theorem PySem.Challenge.cw_nt0010_01_holds : PySem.Challenge.rw_nt0010_01.Holds :=
  Mine.law_holds
