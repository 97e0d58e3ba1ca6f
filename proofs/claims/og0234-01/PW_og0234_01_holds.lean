import PyProof.Rows.All
import Wide.All
import OpenK.AllK
import Wide.FinOn
import Lean
import PySem.Challenge.RW_og0234_01
open PySem PySem.W PyProof.Rows PySem.Calls PyProof.V PySem.Spec
set_option Elab.async false
set_option maxRecDepth 100000
set_option linter.unusedVariables false
set_option maxHeartbeats 8000000
namespace Mine
def dropAt : Nat → List Stmt → List Stmt
  | _, [] => []
  | 0, _ :: r => r
  | n + 1, a :: r => a :: dropAt n r
/-- the text's own statements that the law leans on: all but the two that name the text -/
noncomputable def lawView : Program := { PySem.Challenge.pw_og0234_01 with main := { PySem.Challenge.pw_og0234_01.main with body := dropAt 0 (dropAt 25 PySem.Challenge.pw_og0234_01.main.body) } }
def lawLoose : List Str := [Str.ofString "_law_private", Str.ofString "_law_others", Str.ofString "_law_mouse", Str.ofString "_law_codings", Str.ofString "_law_out", Str.ofString "_law_first"]
theorem left_of_boot {p q : Program} {loose : List Str} {Xt : Shared → Bool} {α : Type} {Yf : Shared → α} {Ya : World → α} {N : Nat} (e : opening p = plainProg p.main.scope.names) (hN : Nat.ble 600 N = true) (f : ∀ s, fenceModules? p s = some s)
    (h : ∀ (w : World) (os : OsState), (topFrom treeTable p w N ⟨boot_heap w.params, Array.mk [], boot_drawn, boot_toks, os⟩).map (fun s => (openSeen q loose (importedModules p.main.body) Xt true s, Yf s)) = some (openGood q loose, Ya w)) : LeftO p q loose Xt Yf Ya N := fun w => by
  obtain ⟨⟨hh, gs, d, k, os⟩, e1, e2⟩ := Option.map_eq_some_iff.mp (boot_open e hN f w)
  obtain ⟨rfl, rfl, rfl, rfl⟩ : hh = boot_heap w.params ∧ gs = Array.mk [] ∧ d = boot_drawn ∧ k = boot_toks := by simpa using e2
  unfold openEnds
  rw [e1]
  exact h w os
end Mine
local macro_rules | `(tactic| o_head $H:term) => `(tactic| (refine holds_open (q := Mine.lawView) (loose := [Str.ofString "_law_private", Str.ofString "_law_others", Str.ofString "_law_mouse", Str.ofString "_law_codings", Str.ofString "_law_out", Str.ofString "_law_first"]) (Xt := fun s => xlAt Mine.lawView [] s && recOk (RowW.records (OpenRow.toRowW (OpenLaw.row PySem.Challenge.rw_og0234_01))) s) (XP := XL Mine.lawView []) (Yf := Hook.obs $H) (Ya := Hook.val $H) (YP := Hook.says $H) (N := 2570) ?hl (Hook.of $H) (Hook.keeps $H) (fun s e => xl_of s (Bool.and_eq_true_iff.mp e).1) XL.keeps (by rfl) (by rfl) (by rfl) (fun s e => recFacts_of (Bool.and_eq_true_iff.mp e).2) (by rfl) (by first | assumption | decide +kernel) (by decide +kernel) ⟨rfl, rfl, rfl, rfl, rfl, by decide +kernel⟩ ?hw ?hc; (case hl => (refine Mine.left_of_boot ?e ?n ?f ?h; (case e => kernel_rfl); (case n => decide +kernel); (case f => (intro s; kernel_rfl)); (case h => (intro w os; unfold topFrom; rw [PySem.W.Fast.te14082659384304107361, PySem.W.Fast.te14364793385576792824, PySem.W.Fast.te4187177175401517315]; kernel_rfl))))))
namespace Mine
open_top hd for PySem.Challenge.rw_og0234_01
end Mine
namespace Mine

noncomputable abbrev pg : Program := PySem.Challenge.rw_og0234_01.row.prog
abbrev NE : Value → Shared → Prop := fun _ _ => False

/-- the surroundings of a call, level by level: a call made under `lv n` runs its body under `(lv n).deeper env`, and may call at `lv (n+1)` -/
abbrev lv (n : Nat) : Around := { handled := none, depth := 310 + 10 * n, frames := none, guards := none, units := 20 + 30 * n }

theorem Under.wp {α : Type} {M : Model} {A B : Around} {t : Sem α} {Q : α → Shared → Prop} {E : Value → Shared → Prop} {s : Shared}
    (h : wpAny M B t Q NE s) (hh : A.handled = none) (hB : B.handled = none) (hf : B.frames = none) (hg : B.guards = none) (hd : A.depth ≤ B.depth) (hu : A.units ≤ B.units) : wpAny M A t Q E s := fun Γ p hΓ =>
  Sem.wp_mono M Γ t (fun _ _ _ x => x) (fun _ _ _ x => x.elim) p s (h Γ p ⟨by rw [hΓ.1, hh, hB], Nat.le_trans hΓ.2.1 hd, fun l hl => (by rw [hf] at hl; cases hl), fun l hl => (by rw [hg] at hl; cases hl), Nat.le_trans hΓ.2.2.2.2 hu⟩)

/-- what stands of the text in a heap -/
structure TopAt (w : World) (mg mb : Str → Option Value) (g : Heap) : Prop where
  X : (hd.heap_39 w.params).In g
  T : TopRead lawView (looseW lawView [Str.ofString "_law_private", Str.ofString "_law_others", Str.ofString "_law_mouse", Str.ofString "_law_codings", Str.ofString "_law_out", Str.ofString "_law_first"]) mg mb g

theorem TopAt.keeps {w : World} {mg mb : Str → Option Value} {g h : Heap} (x : TopAt w mg mb g) (k : ∀ b o, g.get? b = some o → h.get? b = some o) : TopAt w mg mb h := ⟨x.X.keeps k, x.T.keeps k⟩

/-- the objects in hand: they stand in h, and not in the part g that is kept -/
def Has (g h : Heap) (news : List (Addr × Obj)) : Prop := ∀ p ∈ news, h.get? p.1 = some p.2 ∧ g.get? p.1 = none

structure Part (g h : Heap) : Prop where
  keep : ∀ b o, g.get? b = some o → h.get? b = some o
  size : g.objs.size ≤ h.objs.size

theorem enter {w : World} {A : Around} {s : Shared} {g : Heap} {mg mb : Str → Option Value} {news : List (Addr × Obj)} {R : Result → Shared → Prop} {name qual : Str} {params : Arguments} {body : List Stmt} {scope : Scope} {dV kV doc pm cdv ct oc : Value} {an od : Option Addr} {osl : Array (Option Value)} {f : Addr} {args : Args} {binds : List (Str × Value)}
    (T : TopAt w mg mb g) (P : Part g s.heap) (N : Has g s.heap news) (rm : A.depth < recursionLimit)
    (ho : (hd.heap_39 w.params).lookup f = some ⟨oc, od, .func (fnX name qual params body scope [] dV kV doc pm an cdv ct), osl⟩) (hcd : codeIn (hd.heap_39 w.params) cdv qual = true)
    (hbind : BindsTo s (fnX name qual params body scope [] dV kV doc pm an cdv ct) args binds) (hloc : ∀ y ∈ binds, scope.names.lookup y.1 = some .local)
    (h : ∀ L h₁ tk, Fr g L h₁ (fun y => binds.reverse.lookup y) → News g L h₁ news → (∀ p ∈ news, p.1 < L) → s.heap.objs.size ≤ L →
      wpAny (model pg w) (A.deeper (envX qual scope L f cdv [])) (execs body (envX qual scope L f cdv []))
        (fun fl s' => R (.ok (.ret (match fl with | .ret v => v | _ => .none))) s') NE { s with heap := h₁, toks := tk })
    (hcell : ∀ x ∈ scope.names, x.2 ≠ .cell := by decide) (hco : scope.isCoroutine = false := by rfl) (hgen : scope.isGenerator = false := by rfl) (hk : scope.kind = .function := by rfl) : codeAny (model pg w) A (.call (.ref f) args) R s := by
  refine codeAny_call_def (fd := fnX name qual params body scope [] dV kV doc pm an cdv ct) (body := body) (binds := binds) rm (P.keep _ _ (T.X _ _ ho)) rfl (T.T.nolimit.keeps P.keep) (codeRec_of (T.X.keeps P.keep) hcd) rfl hbind hcell hloc (fun h₁ hns hk₁ => ?_) hco hgen hk
  exact wpAny_mono (h s.heap.objs.size h₁ _ ⟨hns, fun b o e => hk₁ _ _ (P.keep b o e), P.size⟩ (fun p hp => ⟨hk₁ _ _ (N p hp).1, Nat.ne_of_lt (Heap.lt_size (N p hp).1), (N p hp).2⟩) (fun p hp => Heap.lt_size (N p hp).1) (Nat.le_refl _)) (fun _ _ x => x) (fun _ _ x => x.elim)

def Fill (_ : OpenLaw) (_ : Params → Frag) : Prop := True
theorem fill0 : Fill PySem.Challenge.rw_og0234_01 hd.heap_39 := by k_fill; exact True.intro
end Mine
namespace Mine
theorem part_of {g h : Heap} {L : Addr} {m : Str → Option Value} (F : Fr g L h m) : Part g h := ⟨F.keep, Nat.le_trans F.above (Nat.le_of_lt F.ns.lt)⟩
theorem has_of {g h : Heap} {L : Addr} {news news' : List (Addr × Obj)} (N : News g L h news) (hs : ∀ p ∈ news', p ∈ news) : Has g h news' := fun p hp => ⟨(N p (hs p hp)).1, (N p (hs p hp)).2.2⟩
theorem fmod_ok {x b : Int} (hb : 0 < b) : 0 ≤ x.fmod b ∧ x.fmod b < b := ⟨Int.fmod_nonneg_of_pos x hb, Int.fmod_lt_of_pos x hb⟩
end Mine
namespace Mine
open PySem.Spec
section plain
variable {K : Type} [DecidableEq K]
/-- a dict of bools, as pairs -/
def bk (st : List (K × Bool)) : List (K × Value) := st.map fun p => (p.1, Value.bool p.2)
def get (st : List (K × Bool)) (k : K) : Option Bool := (st.find? fun p => p.1 = k).map (·.2)
def put (st : List (K × Bool)) (k : K) (b : Bool) : List (K × Bool) :=
  if st.any (fun p => p.1 = k) then st.map (fun p => if p.1 = k then (p.1, b) else p) else st ++ [(k, b)]
omit [DecidableEq K] in
theorem bk_length (st : List (K × Bool)) : (bk st).length = st.length := List.length_map _
theorem valueAt_bk (st : List (K × Bool)) (k : K) : valueAt (bk st) k = (get st k).map Value.bool := by
  induction st with
  | nil => rfl
  | cons p r ih =>
    unfold valueAt get bk at *
    simp only [List.map_cons, List.find?_cons]
    by_cases h : p.1 = k
    · simp [h]
    · simp only [h, decide_false]; exact ih
theorem stored_bk (st : List (K × Bool)) (k : K) (b : Bool) : stored (bk st) k (.bool b) = bk (put st k b) := by
  unfold stored put bk
  have e : ((st.map fun p => (p.1, Value.bool p.2)).any fun kv => decide (kv.1 = k)) = st.any fun p => decide (p.1 = k) := by
    rw [List.any_map]; rfl
  rw [e]
  split
  · rw [List.map_map, List.map_map]
    apply List.map_congr_left
    intro p _
    simp only [Function.comp]
    split <;> rfl
  · simp
theorem put_length (st : List (K × Bool)) (k : K) (b : Bool) : (put st k b).length ≤ st.length + 1 := by
  unfold put; split <;> simp
theorem get_put (st : List (K × Bool)) (k : K) (b : Bool) (x : K) : get (put st k b) x = if x = k then some b else get st x := by
  unfold put
  by_cases h : (st.any fun p => decide (p.1 = k)) = true
  · rw [if_pos h]
    induction st with
    | nil => simp at h
    | cons p r ih =>
      unfold get at *
      simp only [List.map_cons, List.find?_cons]
      by_cases hp : p.1 = k
      · simp only [hp, if_true]
        by_cases hx : x = k
        · simp [hx]
        · have hkx : ¬ k = x := fun e => hx e.symm
          simp only [hkx, decide_false, hx, if_false]
          by_cases hr : (r.any fun p => decide (p.1 = k)) = true
          · have := ih hr; rw [if_neg hx] at this; exact this
          · congr 2
            have : (r.map fun p => if p.1 = k then (p.1, b) else p) = r := by
              refine map_eq_self fun q hq => ?_
              have : ¬ q.1 = k := fun e => hr (List.any_eq_true.mpr ⟨q, hq, by simp [e]⟩)
              simp [this]
            rw [this]
      · simp only [hp, if_false]
        have hr : (r.any fun p => decide (p.1 = k)) = true := by simpa [hp] using h
        by_cases hpx : p.1 = x
        · have : ¬ x = k := fun e => hp (hpx.trans e)
          simp [hpx, this]
        · simp only [hpx, decide_false]; exact ih hr
  · rw [if_neg h]
    have hn : ∀ q ∈ st, ¬ q.1 = k := fun q hq e => h (List.any_eq_true.mpr ⟨q, hq, by simp [e]⟩)
    clear h
    induction st with
    | nil => unfold get; simp only [List.nil_append, List.find?_cons, List.find?_nil]; by_cases hx : x = k
             · simp [hx]
             · have hkx : ¬ k = x := fun e => hx e.symm
               simp [hx, hkx]
    | cons p r ih =>
      unfold get at *
      simp only [List.cons_append, List.find?_cons]
      by_cases hpx : p.1 = x
      · have : ¬ x = k := fun e => hn p (.head _) (hpx.trans e)
        simp [hpx, this]
      · simp only [hpx, decide_false]; exact ih fun q hq => hn q (.tail _ hq)
end plain

section rules
variable {w : World} {A : Around} {E : Value → Shared → Prop} {s : Shared} {h₀ : Heap} {L d : Addr} {m : Str → Option Value} {news : List (Addr × Obj)} {g : Obj → List (Addr × Obj)} {o : Obj} {k : Str} {t : Tok} {b : Bool} {st : List (Str × Bool)}
theorem get_bool {Q : Value → Shared → Prop} (N : News h₀ L s.heap news) (hp : (d, o) ∈ news) (hd : o.IsDictOf (PySem.strKind pg w) (bk st)) (lo : (d == sysModules) = false)
    (h : Q (.bool ((get st k).getD b)) { s with toks := s.toks + 1 }) : wpAny (model pg w) A (call (.builtin "dict.get") [.ref d, .str k t, .bool b]) Q E s := by
  refine kdg_get2 (knd := PySem.strKind _ _) N hp hd lo (strKind_is _ _ _ _) _ (valueAt_bk st k) ?_
  have e : ((get st k).map Value.bool).getD (.bool b) = .bool ((get st k).getD b) := by cases get st k <;> rfl
  rw [e]; exact h
theorem set_bool {Q : Unit → Shared → Prop} (F : Fr h₀ L s.heap m) (N : News h₀ L s.heap news) (U : UpdF d o news g) (hd : o.IsDictOf (PySem.strKind pg w) (bk st)) (hsz : st.length ≤ 1000)
    (h : ∀ h' o', Fr h₀ L h' m → News h₀ L h' (g o') → o'.IsDictOf (PySem.strKind pg w) (bk (put st k b)) → Q () { s with heap := h', toks := s.toks + 1 }) :
    wpAny (model pg w) A (setItem (.ref d) (.str k t) (.bool b)) Q E s :=
  kda_set (knd := PySem.strKind _ _) F N U hd (strKind_is _ _ _ _) (by rw [bk_length, sizeLine_eq]; omega) fun h' o' F' N' hd' => h h' o' F' N' (by rw [stored_bk] at hd'; exact hd')
end rules
end Mine
namespace Mine
section via
variable {w : World} {h₀ h h' : Heap} {L : Addr} {m mg mb : Str → Option Value} {news sub : List (Addr × Obj)}
abbrev gOf (h : Heap) (sub : List (Addr × Obj)) : Heap := hideAll h (sub.map (·.1))
theorem via_sub (N : News h₀ L h news) (hs : ∀ p ∈ sub, p ∈ news) {b : Addr} {o : Obj} (e : h₀.get? b = some o) : b ∉ sub.map (·.1) := fun q => by
  obtain ⟨p, hp, rfl⟩ := List.mem_map.mp q
  rw [(N p (hs p hp)).2.2] at e; cases e
theorem via_top (F : Fr h₀ L h m) (N : News h₀ L h news) (hs : ∀ p ∈ sub, p ∈ news) (T : TopAt w mg mb h₀) : TopAt w mg mb (gOf h sub) :=
  T.keeps fun b o e => hideAll_get _ (F.keep b o e) (via_sub N hs e)
theorem via_part : Part (gOf h sub) h := ⟨fun _ _ e => of_hideAll _ e, Nat.le_of_eq (hideAll_size _ _)⟩
theorem via_has (N : News h₀ L h news) (hs : ∀ p ∈ sub, p ∈ news) : Has (gOf h sub) h sub := fun p hp => ⟨(N p (hs p hp)).1, hideAll_none _ (List.mem_map_of_mem hp)⟩
theorem via_L (N : News h₀ L h news) (hs : ∀ p ∈ sub, p ∈ news) : L ∉ sub.map (·.1) := fun q => by
  obtain ⟨p, hp, e⟩ := List.mem_map.mp q
  exact (N p (hs p hp)).2.1 e
theorem via_fr (F : Fr h₀ L h m) (N : News h₀ L h news) (hs : ∀ p ∈ sub, p ∈ news) (P : Part (gOf h sub) h') : Fr h₀ L h' m :=
  ⟨F.ns.at' fun o e => P.keep _ _ (hideAll_get _ e (via_L N hs)), fun b o e => P.keep _ _ (hideAll_get _ (F.keep b o e) (via_sub N hs e)), F.above⟩
theorem via_read (N : News h₀ L h news) (hs : ∀ p ∈ sub, p ∈ news) (P : Part (gOf h sub) h') (H : ∀ p ∈ sub, h'.get? p.1 = some p.2) : News h₀ L h' news := fun p hp => by
  refine ⟨?_, (N p hp).2⟩
  by_cases q : p.1 ∈ sub.map (·.1)
  · obtain ⟨p', hp', e⟩ := List.mem_map.mp q
    have h1 := (N p hp).1
    have h2 := (N p' (hs p' hp')).1
    rw [e, h1] at h2
    have h3 := H p' hp'
    rw [e] at h3
    rw [h3]; exact h2.symm
  · exact P.keep _ _ (hideAll_get _ (N p hp).1 q)
theorem via_upd {d : Addr} {o o' : Obj} {G : Obj → List (Addr × Obj)} (N : News h₀ L h news) (hs : ∀ p ∈ sub, p ∈ news) (U : UpdF d o news G) (P : Part (gOf h sub) h') (H : ∀ p ∈ sub, p.1 ≠ d → h'.get? p.1 = some p.2) (Hd : h'.get? d = some o') : News h₀ L h' (G o') := by
  obtain ⟨pre, post, rfl, hg, h1, h2⟩ := U.split
  rw [hg]
  have D := N (d, o) (by simp)
  have other : ∀ p ∈ pre ++ (d, o) :: post, p.1 ≠ d → h'.get? p.1 = some p.2 ∧ p.1 ≠ L ∧ h₀.get? p.1 = none := fun p hp hne => by
    refine ⟨?_, (N p hp).2⟩
    by_cases q : p.1 ∈ sub.map (·.1)
    · obtain ⟨p', hp', e⟩ := List.mem_map.mp q
      have h1 := (N p hp).1
      have h2 := (N p' (hs p' hp')).1
      rw [e, h1] at h2
      have h3 := H p' hp' (by rw [e]; exact hne)
      rw [e] at h3
      rw [h3]; exact h2.symm
    · exact P.keep _ _ (hideAll_get _ (N p hp).1 q)
  intro p hp
  rcases List.mem_append.mp hp with q | q
  · exact other p (List.mem_append_left _ q) (h1 p q)
  · rcases List.mem_cons.mp q with rfl | q
    · exact ⟨Hd, D.2⟩
    · exact other p (List.mem_append_right _ (.tail _ q)) (h2 p q)
theorem via_new {a : Addr} {o : Obj} {news' : List (Addr × Obj)} (F : Fr h₀ L h m) (N : News h₀ L h news) (hs : ∀ p ∈ sub, p ∈ news) (N' : News h₀ L h' news') (ha : h'.get? a = some o) (hn : (gOf h sub).get? a = none) : News h₀ L h' ((a, o) :: news') := fun p hp => by
  rcases List.mem_cons.mp hp with rfl | hp
  · refine ⟨ha, fun e => ?_, ?_⟩
    · obtain ⟨oL, _, _, hL, _⟩ := F.ns
      have := hideAll_get (sub.map (·.1)) hL (via_L N hs)
      dsimp only at e
      rw [← e, hn] at this; cases this
    · cases q : h₀.get? a with
      | none => rfl
      | some o' => have := hideAll_get (sub.map (·.1)) (F.keep _ _ q) (via_sub N hs q); rw [hn] at this; cases this
  · exact N' p hp
theorem via_ne {a : Addr} (N : News h₀ L h news) (hn : (gOf h sub).get? a = none) (hsub : ∀ p ∈ sub, p.1 ≠ a) : ∀ p ∈ news, p.1 ≠ a := fun p hp e => by
  by_cases q : p.1 ∈ sub.map (·.1)
  · obtain ⟨p', hp', e'⟩ := List.mem_map.mp q
    exact hsub p' hp' (e'.trans e)
  · have := hideAll_get _ (N p hp).1 q
    rw [e, hn] at this; cases this
end via

/-- what an object of Modes holds -/
abbrev mdict (w : World) (ta tb : Tok) (sd kd : Addr) : Obj := dictOf [⟨PyData.keyHash w.params (Str.ofString "states"), .str (Str.ofString "states") ta, .ref sd⟩, ⟨PyData.keyHash w.params (Str.ofString "kept"), .str (Str.ofString "kept") tb, .ref kd⟩] 2
abbrev ledM (w : World) (x dx sd kd : Addr) (ta tb : Tok) (oS oK : Obj) : List (Addr × Obj) := [(x, instObj 79 dx), (dx, mdict w ta tb sd kd), (sd, oS), (kd, oK)]
abbrev IsSt (w : World) (o : Obj) (st : List (Str × Bool)) : Prop := o.IsDictOf (PySem.strKind pg w) (bk st)
structure NeM (x dx sd kd : Addr) : Prop where
  a : @Ne Nat x dx
  b : @Ne Nat x sd
  c : @Ne Nat x kd
  d : @Ne Nat dx sd
  e : @Ne Nat dx kd
  f : @Ne Nat sd kd
  lo : (sd == sysModules) = false
  lo' : (kd == sysModules) = false
end Mine
namespace Mine
theorem list_keeps {h h' : Heap} {a : Addr} {items : Array Value} (x : h.IsList a items) (k : ∀ b o, h.get? b = some o → h'.get? b = some o) : h'.IsList a items := let ⟨o, ho, r⟩ := x; ⟨o, k a o ho, r⟩
def wMouse : List Str := [Str.ofString "mouse_x10", Str.ofString "mouse_click", Str.ofString "mouse_drag", Str.ofString "mouse_all"]
def wCod : List Str := [Str.ofString "mouse_utf8", Str.ofString "mouse_sgr", Str.ofString "mouse_urxvt", Str.ofString "mouse_pixels"]
def wFirstOn : List Str := [Str.ofString "send_receive", Str.ofString "autowrap", Str.ofString "autorepeat", Str.ofString "show_cursor", Str.ofString "num_lock"]
def wSoftOff : List Str := [Str.ofString "locked", Str.ofString "insert", Str.ofString "origin", Str.ofString "app_cursor", Str.ofString "app_keypad", Str.ofString "side_margins"]
def wSoftFirst : List Str := [Str.ofString "autowrap", Str.ofString "reverse_wrap", Str.ofString "reverse_wrap_far"]
def wOut : List Str := [Str.ofString "locked", Str.ofString "insert", Str.ofString "origin", Str.ofString "app_cursor", Str.ofString "app_keypad", Str.ofString "side_margins", Str.ofString "reverse_wrap", Str.ofString "reverse_wrap_far"]
def wFirst : List Str := [Str.ofString "autorepeat", Str.ofString "autowrap", Str.ofString "num_lock", Str.ofString "send_receive", Str.ofString "show_cursor"]
section tabs
variable {w : World} {mg mb : Str → Option Value} {g : Heap}
theorem t15 (T : TopAt w mg mb g) : ∃ vs, IsTup g 15 (List.toArray vs) ∧ StrsAre vs wMouse := ⟨_, tupK T.X (by k_is), strsMatch_spec (by decide +kernel)⟩
theorem t16 (T : TopAt w mg mb g) : ∃ vs, IsTup g 16 (List.toArray vs) ∧ StrsAre vs wCod := ⟨_, tupK T.X (by k_is), strsMatch_spec (by decide +kernel)⟩
theorem t18 (T : TopAt w mg mb g) : ∃ vs, IsTup g 18 (List.toArray vs) ∧ StrsAre vs wFirstOn := ⟨_, tupK T.X (by k_is), strsMatch_spec (by decide +kernel)⟩
theorem t19 (T : TopAt w mg mb g) : ∃ vs, IsTup g 19 (List.toArray vs) ∧ StrsAre vs wSoftOff := ⟨_, tupK T.X (by k_is), strsMatch_spec (by decide +kernel)⟩
theorem t20 (T : TopAt w mg mb g) : ∃ vs, IsTup g 20 (List.toArray vs) ∧ StrsAre vs wSoftFirst := ⟨_, tupK T.X (by k_is), strsMatch_spec (by decide +kernel)⟩
theorem t169 (T : TopAt w mg mb g) : ∃ vs, g.IsList 169 (List.toArray vs) ∧ StrsAre vs wMouse := ⟨_, lstK T.X (by k_is), strsMatch_spec (by decide +kernel)⟩
theorem t170 (T : TopAt w mg mb g) : ∃ vs, g.IsList 170 (List.toArray vs) ∧ StrsAre vs wCod := ⟨_, lstK T.X (by k_is), strsMatch_spec (by decide +kernel)⟩
theorem t171 (T : TopAt w mg mb g) : ∃ vs, g.IsList 171 (List.toArray vs) ∧ StrsAre vs wOut := ⟨_, lstK T.X (by k_is), strsMatch_spec (by decide +kernel)⟩
theorem t172 (T : TopAt w mg mb g) : ∃ vs, g.IsList 172 (List.toArray vs) ∧ StrsAre vs wFirst := ⟨_, lstK T.X (by k_is), strsMatch_spec (by decide +kernel)⟩
end tabs
/-- the words that are put out with k -/
def groupOf (k : Str) : List Str := if wMouse.any (· == k) = true then wMouse else if wCod.any (· == k) = true then wCod else []
end Mine
namespace Mine
/-- the walk halts here -/
def Stop (P : Prop) : Prop := P
theorem Stop.out {P : Prop} (h : Stop P) : P := h
section loops
variable {prog : Program} {w : World} {A : Around} {E : Value → Shared → Prop} {s : Shared} {env : Env} {h₀ : Heap} {x : Str} {body : List Stmt} {Q : Flow → Shared → Prop}

theorem for_ {px pos : Pos} {iter : Expr} {m : Str → Option Value} (_ : Fr h₀ env.locals s.heap m) (hx : env.kindOf x = some .local)
    (hp : (env.scope.kind == .class || (env.scope.kind == .module && env.locals != env.globals)) = false)
    (h : wpAny (model prog w) A (eval iter env) (fun xv s₁ => wpAny (model prog w) A (pyIter xv) (fun it s₂ => LoopAtV prog w A h₀ env x body Q NE it s₂) NE s₁) NE s)
    (hs : ∀ x, foldedSetIterable iter env x = pure x) : wpAny (model prog w) A (exec (.For (.Name x px) iter body [] pos) env) Q NE s := For_invV h₀ hx hp h hs PassesOwn.never

theorem loop_gen {I : Addr} {fp wr : List Addr} {n : Nat} {P : Nat → Value → Prop} {St : Nat → Heap → Prop} {m₀ : Str → Option Value} {news : List (Addr × Obj)} (J : Nat → (Str → Option Value) → List (Addr × Obj) → Prop)
    (W : Walks prog w A I fp wr n P St) (hLf : env.locals ∉ fp) (hwr : ∀ b ∈ wr, h₀.get? b = none) (hnf : ∀ p ∈ news, p.1 ∉ fp) (hst : St 0 s.heap)
    (F : Fr h₀ env.locals s.heap m₀) (N : News h₀ env.locals s.heap news) (hj : J 0 m₀ news)
    (turn : ∀ i v m₁ news₁ h tk own, i < n → P i v → news₁.map (·.1) = news.map (·.1) → OwnOff own (news.map (·.1)) → J i m₁ news₁ → Fr h₀ env.locals h (fun y => if y = x then some v else m₁ y) → News h₀ env.locals h (news₁ ++ own) →
      wpAny (model prog w) A (execs body env) (InvPostN h₀ env.locals (J (i + 1)) own (news.map (·.1)) { s with heap := h, toks := tk } Q) E { s with heap := h, toks := tk })
    (done : ∀ m₁ news₁ h tk, J n m₁ news₁ → news₁.map (·.1) = news.map (·.1) → Fr h₀ env.locals h m₁ → News h₀ env.locals h news₁ → Q .next { s with heap := h, toks := tk }) :
    LoopAtV prog w A h₀ env x body Q E (.ref I) s := by
  let J' : Nat → (Str → Option Value) → List (Addr × Obj) → Prop := fun i m₁ news₁ => news₁.map (·.1) = news.map (·.1) ∧ J i m₁ news₁
  refine ⟨I, fp, wr, n, P, St, m₀, news, J', rfl, W, hLf, hwr, fun p hp hq => hnf p hp (W.sub _ hq), hst, F, N, ⟨rfl, hj⟩, ?_, ?_⟩
  · rintro i v m₁ news₁ s₁ own ⟨h, tk, rfl⟩ hin hP ⟨hadr, hJ⟩ hoff hown _ _ _ F₁ N₁
    have hsep : OwnOff own (news.map (·.1)) := by
      intro p hp b hb e
      obtain ⟨q, hq, rfl⟩ := List.mem_map.mp hb
      exact hnf q hq (e ▸ hown p hp)
    have N₂ : News h₀ env.locals h (news₁ ++ own) := fun p hp => N₁ p ((List.mem_append.mp hp).elim (fun h => List.mem_append.mpr (.inr h)) fun h => List.mem_append.mpr (.inl h))
    refine wpAny_mono (turn i v m₁ news₁ h tk own hin hP hadr hsep hJ F₁ N₂) (fun f s₂ p => ?_) fun _ _ e => e
    have fin : InvEndN h₀ env.locals (J (i + 1)) own (news.map (·.1)) { s with heap := h, toks := tk } s₂ → LoopStepU h₀ env.locals wr own (J' (i + 1)) { s with heap := h, toks := tk } .next s₂ := by
      rintro ⟨h', tk', m', news', nx, e, F', N', hn, ho, ha, hm⟩
      refine ⟨rfl, h', tk', m', nx, e, F', fun p hp => N' p ((List.mem_append.mp hp).elim (ho p) (hn p)), fun p hp hq => ?_, ha, hm⟩
      have h1 : p.1 ∈ nx.map (·.1) := List.mem_map.mpr ⟨p, hp, rfl⟩
      rw [ha, ← hadr] at h1
      obtain ⟨q, hq1, hq2⟩ := List.mem_map.mp h1
      exact hoff q hq1 (by rw [hq2]; exact hq)
    cases f with
    | ret v => exact .ret p
    | brk => exact .brk p
    | next => exact .next (fin p)
    | cont => exact .cont (fin p)
  · rintro h' tk m' news' F' N' _ ⟨hadr, hJ⟩
    exact done m' news' h' tk hJ hadr F' N'

theorem fr_ne_seq {L a : Addr} {h : Heap} {m : Str → Option Value} {items : Array Value} {n : Nat} {o : Obj} (F : Fr h₀ L h m) (ho : h.get? a = some o) (hd : o.data = .seq items n) : a ≠ L := by
  rintro rfl
  obtain ⟨o', es, ep, ho', hd', _⟩ := F.ns
  rw [ho] at ho'; cases ho'
  rw [hd] at hd'; cases hd'
theorem fr_new {L : Addr} {h : Heap} {m : Str → Option Value} (F : Fr h₀ L h m) : h₀.get? h.objs.size = none := by
  cases q : h₀.get? h.objs.size with
  | none => rfl
  | some o => exact absurd (Heap.lt_size (F.keep _ _ q)) (Nat.lt_irrefl _)

theorem iter_list {a : Addr} {vs : List Value} {m₀ : Str → Option Value} {news : List (Addr × Obj)} (J : Nat → (Str → Option Value) → List (Addr × Obj) → Prop)
    (hh : A.handled = none) (hl : s.heap.IsList a vs.toArray) (F : Fr h₀ env.locals s.heap m₀) (N : News h₀ env.locals s.heap news) (han : ∀ p ∈ news, p.1 ≠ a) (hj : J 0 m₀ news)
    (turn : ∀ i v m₁ news₁ h tk own, vs[i]? = some v → news₁.map (·.1) = news.map (·.1) → OwnOff own (news.map (·.1)) → J i m₁ news₁ → Fr h₀ env.locals h (fun y => if y = x then some v else m₁ y) → News h₀ env.locals h (news₁ ++ own) →
      wpAny (model prog w) A (execs body env) (InvPostN h₀ env.locals (J (i + 1)) own (news.map (·.1)) { s with heap := h, toks := tk } Q) E { s with heap := h, toks := tk })
    (done : ∀ m₁ news₁ h tk, J vs.length m₁ news₁ → news₁.map (·.1) = news.map (·.1) → Fr h₀ env.locals h m₁ → News h₀ env.locals h news₁ → Q .next { s with heap := h, toks := tk }) :
    wpAny (model prog w) A (pyIter (.ref a)) (fun it s₂ => LoopAtV prog w A h₀ env x body Q E it s₂) E s := by
  obtain ⟨ol, hol, _, n, hd⟩ := id hl
  have hlt := Heap.lt_size hol
  have haL := fr_ne_seq F hol hd
  refine wpAny_pyIter_list hl ?_
  have W := Walks.list (prog := prog) (w := w) hh s.heap.objs.size a (Nat.ne_of_lt hlt) vs.toArray
  rw [show vs.toArray.size = vs.length from by simp] at W
  refine loop_gen J W ?_ ?_ ?_ ⟨⟨_, Heap.get?_push_size _ rfl, rfl, rfl⟩, hl.at fun o e => Heap.get?_push_of_some _ e⟩ (F.push _) (fun p hp => ⟨Heap.get?_push_of_some _ (N p hp).1, (N p hp).2⟩) hj ?_ done
  · intro hm
    rcases List.mem_cons.mp hm with e | hm
    · exact absurd F.ns.lt (e ▸ Nat.lt_irrefl _)
    · exact haL (List.mem_singleton.mp hm).symm
  · intro b hb
    rw [List.mem_singleton.mp hb]; exact fr_new F
  · intro p hp hI
    rcases List.mem_cons.mp hI with e | hI
    · exact absurd (Heap.lt_size (N p hp).1) (e ▸ Nat.lt_irrefl _)
    · exact han p hp (List.mem_singleton.mp hI)
  · intro i v m₁ news₁ h tk own _ hP
    exact turn i v m₁ news₁ h tk own (by simpa using hP)

theorem iter_tup {a : Addr} {vs : List Value} {m₀ : Str → Option Value} {news : List (Addr × Obj)} (J : Nat → (Str → Option Value) → List (Addr × Obj) → Prop)
    (hh : A.handled = none) (hl : IsTup s.heap a vs.toArray) (F : Fr h₀ env.locals s.heap m₀) (N : News h₀ env.locals s.heap news) (han : ∀ p ∈ news, p.1 ≠ a) (hj : J 0 m₀ news)
    (turn : ∀ i v m₁ news₁ h tk own, vs[i]? = some v → news₁.map (·.1) = news.map (·.1) → OwnOff own (news.map (·.1)) → J i m₁ news₁ → Fr h₀ env.locals h (fun y => if y = x then some v else m₁ y) → News h₀ env.locals h (news₁ ++ own) →
      wpAny (model prog w) A (execs body env) (InvPostN h₀ env.locals (J (i + 1)) own (news.map (·.1)) { s with heap := h, toks := tk } Q) E { s with heap := h, toks := tk })
    (done : ∀ m₁ news₁ h tk, J vs.length m₁ news₁ → news₁.map (·.1) = news.map (·.1) → Fr h₀ env.locals h m₁ → News h₀ env.locals h news₁ → Q .next { s with heap := h, toks := tk }) :
    wpAny (model prog w) A (pyIter (.ref a)) (fun it s₂ => LoopAtV prog w A h₀ env x body Q E it s₂) E s := by
  obtain ⟨ol, hol, _, n, hd⟩ := id hl
  have hlt := Heap.lt_size hol
  have haL := fr_ne_seq F hol hd
  refine wpAny_pyIter_tuple hl ?_
  have W := Walks.tuple (prog := prog) (w := w) hh s.heap.objs.size a (Nat.ne_of_lt hlt) vs.toArray
  rw [show vs.toArray.size = vs.length from by simp] at W
  refine loop_gen J W ?_ ?_ ?_ ⟨⟨_, Heap.get?_push_size _ rfl, rfl, rfl⟩, IsTup.push hl _⟩ (F.push _) (fun p hp => ⟨Heap.get?_push_of_some _ (N p hp).1, (N p hp).2⟩) hj ?_ done
  · intro hm
    rcases List.mem_cons.mp hm with e | hm
    · exact absurd F.ns.lt (e ▸ Nat.lt_irrefl _)
    · exact haL (List.mem_singleton.mp hm).symm
  · intro b hb
    rw [List.mem_singleton.mp hb]; exact fr_new F
  · intro p hp hI
    rcases List.mem_cons.mp hI with e | hI
    · exact absurd (Heap.lt_size (N p hp).1) (e ▸ Nat.lt_irrefl _)
    · exact han p hp (List.mem_singleton.mp hI)
  · intro i v m₁ news₁ h tk own _ hP
    exact turn i v m₁ news₁ h tk own (by simpa using hP)
end loops
def offs (st : List (Str × Bool)) (ws : List Str) : List (Str × Bool) := ws.foldl (fun a o => put a o false) st
theorem offs_length (st : List (Str × Bool)) (ws : List Str) : (offs st ws).length ≤ st.length + ws.length := by
  induction ws generalizing st with
  | nil => exact Nat.le_refl _
  | cons a r ih =>
    have := ih (put st a false)
    have := put_length st a false
    unfold offs at *
    simp only [List.foldl_cons, List.length_cons]
    omega
theorem offs_take {st : List (Str × Bool)} {ws : List Str} {i : Nat} {k : Str} (h : ws[i]? = some k) : offs st (ws.take (i + 1)) = put (offs st (ws.take i)) k false := by
  unfold offs
  rw [List.take_add_one, h]; simp
theorem groupOf_length (k : Str) : (groupOf k).length ≤ 4 := by unfold groupOf; split; decide; split; decide; decide
/-- what `set` leaves -/
def setM (st : List (Str × Bool)) (k : Str) (b : Bool) : List (Str × Bool) := put (if b = true then offs st (groupOf k) else st) k b
end Mine
namespace Mine
section loops2
variable {prog : Program} {w : World} {A : Around} {E : Value → Shared → Prop} {s : Shared} {env : Env} {h₀ : Heap} {x : Str} {body : List Stmt} {Q : Flow → Shared → Prop}
/-- a turn that stores no name but the loop's own -/
abbrev Jq (x : Str) (m₀ : Str → Option Value) (Jl : List (Addr × Obj) → Prop) (m' : Str → Option Value) (nx : List (Addr × Obj)) : Prop := Jl nx ∧ ∀ z, z ≠ x → m' z = m₀ z
theorem jq_fun {m₁ m₀ : Str → Option Value} {v : Value} (h : ∀ z, z ≠ x → m₁ z = m₀ z) : (fun y => if y = x then some v else m₁ y) = fun y => if y = x then some v else m₀ y := by
  funext y
  by_cases q : y = x
  · rw [if_pos q, if_pos q]
  · rw [if_neg q, if_neg q]; exact h y q
theorem jq_fun' {m₁ m₀ : Str → Option Value} (h : ∀ z, z ≠ x → m₁ z = m₀ z) : m₁ = fun y => if y = x then m₁ y else m₀ y := by
  funext y
  by_cases q : y = x
  · rw [if_pos q]
  · rw [if_neg q]; exact h y q
theorem iter_tup_q {a : Addr} {vs : List Value} {m₀ : Str → Option Value} {news : List (Addr × Obj)} (Jl : Nat → List (Addr × Obj) → Prop)
    (hh : A.handled = none) (hl : IsTup s.heap a vs.toArray) (F : Fr h₀ env.locals s.heap m₀) (N : News h₀ env.locals s.heap news) (han : ∀ p ∈ news, p.1 ≠ a) (hj : Jl 0 news)
    (turn : ∀ i v news₁ h tk own, vs[i]? = some v → OwnOff own (news.map (·.1)) → Jl i news₁ → Fr h₀ env.locals h (fun y => if y = x then some v else m₀ y) → News h₀ env.locals h (news₁ ++ own) →
      wpAny (model prog w) A (execs body env) (InvPostN h₀ env.locals (Jq x m₀ (Jl (i + 1))) own (news.map (·.1)) { s with heap := h, toks := tk } Q) E { s with heap := h, toks := tk })
    (done : ∀ (u : Str → Option Value) news₁ h tk, Jl vs.length news₁ → news₁.map (·.1) = news.map (·.1) → Fr h₀ env.locals h (fun y => if y = x then u y else m₀ y) → News h₀ env.locals h news₁ → Q .next { s with heap := h, toks := tk }) :
    wpAny (model prog w) A (pyIter (.ref a)) (fun it s₂ => LoopAtV prog w A h₀ env x body Q E it s₂) E s :=
  iter_tup (fun i => Jq x m₀ (Jl i)) hh hl F N han ⟨hj, fun _ _ => rfl⟩
    (fun i v m₁ news₁ h tk own hv _ ho ⟨h1, h2⟩ F₁ N₁ => turn i v news₁ h tk own hv ho h1 (jq_fun h2 ▸ F₁) N₁)
    fun m₁ news₁ h tk ⟨h1, h2⟩ ha F₁ N₁ => done m₁ news₁ h tk h1 ha (jq_fun' h2 ▸ F₁) N₁
theorem iter_list_q {a : Addr} {vs : List Value} {m₀ : Str → Option Value} {news : List (Addr × Obj)} (Jl : Nat → List (Addr × Obj) → Prop)
    (hh : A.handled = none) (hl : s.heap.IsList a vs.toArray) (F : Fr h₀ env.locals s.heap m₀) (N : News h₀ env.locals s.heap news) (han : ∀ p ∈ news, p.1 ≠ a) (hj : Jl 0 news)
    (turn : ∀ i v news₁ h tk own, vs[i]? = some v → OwnOff own (news.map (·.1)) → Jl i news₁ → Fr h₀ env.locals h (fun y => if y = x then some v else m₀ y) → News h₀ env.locals h (news₁ ++ own) →
      wpAny (model prog w) A (execs body env) (InvPostN h₀ env.locals (Jq x m₀ (Jl (i + 1))) own (news.map (·.1)) { s with heap := h, toks := tk } Q) E { s with heap := h, toks := tk })
    (done : ∀ (u : Str → Option Value) news₁ h tk, Jl vs.length news₁ → news₁.map (·.1) = news.map (·.1) → Fr h₀ env.locals h (fun y => if y = x then u y else m₀ y) → News h₀ env.locals h news₁ → Q .next { s with heap := h, toks := tk }) :
    wpAny (model prog w) A (pyIter (.ref a)) (fun it s₂ => LoopAtV prog w A h₀ env x body Q E it s₂) E s :=
  iter_list (fun i => Jq x m₀ (Jl i)) hh hl F N han ⟨hj, fun _ _ => rfl⟩
    (fun i v m₁ news₁ h tk own hv _ ho ⟨h1, h2⟩ F₁ N₁ => turn i v news₁ h tk own hv ho h1 (jq_fun h2 ▸ F₁) N₁)
    fun m₁ news₁ h tk ⟨h1, h2⟩ ha F₁ N₁ => done m₁ news₁ h tk h1 ha (jq_fun' h2 ▸ F₁) N₁
end loops2
/-- a tuple or a list is no dict -/
theorem seq_off {h : Heap} {a : Addr} {items : Array Value} {n : Nat} {ol : Obj} (ho : h.get? a = some ol) (hd : ol.data = .seq items n) {p : Addr × Obj} (hp : h.get? p.1 = some p.2) (hn : ∀ xs k, p.2.data ≠ .seq xs k) : p.1 ≠ a := by
  rintro rfl
  rw [ho] at hp; cases hp
  exact hn _ _ hd
theorem isDict_no_seq {K : Type} [DecidableEq K] {prog : Program} {w : World} {knd : KeyKind prog w K} {o : Obj} {kvs : List (K × Value)} (h : o.IsDictOf knd kvs) : ∀ xs k, o.data ≠ .seq xs k := by
  obtain ⟨es, ep, _, hd, _⟩ := h
  intro xs k e
  rw [hd] at e; cases e
end Mine
namespace Mine
theorem ledM_off {w : World} {h : Heap} {a x dx sd kd : Addr} {ta tb : Tok} {oS oK ol : Obj} {items : Array Value} {n : Nat} {st kp : List (Str × Bool)} (ho : h.get? a = some ol) (hd : ol.data = .seq items n)
    (H : ∀ p ∈ ledM w x dx sd kd ta tb oS oK, h.get? p.1 = some p.2) (hS : IsSt w oS st) (hK : IsSt w oK kp) : ∀ p ∈ ledM w x dx sd kd ta tb oS oK, p.1 ≠ a :=
  List.forall_mem_cons.mpr ⟨seq_off ho hd (H _ (by k_memK)) (by intro _ _ e; cases e), List.forall_mem_cons.mpr ⟨seq_off ho hd (H _ (by k_memK)) (by intro _ _ e; cases e), List.forall_mem_cons.mpr ⟨seq_off ho hd (H _ (by k_memK)) (isDict_no_seq hS), List.forall_mem_cons.mpr ⟨seq_off ho hd (H _ (by k_memK)) (isDict_no_seq hK), List.forall_mem_nil _⟩⟩⟩⟩
end Mine
namespace Mine
section sorting
variable {prog : Program} {w : World} {A : Around} {E : Value → Shared → Prop} {s : Shared} {h₀ : Heap} {L d : Addr} {m : Str → Option Value} {news : List (Addr × Obj)} {o : Obj} {Q : Value → Shared → Prop}
theorem ints_by : ∀ {vs : List Value} {ns : List Int}, vs.length = ns.length → (∀ (j : Nat) (v : Value), vs[j]? = some v → ∃ (n : Int) (t : Tok), ns[j]? = some n ∧ v = Value.int n t) → IntsAre vs ns
  | [], [], _, _ => .nil
  | [], _ :: _, h, _ => by cases h
  | _ :: _, [], h, _ => by cases h
  | v :: vs, n :: ns, h, hv => by
    obtain ⟨n', t, e1, rfl⟩ := hv 0 v rfl
    cases e1
    exact .cons _ _ (ints_by (Nat.succ.inj h) fun j v' e => hv (j + 1) v' e)
theorem strs_by : ∀ {vs : List Value} {ns : List Str}, vs.length = ns.length → (∀ (j : Nat) (v : Value), vs[j]? = some v → ∃ (n : Str) (t : Tok), ns[j]? = some n ∧ v = Value.str n t) → StrsAre vs ns
  | [], [], _, _ => .nil
  | [], _ :: _, h, _ => by cases h
  | _ :: _, [], h, _ => by cases h
  | v :: vs, n :: ns, h, hv => by
    obtain ⟨n', t, e1, rfl⟩ := hv 0 v rfl
    cases e1
    exact .cons _ _ (strs_by (Nat.succ.inj h) fun j v' e => hv (j + 1) v' e)
theorem sort_back {h : Heap} {B : Addr} {vs : List Value} {out : Array Value} {n : Nat} (F : Fr h₀ L h m) (N : News h₀ L h ((B, seqObj "list" vs.toArray n) :: news)) (hB : ∀ p ∈ news, p.1 < B) :
    Fr h₀ L (sortedHeap h B vs out) m ∧ ∃ e, News h₀ L (sortedHeap h B vs out) ((B, seqObj "list" out.toList.toArray e) :: news) := by
  have hb := N _ (.head _)
  obtain ⟨e, he⟩ := sortedHeap_at (out := out) hb.1
  have old : ∀ b o, b ≠ B → h.get? b = some o → (sortedHeap h B vs out).get? b = some o := fun b o hne e => (sortedHeap_old hne (Heap.lt_size e)).trans e
  refine ⟨⟨F.ns.at' fun o e => old _ _ (Ne.symm hb.2.1) e, fun b o e => old _ _ (fun q => ?_) (F.keep b o e), F.above⟩, e, fun p hp => ?_⟩
  · rw [q, hb.2.2] at e; cases e
  · rcases List.mem_cons.mp hp with rfl | hp
    · exact ⟨by simpa using he, hb.2⟩
    · exact ⟨old _ _ (Nat.ne_of_lt (hB p hp)) (N p (.tail _ hp)).1, (N p (.tail _ hp)).2⟩
theorem sorted_dict_int {kvs : List (Int × Value)} (hh : A.handled = none) (F : Fr h₀ L s.heap m) (N : News h₀ L s.heap news) (hp : (d, o) ∈ news) (hd : o.IsDictOf (PySem.intKind prog w) kvs) (lo : (d == sysModules) = false) (h64 : kvs.length < 64)
    (h : ∀ D h' tk vs ns e, Fr h₀ L h' m → News h₀ L h' ((D, seqObj "list" (List.toArray vs) e) :: news) → (∀ p ∈ news, p.1 < D) → IntsAre vs ns → ns.Perm (kvs.map (·.1)) → ns.Pairwise (· ≤ ·) → Q (.ref D) { s with heap := h', toks := tk }) :
    wpAny (model prog w) A (call (.builtin "sorted") [.ref d]) Q E s := by
  obtain ⟨ep, hat⟩ := (kda_dict N hp hd).dictAt
  refine kdu_sorted (kdl_dict (knd := PySem.intKind prog w) (kvs := kvs) (ep := ep) lo) hh F N hat (by rw [sizeLine_eq]; omega) fun B h' tk vs F' N' l1 hl hv => ?_
  have hI : IntsAre vs (kvs.map (·.1)) := ints_by (by simpa using hl) fun j v e => by
    obtain ⟨k, x, hk, hi⟩ := hv j v e
    obtain ⟨t, rfl⟩ := Value.isInt_shape hi
    exact ⟨k, t, by simp [hk], rfl⟩
  refine wpAny_call_entry slot_list_sort ⟨_, (N' _ (.head _)).1, rfl⟩ entry_list_sort (list_sort_tree (n := 0) (vs := vs) (N' _ (.head _)).1 hI (by omega) fun out ns' hI' hp' hP => ⟨.none, rfl, ?_⟩) (args_list_sort _)
  obtain ⟨F2, e, N2⟩ := sort_back (out := out) F' N' l1
  exact h B _ tk out.toList ns' e F2 N2 l1 hI' hp' hP
theorem sorted_dict_str {kvs : List (Str × Value)} (hh : A.handled = none) (F : Fr h₀ L s.heap m) (N : News h₀ L s.heap news) (hp : (d, o) ∈ news) (hd : o.IsDictOf (PySem.strKind prog w) kvs) (lo : (d == sysModules) = false) (h64 : kvs.length < 64)
    (h : ∀ D h' tk vs ns e, Fr h₀ L h' m → News h₀ L h' ((D, seqObj "list" (List.toArray vs) e) :: news) → (∀ p ∈ news, p.1 < D) → StrsAre vs ns → ns.Perm (kvs.map (·.1)) → sortedS ns = true → Q (.ref D) { s with heap := h', toks := tk }) :
    wpAny (model prog w) A (call (.builtin "sorted") [.ref d]) Q E s := by
  obtain ⟨ep, hat⟩ := (kda_dict N hp hd).dictAt
  refine kdu_sorted (kdl_dict (knd := PySem.strKind prog w) (kvs := kvs) (ep := ep) lo) hh F N hat (by rw [sizeLine_eq]; omega) fun B h' tk vs F' N' l1 hl hv => ?_
  have hI : StrsAre vs (kvs.map (·.1)) := strs_by (by simpa using hl) fun j v e => by
    obtain ⟨k, x, hk, hi⟩ := hv j v e
    obtain ⟨t, rfl⟩ := Value.isStrOf_shape hi
    exact ⟨k, t, by simp [hk], rfl⟩
  refine wpAny_call_entry slot_list_sort ⟨_, (N' _ (.head _)).1, rfl⟩ entry_list_sort (list_sort_treeK (n := 0) (vs := vs) strKind_oneLt (N' _ (.head _)).1 hI.keysOf (fun v₁ v₂ rest e => keyKind_strs (by rw [← e]; exact hI)) (by omega) fun st' hp' hs => ⟨.none, rfl, ?_⟩) (args_list_sort _)
  obtain ⟨ss', h1, h2, h3⟩ := sorted_out_str hI hp' hs
  obtain ⟨F2, e, N2⟩ := sort_back (out := (arrOf st').map (·.2)) F' N' l1
  exact h B _ tk _ ss' e F2 N2 l1 h1 h2 h3
end sorting
end Mine
namespace Mine
def nFixed : List Int := [1, 5, 7, 10, 11, 13, 14, 15, 16, 17, 18, 19]
def intsMatch : List Value → List Int → Bool
  | [], [] => true
  | .int a _ :: vs, n :: ns => a == n && intsMatch vs ns
  | _, _ => false
theorem intsMatch_spec : ∀ {vs : List Value} {ns : List Int}, intsMatch vs ns = true → IntsAre vs ns := by
  intro vs ns h
  induction vs, ns using intsMatch.induct with
  | case1 => exact .nil
  | case2 a t vs n ns ih =>
    simp only [intsMatch, Bool.and_eq_true, beq_iff_eq] at h
    obtain ⟨rfl, h⟩ := h
    exact .cons _ _ (ih h)
  | case3 vs ns h1 h2 => unfold intsMatch at h; split at h <;> first | exact (h1 rfl rfl).elim | (exfalso; apply h2 <;> rfl) | cases h
theorem t17 {w : World} {mg mb : Str → Option Value} {g : Heap} (T : TopAt w mg mb g) : ∃ vs, IsTup g 17 (List.toArray vs) ∧ IntsAre vs nFixed := ⟨_, tupK T.X (by k_is), intsMatch_spec (by decide +kernel)⟩
end Mine
local macro_rules | `(tactic| walk_at "nmx") => `(tactic| (k_here; k_dflt (refine' nameX_L ?F ?v ?_ ?a ?b; (case F => k_asm); (case a | b => rfl); (case v => assumption); k_whole)))
local macro_rules | `(tactic| walk_at "call builtin:dict.get") => `(tactic| (k_here; (with_reducible show wpAny _ _ (call (Value.builtin "dict.get") [Value.ref _, Value.str _ _, Value.bool _]) _ _ _); k_dflt (refine Mine.get_bool (by k_asm) (by k_mem) (by k_asm) (by k_asm) ?_)))
local macro_rules | `(tactic| walk_at "setItem ref str") => `(tactic| (k_here; (with_reducible show wpAny _ _ (setItem (Value.ref _) (Value.str _ _) (Value.bool _)) _ _ _); k_dflt (refine' Mine.set_bool (by k_asm) (by k_asm) (by k_updF) (by k_asm) (by omega) ?_); intro h' o' F' N' hd'; (try dsimp only at N'); (try k_sweep)))
local macro_rules | `(tactic| walk_at "compareOp In str ref") => `(tactic| (k_here; (with_reducible show wpAny _ _ (compareOp CmpOp.In (Value.str _ _) (Value.ref _)) _ _ _); k_dflt (first
  | (refine in_tuple_strs (IsTup.keeps (by with_reducible assumption) (Fr.keep (by with_reducible assumption))) (by with_reducible assumption) ?_)
  | (refine in_list_strs (Mine.list_keeps (by with_reducible assumption) (Fr.keep (by with_reducible assumption))) (by with_reducible assumption) ?_))))
local macro_rules | `(tactic| walk_at "compareOp NotIn str ref") => `(tactic| (k_here; (with_reducible show wpAny _ _ (compareOp CmpOp.NotIn (Value.str _ _) (Value.ref _)) _ _ _); k_dflt (first
  | (refine notin_tuple_strs (IsTup.keeps (by with_reducible assumption) (Fr.keep (by with_reducible assumption))) (by with_reducible assumption) ?_)
  | (refine notin_list_strs (Mine.list_keeps (by with_reducible assumption) (Fr.keep (by with_reducible assumption))) (by with_reducible assumption) ?_))))
local macro_rules | `(tactic| walk_at "exec For Name Name cons nil") => `(tactic| (k_here; (rename Fr _ _ _ _ => lF'); with_unfolding_all refine' Mine.for_ lF' ?k1 ?k2 ?_ ?k3; (case k1 | k2 => exact rfl); (case k3 => intro _; exact rfl)))
local macro_rules | `(tactic| walk_at "exec For Name Call cons nil") => `(tactic| (k_here; (rename Fr _ _ _ _ => lF'); with_unfolding_all refine' Mine.for_ lF' ?k1 ?k2 ?_ ?k3; (case k1 | k2 => exact rfl); (case k3 => intro _; exact rfl)))
local macro_rules | `(tactic| walk_at "pyIter ref") => `(tactic| (k_here; (with_reducible show wpAny _ _ (pyIter (Value.ref _)) (fun it s₂ => LoopAtV _ _ _ _ _ _ _ _ _ it s₂) _ _); refine Mine.Stop.out ?_))
local macro_rules | `(tactic| walk_at "exec For Name Tuple cons nil") => `(tactic| (k_here; (rename Fr _ _ _ _ => lF'); with_unfolding_all refine' Mine.for_ lF' ?k1 ?k2 ?_ ?k3; (case k1 | k2 => exact rfl); (case k3 => intro _; exact rfl)))
local macro_rules | `(tactic| walk_at "call builtin:sorted") => `(tactic| (k_here; (with_reducible show wpAny _ _ (call (Value.builtin "sorted") [Value.ref _]) _ _ _); k_dflt (first
  | (refine' Mine.sorted_dict_int (by exact rfl) (by k_asm) (by k_asm) (by k_memK) (by with_reducible assumption) (by with_reducible assumption) (by omega) ?_; intro D' h' tk' vs' ns' e' F' N' l1 iS' pS' oS'; (try simp only [List.forall_mem_cons, List.forall_mem_nil, and_true] at l1))
  | (refine' Mine.sorted_dict_str (by exact rfl) (by k_asm) (by k_asm) (by k_memK) (by with_reducible assumption) (by with_reducible assumption) (by omega) ?_; intro D' h' tk' vs' ns' e' F' N' l1 iS' pS' oS'; (try simp only [List.forall_mem_cons, List.forall_mem_nil, and_true] at l1)))))
namespace Mine
theorem draw_code {w : World} {s : Shared} {g : Heap} {mg mb : Str → Option Value} {R : Result → Shared → Prop} {d c : Addr} {oD : Obj} {cs : List Int} {vs : List Value} {n : Int} {t u : Tok} {b : Int}
    (T : TopAt w mg mb g) (P : Part g s.heap) (N : Has g s.heap [(d, oD)])
    (hd : oD.IsDictOf (PySem.strKind pg w) [(Str.ofString "cells", .ref c), (Str.ofString "at", .int n t)])
    (hl : g.IsList c vs.toArray) (hi : IntsAre vs cs) (hn : 0 ≤ n) (hn' : n < 100000) (hb : 0 < b) (hb' : b < 1000) (hlo : (d == sysModules) = false) (hlen : cs.length ≤ 100) (hkl : vs.length = cs.length)
    (hR : ∀ h' tk o' r t' t'', Part g h' → Has g h' [(d, o')] → o'.IsDictOf (PySem.strKind pg w) [(Str.ofString "cells", .ref c), (Str.ofString "at", .int (n+1) t')] → 0 ≤ r → r < b → R (.ok (.ret (.int r t''))) { s with heap := h', toks := tk }) :
    codeAny (model pg w) (lv 5) (.call (.ref 184) ⟨[.ref d, .int b u], []⟩) R s := by
  have X := T.X
  have TT := T.T
  refine enter T P N (by decide) (f := 184) (by k_is) (by k_is) (BindsTo.of_eq rfl) (locs rfl) ?_
  intro L h₁ tk₁ F N' l1 l2
  try (k_lt l1)
  try dsimp only
  try k_fold
  k_steps
  all_goals first
    | (rename Fr _ _ _ _ => F'; rename News _ _ _ _ => N''; rename Obj.IsDictOf _ _ _ => hd'; exact hR _ _ _ _ _ _ (part_of F') (has_of N'' (by k_allIn)) hd' (fmod_ok hb).1 (fmod_ok hb).2)
    | (show False; rename decide (cs = []) = false => hc; exact (of_decide_eq_false hc) (List.eq_nil_of_length_eq_zero (by omega)))
end Mine
namespace Mine
theorem is_on_code {w : World} {s : Shared} {g : Heap} {mg mb : Str → Option Value} {R : Result → Shared → Prop} {x dx sd kd : Addr} {oS oK : Obj} {st : List (Str × Bool)} {ta tb : Tok} {k : Str} {t : Tok}
    (T : TopAt w mg mb g) (P : Part g s.heap) (N : Has g s.heap (ledM w x dx sd kd ta tb oS oK))
    (hS : IsSt w oS st) (ne : NeM x dx sd kd)
    (hR : ∀ h' tk, Part g h' → Has g h' (ledM w x dx sd kd ta tb oS oK) → R (.ok (.ret (.bool ((get st k).getD false)))) { s with heap := h', toks := tk }) :
    codeAny (model pg w) (lv 6) (.call (.ref 69) ⟨[.ref x, .str k t], []⟩) R s := by
  have X := T.X
  have TT := T.T
  have lo := ne.lo
  refine enter T P N (by decide) (f := 69) (by k_is) (by k_is) (BindsTo.of_eq rfl) (locs rfl) ?_
  intro L h₁ tk₁ F N' l1 l2
  try (k_lt l1)
  dsimp only [ledM, mdict] at N'
  dsimp only [IsSt] at hS
  try dsimp only
  try k_fold
  k_steps
  all_goals (rename Fr _ _ _ _ => F'; rename News _ _ _ _ => N''; exact hR _ _ (part_of F') (has_of N'' (by k_allIn)))

theorem group_code {w : World} {s : Shared} {g : Heap} {mg mb : Str → Option Value} {R : Result → Shared → Prop} {k : Str} {t : Tok}
    (T : TopAt w mg mb g) (P : Part g s.heap)
    (hR : ∀ h' tk a vs, Part g h' → IsTup h' a (List.toArray vs) → StrsAre vs (groupOf k) → R (.ok (.ret (.ref a))) { s with heap := h', toks := tk }) :
    codeAny (model pg w) (lv 8) (.call (.ref 48) ⟨[.str k t], []⟩) R s := by
  have X := T.X
  have TT := T.T
  obtain ⟨v15, h15, i15⟩ := t15 T
  obtain ⟨v16, h16, i16⟩ := t16 T
  refine enter T P (news := []) (fun _ h => nomatch h) (by decide) (f := 48) (by k_is) (by k_is) (BindsTo.of_eq rfl) (locs rfl) ?_
  intro L h₁ tk₁ F N' l1 l2
  try (k_lt l1)
  try dsimp only
  try k_fold
  k_steps
  · rename Fr _ _ _ _ => F'
    exact hR _ _ _ _ (part_of F') (IsTup.keeps h15 F'.keep) (by rw [groupOf, if_pos (by assumption)]; exact i15)
  · rename Fr _ _ _ _ => F'
    rename (wMouse.any fun x => x == k) = false => e1
    exact hR _ _ _ _ (part_of F') (IsTup.keeps h16 F'.keep) (by rw [groupOf, e1, if_neg Bool.false_ne_true, if_pos (by assumption)]; exact i16)
  · rename Fr _ _ _ _ => F'
    rename News _ _ _ _ => N''
    rename (wMouse.any fun x => x == k) = false => e1
    rename (wCod.any fun x => x == k) = false => e2
    exact hR _ _ _ [] (part_of F') ⟨_, (N'' _ (.head _)).1, rfl, _, rfl⟩ (by rw [groupOf, e1, e2, if_neg Bool.false_ne_true, if_neg Bool.false_ne_true]; exact .nil)

section
variable {w : World} {A : Around} {E : Value → Shared → Prop} {s : Shared} {h₀ : Heap} {L : Addr} {m mg mb : Str → Option Value} {news : List (Addr × Obj)} {Q : Value → Shared → Prop}
theorem is_on_K {x dx sd kd : Addr} {oS oK : Obj} {st : List (Str × Bool)} {ta tb : Tok} {k : Str} {t : Tok} (hh : A.handled = none) (hd : A.depth ≤ 370) (hu : A.units ≤ 200)
    (F : Fr h₀ L s.heap m) (N : News h₀ L s.heap news) (T : TopAt w mg mb h₀) (hs : ∀ p ∈ ledM w x dx sd kd ta tb oS oK, p ∈ news) (hS : IsSt w oS st) (ne : NeM x dx sd kd)
    (h : ∀ h' tk, Fr h₀ L h' m → News h₀ L h' news → Q (.bool ((get st k).getD false)) { s with heap := h', toks := tk }) : wpAny (model pg w) A (call (.ref 69) [.ref x, .str k t]) Q E s :=
  Under.wp (B := lv 6) (wpAny_call (is_on_code (via_top F N hs T) via_part (via_has N hs) hS ne fun h' tk P H => h h' tk (via_fr F N hs P) (via_read N hs P fun p hp => (H p hp).1))) hh rfl rfl rfl hd hu
theorem group_K {k : Str} {t : Tok} (hh : A.handled = none) (hd : A.depth ≤ 390) (hu : A.units ≤ 260)
    (F : Fr h₀ L s.heap m) (N : News h₀ L s.heap news) (T : TopAt w mg mb h₀)
    (h : ∀ h' tk a vs, Fr h₀ L h' m → News h₀ L h' news → IsTup h' a (List.toArray vs) → StrsAre vs (groupOf k) → Q (.ref a) { s with heap := h', toks := tk }) : wpAny (model pg w) A (call (.ref 48) [.str k t]) Q E s :=
  have hs : ∀ p ∈ ([] : List (Addr × Obj)), p ∈ news := fun _ h => nomatch h
  Under.wp (B := lv 8) (wpAny_call (group_code (via_top F N hs T) via_part fun h' tk a vs P ht hi => h h' tk a vs (via_fr F N hs P) (via_read N hs P fun _ h => nomatch h) ht hi)) hh rfl rfl rfl hd hu
end
end Mine
local macro_rules | `(tactic| walk_at "call ref") => `(tactic| (k_here; (with_reducible show wpAny _ _ (call (Value.ref 69) [Value.ref _, Value.str _ _]) _ _ _); (refine' Mine.is_on_K (by exact rfl) (by exact Nat.le_of_ble_eq_true rfl) (by exact Nat.le_of_ble_eq_true rfl) (by k_asm) (by k_asm) (by k_asm) (by k_allIn) (by k_asm) (by k_asm) ?_); intro h' tk' F' N'; (try k_sweep)))
local macro_rules | `(tactic| walk_at "call ref") => `(tactic| (k_here; (with_reducible show wpAny _ _ (call (Value.ref 48) [Value.str _ _]) _ _ _); (refine' Mine.group_K (by exact rfl) (by exact Nat.le_of_ble_eq_true rfl) (by exact Nat.le_of_ble_eq_true rfl) (by k_asm) (by k_asm) (by k_asm) ?_); intro h' tk' a' vs' F' N' tG' tI'; (try k_sweep)))
namespace Mine
theorem set_code {w : World} {s : Shared} {g : Heap} {mg mb : Str → Option Value} {R : Result → Shared → Prop} {x dx sd kd : Addr} {oS oK : Obj} {st : List (Str × Bool)} {ta tb : Tok} {k : Str} {t : Tok} {b : Bool}
    (T : TopAt w mg mb g) (P : Part g s.heap) (N : Has g s.heap (ledM w x dx sd kd ta tb oS oK))
    (hS : IsSt w oS st) {kp : List (Str × Bool)} (hK : IsSt w oK kp) (ne : NeM x dx sd kd) (hz : st.length ≤ 900)
    (hR : ∀ h' tk o', Part g h' → Has g h' (ledM w x dx sd kd ta tb o' oK) → IsSt w o' (setM st k b) → R (.ok (.ret .none)) { s with heap := h', toks := tk }) :
    codeAny (model pg w) (lv 6) (.call (.ref 76) ⟨[.ref x, .str k t, .bool b], []⟩) R s := by
  have X := T.X
  have TT := T.T
  have lo := ne.lo
  have ⟨n1, n2, n3, n4, n5, n6, _, _⟩ := ne
  refine enter T P N (by decide) (f := 76) (by k_is) (by k_is) (BindsTo.of_eq rfl) (locs rfl) ?_
  intro L h₁ tk₁ F N' l1 l2
  try (k_lt l1)
  dsimp only [ledM, mdict] at N'
  dsimp only [IsSt] at hS
  try dsimp only
  try k_fold
  k_steps
  · rename IsTup _ _ _ => tG
    rename StrsAre _ _ => tI
    rename Fr _ _ _ _ => F2
    rename News _ _ _ _ => N2
    rename b = true => hb
    subst hb
    obtain ⟨ol, hol, _, nn, hdl⟩ := id tG
    have han := ledM_off (x := x) (dx := dx) (sd := sd) (kd := kd) (ta := ta) (tb := tb) (w := w) hol hdl (fun p hp => (N2 p hp).1) hS hK
    clear hol hdl
    have hlen := tI.length
    refine iter_tup_q (fun i news => ∃ o', news = [(x, instObj 79 dx), (dx, dictOf [⟨PyData.keyHash w.params (Str.ofString "states"), .str (Str.ofString "states") ta, .ref sd⟩, ⟨PyData.keyHash w.params (Str.ofString "kept"), .str (Str.ofString "kept") tb, .ref kd⟩] 2), (sd, o'), (kd, oK)] ∧ IsSt w o' (offs st ((groupOf k).take i))) rfl tG F2 N2 han ⟨_, rfl, hS⟩ ?_ ?_
    · rintro i v news₁ h tk own hv ho ⟨o', rfl, hS'⟩ F3 N3
      obtain ⟨y, ty, rfl, hy⟩ := tI.item i v hv
      have hz' := offs_length st ((groupOf k).take i)
      have hz2 := groupOf_length k
      have hz3 : ((groupOf k).take i).length ≤ (groupOf k).length := List.length_take_le' _ _
      simp only [List.cons_append, List.nil_append] at N3
      simp only [List.map_cons, List.map_nil] at ho
      dsimp only [IsSt] at hS'
      clear hS F2 N2
      k_steps
      rename Obj.IsDictOf _ _ (bk (put _ _ _)) => hd'
      refine' InvEndN.intro (by assumption) (by assumption) ?hj ?ha ?hn ?ho
      case hj => exact ⟨⟨_, rfl, by rw [offs_take hy]; exact hd'⟩, by intro z h1; simp only [if_neg h1]⟩
      case ha => rfl
      case hn => k_allIn
      case ho => intro p hp; k_ownIn
    · rintro u news₁ h tk ⟨o', rfl, hS'⟩ _ F3 N3
      have hz' := offs_length st (groupOf k)
      have hz2 := groupOf_length k
      rw [hlen, List.take_length] at hS'
      dsimp only [IsSt] at hS'
      clear hS F2 N2
      k_steps
      rename Fr _ _ _ _ => F4
      rename News _ _ _ _ => N4
      rename Obj.IsDictOf _ _ (bk (put _ _ _)) => hd'
      exact hR _ _ _ (part_of F4) (has_of N4 (by k_allIn)) hd'
  · rename Fr _ _ _ _ => F2
    rename News _ _ _ _ => N2
    rename b = false => hb
    subst hb
    rename Obj.IsDictOf _ _ (bk (put _ _ _)) => hd'
    exact hR _ _ _ (part_of F2) (has_of N2 (by k_allIn)) hd'

section
variable {w : World} {A : Around} {E : Value → Shared → Prop} {s : Shared} {h₀ : Heap} {L : Addr} {m mg mb : Str → Option Value} {news : List (Addr × Obj)} {Q : Value → Shared → Prop}
theorem set_K {G : Obj → List (Addr × Obj)} {x dx sd kd : Addr} {oS oK : Obj} {st kp : List (Str × Bool)} {ta tb : Tok} {k : Str} {t : Tok} {b : Bool} (hh : A.handled = none) (hd : A.depth ≤ 370) (hu : A.units ≤ 200)
    (F : Fr h₀ L s.heap m) (N : News h₀ L s.heap news) (T : TopAt w mg mb h₀) (hs : ∀ p ∈ ledM w x dx sd kd ta tb oS oK, p ∈ news) (hS : IsSt w oS st) (hK : IsSt w oK kp) (ne : NeM x dx sd kd) (U : UpdF sd oS news G) (hz : st.length ≤ 900)
    (h : ∀ h' tk o', Fr h₀ L h' m → News h₀ L h' (G o') → IsSt w o' (setM st k b) → Q .none { s with heap := h', toks := tk }) : wpAny (model pg w) A (call (.ref 76) [.ref x, .str k t, .bool b]) Q E s :=
  Under.wp (B := lv 6) (wpAny_call (set_code (via_top F N hs T) via_part (via_has N hs) hS hK ne hz fun h' tk o' P H hS' => h h' tk o' (via_fr F N hs P)
    (via_upd N hs U P (List.forall_mem_cons.mpr ⟨fun _ => (H _ (by k_memK)).1, List.forall_mem_cons.mpr ⟨fun _ => (H _ (by k_memK)).1, List.forall_mem_cons.mpr ⟨fun q => absurd rfl q, List.forall_mem_cons.mpr ⟨fun _ => (H _ (by k_memK)).1, List.forall_mem_nil _⟩⟩⟩⟩) (H (sd, o') (by k_memK)).1) hS')) hh rfl rfl rfl hd hu
end
end Mine
local macro_rules | `(tactic| walk_at "call ref") => `(tactic| (k_here; (with_reducible show wpAny _ _ (call (Value.ref 76) [Value.ref _, Value.str _ _, Value.bool _]) _ _ _); (refine' Mine.set_K (by exact rfl) (by exact Nat.le_of_ble_eq_true rfl) (by exact Nat.le_of_ble_eq_true rfl) (by k_asm) (by k_asm) (by k_asm) (by k_allIn) (by k_asm) (by k_asm) (by k_asm) (by k_updF) (by omega) ?_); intro h' tk' o' F' N' hS'; (try dsimp only at N'); (try k_sweep)))
namespace Mine
section display
variable {prog : Program} {w : World} {A : Around} {E : Value → Shared → Prop} {s : Shared}
/-- a pair of trees that yields an int and a text, and makes nothing else -/
def CP (prog : Program) (w : World) (p : Sem Value × Sem Value) (iw : Int × Str) : Prop :=
  ∀ (A : Around) (E : Value → Shared → Prop) (s : Shared) (Q : Value → Value → Shared → Prop), (∀ t u tk, Q (.int iw.1 t) (.str iw.2 u) { s with toks := tk }) →
    wpAny (model prog w) A p.1 (fun kv s₁ => wpAny (model prog w) A p.2 (fun vv s₂ => Q kv vv s₂) E s₁) E s
inductive TabIs : List (Int × Value) → List (Int × Str) → Prop
  | nil : TabIs [] []
  | cons (i : Int) (x : Str) (t : Tok) {kvs ws} : TabIs kvs ws → TabIs ((i, .str x t) :: kvs) ((i, x) :: ws)
theorem TabIs.keys : ∀ {kvs ws}, TabIs kvs ws → kvs.map (·.1) = ws.map (·.1)
  | _, _, .nil => rfl
  | _, _, .cons i x t h => by simp only [List.map_cons, h.keys]
theorem TabIs.append : ∀ {kvs ws kvs' ws'}, TabIs kvs ws → TabIs kvs' ws' → TabIs (kvs ++ kvs') (ws ++ ws')
  | _, _, _, _, .nil, h' => h'
  | _, _, _, _, .cons i x t h, h' => .cons i x t (h.append h')
theorem TabIs.length {kvs ws} (h : TabIs kvs ws) : kvs.length = ws.length := by have := congrArg List.length h.keys; simpa using this
inductive CPs (prog : Program) (w : World) : List (Sem Value × Sem Value) → List (Int × Str) → Prop
  | nil : CPs prog w [] []
  | cons {p iw ps ws} : CP prog w p iw → CPs prog w ps ws → CPs prog w (p :: ps) (iw :: ws)
theorem CPs.length : ∀ {ps ws}, CPs prog w ps ws → ps.length = ws.length
  | _, _, .nil => rfl
  | _, _, .cons _ h => by simp only [List.length_cons, h.length]

theorem evalPairs_const : ∀ {ps : List (Sem Value × Sem Value)} {ws : List (Int × Str)}, CPs prog w ps ws → ∀ {s : Shared} {Q : List (Value × Value) → Shared → Prop}, (∀ vs kvs tk, Carries (PySem.intKind prog w) vs kvs → TabIs kvs ws → Q vs { s with toks := tk }) →
    wpAny (model prog w) A (evalPairs ps) Q E s
  | _, _, .nil, s, Q, h => evalPairs_nil (h [] [] s.toks trivial .nil)
  | _, _, .cons (p := p) (iw := iw) hp hps, s, Q, h => evalPairs_cons (hp A E s (fun kv vv s₂ => wpAny (model prog w) A (evalPairs _) (fun vs s₃ => Q ((kv, vv) :: vs) s₃) E s₂) fun t u tk =>
      evalPairs_const hps fun vs kvs tk' hc ht => h _ ((iw.1, .str iw.2 u) :: kvs) tk' ⟨by simp [PySem.intKind, Value.isInt], rfl, hc⟩ (.cons _ _ _ ht))

theorem storeEach_const {d : Addr} : ∀ {ps : List (Sem Value × Sem Value)} {ws : List (Int × Str)}, CPs prog w ps ws → ∀ {acc : List (Int × Value)} {s : Shared} {Q : PUnit → Shared → Prop}, s.heap.DictOf (PySem.intKind prog w) d acc → acc.length + ws.length ≤ sizeLine →
    (∀ h' tk kvs, TabIs kvs ws → h'.DictOf (PySem.intKind prog w) d (merged acc kvs) → Heap.SameBut d s.heap h' → Q PUnit.unit { s with heap := h', toks := tk }) →
    wpAny (model prog w) A (forIn ps PUnit.unit fun (x : Sem Value × Sem Value) (_ : PUnit) => (do let kv ← x.1; let vv ← holding [kv] x.2; holding [kv, vv] (dictSet d kv vv); pure (ForInStep.yield PUnit.unit) : Sem (ForInStep PUnit))) Q E s
  | _, _, .nil, acc, s, Q, hm, _, hQ => by
    rw [List.forIn_nil]
    exact wpAny_pure (hQ s.heap s.toks [] .nil (by simpa [merged] using hm) (Heap.SameBut.refl _ _))
  | _, _, .cons (p := p) (iw := iw) (ws := ws) hp hps, acc, s, Q, hm, hsz, hQ => by
    rw [List.length_cons] at hsz
    rw [List.forIn_cons]
    refine wpAny_bind (wpAny_bind (wpAny_mono (hp A E s (fun kv vv s₂ => wpAny (model prog w) A (holding [kv, vv] (dictSet d kv vv)) (fun _ s₃ => wpAny (model prog w) A (forIn _ PUnit.unit _) Q E s₃) E s₂) ?_) (fun kv s₁ h₁ => wpAny_bind (wpAny_holding (wpAny_mono h₁ (fun vv s₂ h₂ => wpAny_bind (wpAny_mono h₂ (fun _ s₃ h₃ => wpAny_pure h₃) fun _ _ e => e)) fun _ _ e => e))) fun _ _ e => e))
    intro t u tk
    refine wpAny_holding (wpAny_dictSet_pairs (knd := PySem.intKind prog w) (k := iw.1) (hsz := by omega) (by simp [PySem.intKind, Value.isInt]) hm fun h₁ hm₁ hs₁ => ?_)
    refine storeEach_const hps hm₁ (by have e := stored_length_le acc iw.1 (Value.str iw.2 u); omega) fun h' tk' kvs ht hm' hs' => ?_
    exact hQ h' tk' ((iw.1, .str iw.2 u) :: kvs) (.cons _ _ _ ht) (by simpa [merged] using hm') (hs₁.trans hs')

theorem subDict_const {ps : List (Sem Value × Sem Value)} {ws : List (Int × Str)} (hps : CPs prog w ps ws) (hsz : ws.length ≤ 1000) {Q : Addr → Shared → Prop}
    (hQ : ∀ h' tk kvs, TabIs kvs ws → h'.DictOf (PySem.intKind prog w) s.heap.objs.size (merged [] kvs) → (∀ b o, s.heap.get? b = some o → h'.get? b = some o) → Q s.heap.objs.size { s with heap := h', toks := tk }) :
    wpAny (model prog w) A (subDict ps) Q E s := by
  unfold subDict
  refine wpAny_bind (wpAny_alloc ?_)
  refine wpAny_bind (wpAny_holding ?_)
  have hnew : (s.heap.push { cls := .type "dict", data := .dict #[] }).DictOf (PySem.intKind prog w) s.heap.objs.size [] :=
    ⟨_, #[], 0, Heap.get?_push_size _ rfl, ⟨rfl, rfl, rfl⟩, rfl, (fun e he => by simp at he), .nil, by simp⟩
  have up : ∀ h', Heap.SameBut s.heap.objs.size (s.heap.push { cls := .type "dict", data := .dict #[] }) h' → ∀ b o, s.heap.get? b = some o → h'.get? b = some o := fun h' hs b o e =>
    (hs.2 b (Nat.ne_of_lt (Heap.lt_size e))).trans (Heap.get?_push_of_some _ e)
  split
  · refine wpAny_bind (evalPairs_const hps fun vs kvs tk hc ht => ?_)
    refine wpAny_holding ?_
    refine wpAny_bind (wpAny_storeAll (knd := PySem.intKind prog w) vs kvs [] _ _ hc hnew (by have := ht.length; rw [sizeLine_eq, List.length_nil]; omega) fun h' hm' hs' => wpAny_pure (wpAny_pure (hQ h' _ kvs ht hm' (up h' hs'))))
  · refine wpAny_bind (wpAny_rule ?_)
    refine wpAny_bind (storeEach_const hps hnew (by rw [sizeLine_eq, List.length_nil]; omega) fun h' tk kvs ht hm' hs' => wpAny_pure (wpAny_pure (hQ h' _ kvs ht hm' (up h' hs'))))

theorem dictPut_const {d : Addr} {acc : List (Int × Value)} {i : Int} {key v : Value} {Q : Unit → Shared → Prop} (hkey : (PySem.intKind prog w).is i key = true) (hm : s.heap.DictOf (PySem.intKind prog w) d acc)
    (hsz : acc.length ≤ sizeLine) (hQ : ∀ h', h'.DictOf (PySem.intKind prog w) d (stored acc i v) → Heap.SameBut d s.heap h' → Q () { s with heap := h' }) :
    wpAny (model prog w) A (dictPut d ((PySem.intKind prog w).hash i) key v) Q E s := by
  have two := wpAny_dictSetHashed_pairs (knd := PySem.intKind prog w) (A := A) (E := E) (v := v) (hsz := hsz) hkey hm hQ
  obtain ⟨o, es, ep, ho, hc, hd, hk, hp, hn⟩ := hm
  unfold dictPut
  refine wpAny_bind (wpAny_dictFind_of hkey ho hd hk ?_)
  have hes : es.size ≤ sizeLine := by have e1 := hp.length; have e2 : es.toList.length = es.size := by simp
                                      omega
  have hidx : (es.findIdx? fun e => (PySem.intKind prog w).is i e.key) = acc.findIdx? fun kv => decide (kv.1 = i) := by
    rw [← hp.findIdx i]; obtain ⟨l⟩ := es; simp
  cases hi : es.findIdx? fun e => (PySem.intKind prog w).is i e.key with
  | some j =>
    refine wpAny_updateDict ho hd (hQ _ ⟨_, _, ep, Heap.get?_update_self _ ho (Obj.isFreed_of_dict (Obj.data_mapDict hd _)), hc.mapDict _, Obj.data_mapDict hd _, hk.modify _ _, ?_, ?_⟩ (Heap.SameBut.update ..))
    · rw [stored, if_pos (any_of_findIdx_some (hidx ▸ hi))]
      have hl : (es.toList.findIdx? fun e => (PySem.intKind prog w).is i e.key) = some j := by rw [← hi]; obtain ⟨l⟩ := es; simp
      have := hp.modify hn hl v
      obtain ⟨l⟩ := es
      simpa using this
    · rw [stored, if_pos (any_of_findIdx_some (hidx ▸ hi)), keys_map_store]; exact hn
  | none =>
    have hnot : i ∉ acc.map (·.1) := not_mem_of_findIdx_none (hidx ▸ hi)
    have hany : ¬ (acc.any fun kv => decide (kv.1 = i)) = true := by
      rw [List.any_eq_true]; rintro ⟨kv, hkv, he⟩
      exact hnot (List.mem_map.mpr ⟨kv, hkv, of_decide_eq_true he⟩)
    refine wpAny_updateDictKeys (hz := hes) ho hd (hQ _ ⟨_, _, ep + 1, Heap.get?_update_self _ ho (Obj.isFreed_of_dict (Obj.data_mapDictKeys hd _)), hc.mapDictKeys _, Obj.data_mapDictKeys hd _, hk.push hkey _, ?_, ?_⟩ (Heap.SameBut.update ..))
    · rw [stored, if_neg hany]
      have := hp.append hkey ((PySem.intKind prog w).hash i) v
      obtain ⟨l⟩ := es
      simpa using this
    · rw [stored, if_neg hany, List.map_append, List.nodup_append]
      refine ⟨hn, by simp, ?_⟩
      intro a ha b hb
      simp only [List.map_cons, List.map_nil, List.mem_singleton] at hb
      subst hb
      exact fun e => hnot (e ▸ ha)

theorem merge_const {d a : Addr} {acc more : List (Int × Value)} {Q : Unit → Shared → Prop} (hda : d ≠ a) (lo : (a == sysModules) = false) (hne : acc ≠ []) (hm : s.heap.DictOf (PySem.intKind prog w) d acc) (ha : s.heap.DictOf (PySem.intKind prog w) a more)
    (hsz : acc.length + more.length ≤ sizeLine) (hQ : ∀ h', h'.DictOf (PySem.intKind prog w) d (merged acc more) → Heap.SameBut d s.heap h' → Q () { s with heap := h' }) :
    wpAny (model prog w) A (mergeMapping d (.ref a) false) Q E s := by
  obtain ⟨od, esd, epd, hod, hcd, hdd, hkd, hpd, hnd⟩ := id hm
  obtain ⟨oa, esa, epa, hoa, hca, hda', hka, hpa, hna⟩ := id ha
  unfold mergeMapping
  refine wpAny_bind (wpAny_isInstance ha.typeIs isSubtype_dict_dict ?_)
  simp only [if_true]
  refine wpAny_bind (wpAny_specialOf ha.typeIs PySem.F.slot_dict_iter.lookup (wpAny_bind (wpAny_pure ?_)))
  simp only [beq_self_eq_true]
  rw [if_neg (by rw [lo]; exact Bool.false_ne_true)]
  refine wpAny_bind (wpAny_dictEntries hod hdd ?_)
  have hemp : ¬ esd.isEmpty = true := by
    intro he
    have h0 : esd = #[] := Array.isEmpty_iff.mp he
    have := hpd.length; rw [h0] at this; exact hne (List.length_eq_zero_iff.mp (by simpa using this.symm))
  rw [if_neg hemp]
  refine wpAny_bind (wpAny_dictEntries hoa hda' ?_)
  refine wpAny_bind (wpAny_dictEpoch hoa hda' (wpAny_bind ?_))
  have hlen : more.length = esa.size := by rw [← hpa.length]; simp
  refine wpAny_forIn_list _
    (fun rest _ s' => ∃ h' i, s' = { s with heap := h' } ∧ rest = List.range' i (esa.size - i) ∧ i ≤ esa.size ∧ h'.DictOf (PySem.intKind prog w) d (merged acc (more.take i)) ∧ h'.get? a = some oa ∧ Heap.SameBut d s.heap h')
    _ ?_ ?_ _ _ ⟨s.heap, 0, rfl, by simp [List.range_eq_range'], Nat.zero_le _, by simpa [merged] using hm, hoa, Heap.SameBut.refl _ _⟩
  · rintro x rest b s' ⟨h', i, rfl, hr, hi, hd', hoo', hs'⟩
    have hlt : i < esa.size := by
      rcases Nat.lt_or_ge i esa.size with h | h
      · exact h
      · rw [Nat.sub_eq_zero_of_le h] at hr; simp at hr
    obtain ⟨rfl, hrest⟩ : x = i ∧ rest = List.range' (i + 1) (esa.size - (i + 1)) := by
      have e : esa.size - i = (esa.size - (i + 1)) + 1 := by omega
      rw [e, List.range'_succ] at hr
      injection hr with h1 h2
      exact ⟨h1, h2⟩
    refine wpAny_bind (wpAny_dictEntries hoo' hda' ?_)
    rw [Array.getElem?_eq_getElem hlt]
    obtain ⟨kv, hkv⟩ : ∃ kv, more[x]? = some kv := ⟨more[x]'(by rw [hlen]; exact hlt), List.getElem?_eq_getElem _⟩
    obtain ⟨k, v⟩ := kv
    obtain ⟨hkey, hval⟩ := hpa.get? (e := esa[x]) (by simp [hlt]) hkv
    obtain ⟨k', hkey', hhash⟩ := hka esa[x] (Array.getElem_mem hlt)
    obtain rfl : k' = k := (PySem.intKind prog w).inj _ _ _ hkey' hkey
    have hmx : (merged acc (more.take x)).length ≤ sizeLine := by
      have e1 := merged_length_le acc (more.take x)
      have e2 : (more.take x).length ≤ more.length := by rw [List.length_take]; omega
      omega
    refine wpAny_bind (wpAny_holding ?_)
    simp only [Bool.false_eq_true, if_false]
    rw [hhash, hval]
    refine dictPut_const (i := k') hkey hd' hmx fun h'' hd'' hs'' => ?_
    have hoo'' : h''.get? a = some oa := (hs''.2 a (Ne.symm hda)).trans hoo'
    refine wpAny_bind (wpAny_dictEpoch hoo'' hda' ?_)
    rw [if_neg (by simp)]
    exact wpAny_pure ⟨h'', x + 1, rfl, hrest, hlt, by rw [merged_take_succ acc more x (k', v) hkv]; exact hd'', hoo'', hs'.trans hs''⟩
  · rintro b s' ⟨h', i, rfl, hr, hi, hd', hoo', hs'⟩
    have hin : i = esa.size := by
      rcases Nat.lt_or_ge i esa.size with h | h
      · have e : esa.size - i = (esa.size - (i + 1)) + 1 := by omega
        rw [e, List.range'_succ] at hr; exact nomatch hr
      · exact Nat.le_antisymm hi h
    rw [hin, ← hlen, List.take_length] at hd'
    exact wpAny_pure (hQ h' hd' hs')

def flushT (run : List (Sem Value × Sem Value)) (main : Option Addr) : Sem (Option Addr) := do
    if run.isEmpty then return main
    match main with
    | none => return some (← subDict run)
    | some d =>
      let sub ← holding [.ref d] (subDict run)
      (holding [.ref d, .ref sub] (mergeMapping d (.ref sub) false)).onRaise fun x => do let _ ← holding [.ref d, x] (runValue (.builtin "proto.let_go" {}))
      return some d

/-- what stands when `ws` is laid -/
def LaidD (prog : Program) (w : World) (s : Shared) (ws : List (Int × Str)) (main : Option Addr) (s' : Shared) : Prop :=
  (main = none ∧ ws = [] ∧ s' = s) ∨ ∃ h' tk acc, main = some s.heap.objs.size ∧ s' = { s with heap := h', toks := tk } ∧ h'.DictOf (PySem.intKind prog w) s.heap.objs.size acc ∧ TabIs acc ws ∧ ws ≠ [] ∧ ∀ b o, s.heap.get? b = some o → h'.get? b = some o

theorem dictOf_keeps {K : Type} [DecidableEq K] {knd : KeyKind prog w K} {h h' : Heap} {a : Addr} {kvs : List (K × Value)} (x : h.DictOf knd a kvs) (k : ∀ b o, h.get? b = some o → h'.get? b = some o) : h'.DictOf knd a kvs :=
  let ⟨o, es, ep, ho, r⟩ := x; ⟨o, es, ep, k _ _ ho, r⟩
theorem dictOf_ns {h h' : Heap} (hs : h.NoLimit) {a : Addr} (k : ∀ b o, h.get? b = some o → h'.get? b = some o) : h'.NoLimit := hs.keeps k

theorem flush_const {run : List (Sem Value × Sem Value)} {ws₁ ws₂ : List (Int × Str)} {main : Option Addr} {s' : Shared} (hlim : s.heap.NoLimit) (hr : CPs prog w run ws₂) (hne : ws₂ ≠ []) (hn : ((ws₁ ++ ws₂).map (·.1)).Nodup) (hsz : (ws₁ ++ ws₂).length ≤ 1000) (hL : LaidD prog w s ws₁ main s') :
    wpAny (model prog w) A (flushT run main) (LaidD prog w s (ws₁ ++ ws₂)) E s' := by
  have hrun : ¬ run.isEmpty = true := by
    intro e
    have : run = [] := List.isEmpty_iff.mp e
    subst this
    cases hr; exact hne rfl
  have hn2 : (ws₂.map (·.1)).Nodup := by rw [List.map_append, List.nodup_append] at hn; exact hn.2.1
  have hsz2 : ws₂.length ≤ 1000 := by rw [List.length_append] at hsz; omega
  unfold flushT
  rw [if_neg hrun]
  rcases hL with ⟨rfl, rfl, rfl⟩ | ⟨h', tk, acc, rfl, rfl, hd, ht, hne1, hk⟩
  · dsimp only
    refine wpAny_bind (subDict_const hr hsz2 fun h' tk kvs ht hd hk => wpAny_pure (.inr ⟨h', tk, kvs, rfl, rfl, ?_, by simpa using ht, by simpa using hne, hk⟩))
    rw [merged_nil_of_nodup _ (by rw [ht.keys]; exact hn2)] at hd
    exact hd
  · dsimp only
    refine wpAny_bind (wpAny_holding (subDict_const hr hsz2 fun h'' tk' kvs ht' hd' hk' => ?_))
    rw [merged_nil_of_nodup _ (by rw [ht'.keys]; exact hn2)] at hd'
    have hlt : s.heap.objs.size < h'.objs.size := by obtain ⟨_, _, _, ho, _⟩ := hd; exact Heap.lt_size ho
    have hlim' : h'.NoLimit := hlim.keeps hk
    refine wpAny_bind (wpAny_onRaise (wpAny_holding (merge_const (prog := prog) (w := w) (Nat.ne_of_lt hlt) ?_ ?_ (dictOf_keeps hd hk') hd' ?_ fun h3 hd3 hs3 => wpAny_pure (.inr ⟨h3, tk', acc ++ kvs, rfl, rfl, ?_, ht.append ht', by simp [hne1], ?_⟩))))
    · have := modules_low hlim'
      exact beq_eq_false_iff_ne.mpr (Nat.ne_of_gt (Nat.lt_of_lt_of_le this (Nat.le_refl _)))
    · rintro rfl; cases ht; exact hne1 rfl
    · rw [ht.length, ht'.length, sizeLine_eq]; rw [List.length_append] at hsz; omega
    · rw [merged_append_of_fresh _ _ (by rw [List.map_append, ht.keys, ht'.keys, ← List.map_append]; exact hn)] at hd3
      exact hd3
    · intro b o e
      exact (hs3.2 b (Nat.ne_of_lt (Heap.lt_size e))).trans (hk' _ _ (hk _ _ e))

theorem display_const {ps : List (Sem Value × Sem Value)} {ws : List (Int × Str)} {Q : Value → Shared → Prop} (hlim : s.heap.NoLimit) (hps : CPs prog w ps ws) (hne : ws ≠ []) (hn : (ws.map (·.1)).Nodup) (hsz : ws.length ≤ 1000)
    (hQ : ∀ h' tk kvs, TabIs kvs ws → h'.DictOf (PySem.intKind prog w) s.heap.objs.size kvs → (∀ b o, s.heap.get? b = some o → h'.get? b = some o) → Q (.ref s.heap.objs.size) { s with heap := h', toks := tk }) :
    wpAny (model prog w) A (dictDisplay (ps.map fun p => (some p.1, p.2))) Q E s := by
  unfold dictDisplay
  dsimp only
  refine wpAny_bind ?_
  refine wpAny_forIn_list _
    (fun rest b s' => ∃ ps₃ ws₁ ws₂ ws₃, rest = ps₃.map (fun p => (some p.1, p.2)) ∧ CPs prog w b.2 ws₂ ∧ CPs prog w ps₃ ws₃ ∧ ws = ws₁ ++ ws₂ ++ ws₃ ∧ b.2.length < 17 ∧ LaidD prog w s ws₁ b.1 s') _ ?_ ?_ _ _
    ⟨ps, [], [], ws, rfl, .nil, hps, rfl, by simp, .inl ⟨rfl, rfl, rfl⟩⟩
  · rintro x rest ⟨main, run⟩ s' ⟨ps₃, ws₁, ws₂, ws₃, hr, hrun, hrest, rfl, hlen, hL⟩
    cases hrest with
    | nil => cases hr
    | @cons p iw ps ws₃ hp hps₃ =>
      rw [List.map_cons] at hr
      obtain ⟨rfl, rfl⟩ := List.cons.inj hr
      have happ : ∀ {r ws}, CPs prog w r ws → CPs prog w (r ++ [p]) (ws ++ [iw]) := by
        intro r ws h
        induction h with
        | nil => exact .cons hp .nil
        | cons a _ ih => exact .cons a ih
      have hrun' := happ hrun
      have e : (ws₁ ++ ws₂ ++ iw :: ws₃) = ws₁ ++ (ws₂ ++ [iw]) ++ ws₃ := by simp
      dsimp only at hlen ⊢
      split
      · rename_i h17
        refine wpAny_bind (wpAny_mono (flush_const (main := main) hlim hrun' (by simp) ?_ ?_ hL) (fun m' s₂ h₂ => wpAny_pure ⟨ps, ws₁ ++ (ws₂ ++ [iw]), [], ws₃, rfl, .nil, hps₃, by rw [e]; simp, by simp, h₂⟩) fun _ _ e => e)
        · rw [e, List.map_append, List.nodup_append] at hn; exact hn.1
        · rw [e, List.length_append] at hsz; omega
      · rename_i h17
        refine wpAny_pure ⟨ps, ws₁, ws₂ ++ [iw], ws₃, rfl, hrun', hps₃, e, ?_, hL⟩
        have : ¬ (run ++ [p]).length = 17 := fun q => h17 (by simpa using q)
        rw [List.length_append, List.length_singleton] at this ⊢
        omega
  · rintro ⟨main, run⟩ s' ⟨ps₃, ws₁, ws₂, ws₃, hr, hrun, hrest, rfl, hlen, hL⟩
    have hp3 : ps₃ = [] := List.map_eq_nil_iff.mp hr.symm
    subst hp3
    cases hrest
    rw [List.append_nil] at hn hsz hne hQ
    dsimp only at hrun hL ⊢
    have fin : ∀ m s₂, LaidD prog w s (ws₁ ++ ws₂) m s₂ → wpAny (model prog w) A (match m with | some d => pure (Value.ref d) | none => newDict) Q E s₂ := by
      intro m s₂ h₂
      rcases h₂ with ⟨_, h0, _⟩ | ⟨h', tk, acc, rfl, rfl, hd, ht, _, hk⟩
      · exact absurd h0 hne
      · exact wpAny_pure (hQ h' tk acc ht hd hk)
    by_cases h2 : ws₂ = []
    · subst h2
      cases hrun
      rw [List.append_nil] at fin
      exact wpAny_bind (wpAny_pure (fin _ _ hL))
    · exact wpAny_bind (wpAny_mono (flush_const (main := main) hlim hrun h2 hn hsz hL) fin fun _ _ e => e)
end display
end Mine
namespace Mine
def tabF : List (Int × Str) := [(2, Str.ofString "locked"), (4, Str.ofString "insert"), (12, Str.ofString "send_receive"), (20, Str.ofString "newline")]
def tabT : List (Int × Str) := [(1, Str.ofString "app_cursor"), (3, Str.ofString "columns_132"), (5, Str.ofString "reverse_screen"), (6, Str.ofString "origin"), (7, Str.ofString "autowrap"), (8, Str.ofString "autorepeat"), (9, Str.ofString "mouse_x10"), (12, Str.ofString "blink_cursor"), (25, Str.ofString "show_cursor"), (40, Str.ofString "let_132"), (45, Str.ofString "reverse_wrap"), (47, Str.ofString "alternate"), (66, Str.ofString "app_keypad"), (67, Str.ofString "backarrow"), (69, Str.ofString "side_margins"), (80, Str.ofString "sixel_still"), (1000, Str.ofString "mouse_click"), (1002, Str.ofString "mouse_drag"), (1003, Str.ofString "mouse_all"), (1004, Str.ofString "focus"), (1005, Str.ofString "mouse_utf8"), (1006, Str.ofString "mouse_sgr"), (1007, Str.ofString "alternate_scroll"), (1015, Str.ofString "mouse_urxvt"), (1016, Str.ofString "mouse_pixels"), (1034, Str.ofString "meta_eight"), (1035, Str.ofString "num_lock"), (1036, Str.ofString "meta_escape"), (1037, Str.ofString "delete_del"), (1045, Str.ofString "reverse_wrap_far"), (1047, Str.ofString "alternate_clear"), (1048, Str.ofString "keep_cursor"), (1049, Str.ofString "alternate_full"), (2004, Str.ofString "paste"), (2026, Str.ofString "synchronised"), (2027, Str.ofString "clusters")]
def tabOf (b : Bool) : List (Int × Str) := if b = true then tabT else tabF
def look (ws : List (Int × Str)) (n : Int) : Option Str := (ws.find? fun p => p.1 = n).map (·.2)
theorem TabIs.valueAt {kvs : List (Int × Value)} {ws : List (Int × Str)} (h : TabIs kvs ws) (n : Int) : ∃ t, PySem.valueAt kvs n = (look ws n).map fun x => Value.str x t := by
  induction h with
  | nil => exact ⟨0, rfl⟩
  | cons i x t _ ih =>
    unfold PySem.valueAt look at *
    simp only [List.find?_cons]
    by_cases q : i = n
    · exact ⟨t, by simp [q]⟩
    · simp only [q, decide_false]; exact ih
def constPairs : List (Option PySem.Expr) → List PySem.Expr → Option (List (Int × Str))
  | [], [] => some []
  | some (.Constant (.int i) _ _) :: ks, .Constant (.str x) _ _ :: vs => (constPairs ks vs).map ((i, x) :: ·)
  | _, _ => none
section
variable {prog : Program} {w : World} {A : Around} {E : Value → Shared → Prop} {s : Shared} {env : Env} {h₀ : Heap} {L : Addr} {m : Str → Option Value} {news : List (Addr × Obj)}
theorem constPairs_cps {pos : Pos} (keys : List (Option PySem.Expr)) (values : List PySem.Expr) {ws : List (Int × Str)} (h : constPairs keys values = some ws) : CPs prog w (pairTrees keys values env pos) ws ∧ keys.all (·.isSome) = true ∧ keys.length = values.length := by
  induction keys, values using constPairs.induct generalizing ws with
  | case1 => cases h; exact ⟨.nil, rfl, rfl⟩
  | case2 i c p ks x c' p' vs ih =>
    obtain ⟨ws', hw, rfl⟩ := Option.map_eq_some_iff.mp h
    obtain ⟨a, b, d⟩ := ih hw
    refine ⟨.cons (fun A E s Q hq => ?_) a, by simpa using b, by simp [d]⟩
    show wpAny _ _ (eval (.Constant (.int i) c p) env) _ _ _
    refine wpAny_Constant_int ?_
    show wpAny _ _ (eval (.Constant (.str x) c' p') env >>= _) _ _ _
    exact wpAny_bind (wpAny_Constant_str (wpAny_bind (wpAny_standAt (wpAny_pure (hq _ _ _)))))
  | case3 ks vs h1 h2 => unfold constPairs at h; split at h <;> first | exact (h1 rfl rfl).elim | (exfalso; apply h2 <;> rfl) | cases h
theorem Dict_const {keys : List (Option PySem.Expr)} {values : List PySem.Expr} {pos : Pos} {ws : List (Int × Str)} {Q : Value → Shared → Prop} (hc : constPairs keys values = some ws) (hne : ws ≠ []) (hn : (ws.map (·.1)).Nodup) (hsz : ws.length ≤ 1000)
    (F : Fr h₀ L s.heap m) (N : News h₀ L s.heap news) (hlim : h₀.NoLimit)
    (h : ∀ d h' tk o kvs, Fr h₀ L h' m → News h₀ L h' ((d, o) :: news) → (∀ p ∈ news, p.1 < d) → (d == sysModules) = false → o.IsDictOf (PySem.intKind prog w) kvs → TabIs kvs ws → Q (.ref d) { s with heap := h', toks := tk }) :
    wpAny (model prog w) A (eval (.Dict keys values pos) env) Q E s := by
  obtain ⟨a, b, d⟩ := constPairs_cps (prog := prog) (w := w) (env := env) (pos := pos) keys values hc
  rw [arm_eval_Dict, zip_pairTrees keys values env pos b d]
  refine wpAny_bind (wpAny_standAt (display_const (hlim.keeps F.keep) a hne hn hsz fun h' tk kvs ht hd hk => ?_))
  obtain ⟨o, ho, hdo⟩ := Heap.dictOf_iff.mp hd
  refine h _ h' tk o kvs ⟨F.ns.keeps hk, fun b o e => hk _ _ (F.keep b o e), F.above⟩ (fun p hp => ?_) (fun p hp => Heap.lt_size (N p hp).1) (F.notModules (modules_low hlim)) hdo ht
  rcases List.mem_cons.mp hp with rfl | hp
  · refine ⟨ho, Nat.ne_of_gt F.ns.lt, fr_new F⟩
  · exact ⟨hk _ _ (N p hp).1, (N p hp).2⟩
theorem get1_tab {d : Addr} {o : Obj} {kvs : List (Int × Value)} {ws : List (Int × Str)} {n : Int} {u : Tok} {Q : Value → Shared → Prop} (N : News h₀ L s.heap news) (hp : (d, o) ∈ news) (hd : o.IsDictOf (PySem.intKind prog w) kvs) (ht : TabIs kvs ws) (lo : (d == sysModules) = false)
    (h : ∀ t, Q (((look ws n).map fun x => Value.str x t).getD .none) { s with toks := s.toks + 1 }) : wpAny (model prog w) A (call (.builtin "dict.get") [.ref d, .int n u]) Q E s := by
  obtain ⟨t, e⟩ := ht.valueAt n
  exact kdg_get1 (knd := PySem.intKind _ _) N hp hd lo (intKind_is _ _ _ _) _ e (h t)
end
end Mine
local macro_rules | `(tactic| walk_at "eval Dict") => `(tactic| (k_here; k_dflt (first
  | (refine' Mine.Dict_const (ws := Mine.tabF) ?hc ?hne ?hn ?hsz ?F ?N ?L ?_; (case hc => exact rfl); (case hne => exact List.cons_ne_nil _ _); (case hn | hsz => decide +kernel); (case F | N => k_asm); (case L => exact TopRead.nolimit (by k_asm)))
  | (refine' Mine.Dict_const (ws := Mine.tabT) ?hc ?hne ?hn ?hsz ?F ?N ?L ?_; (case hc => exact rfl); (case hne => exact List.cons_ne_nil _ _); (case hn | hsz => decide +kernel); (case F | N => k_asm); (case L => exact TopRead.nolimit (by k_asm)))); intro d' h' tk' o' kvs' F' N' l1 lo' hd' ht'; (try k_lt l1)))
local macro_rules | `(tactic| walk_at "call builtin:dict.get") => `(tactic| (k_here; (with_reducible show wpAny _ _ (call (Value.builtin "dict.get") [Value.ref _, Value.int _ _]) _ _ _); k_dflt (refine Mine.get1_tab (by k_asm) (by k_memK) (by k_asm) (by k_asm) (by k_asm) ?_); intro t'))
namespace Mine
theorem words_code {w : World} {s : Shared} {g : Heap} {mg mb : Str → Option Value} {R : Result → Shared → Prop} {b : Bool}
    (T : TopAt w mg mb g) (P : Part g s.heap)
    (hR : ∀ h' tk d o kvs, Part g h' → Has g h' [(d, o)] → (d == sysModules) = false → o.IsDictOf (PySem.intKind pg w) kvs → TabIs kvs (tabOf b) → R (.ok (.ret (.ref d))) { s with heap := h', toks := tk }) :
    codeAny (model pg w) (lv 8) (.call (.ref 27) ⟨[.bool b], []⟩) R s := by
  have X := T.X
  have TT := T.T
  refine enter T P (news := []) (fun _ h => nomatch h) (by decide) (f := 27) (by k_is) (by k_is) (BindsTo.of_eq rfl) (locs rfl) ?_
  intro L h₁ tk₁ F N' l1 l2
  try (k_lt l1)
  try dsimp only
  try k_fold
  k_steps
  all_goals
    rename Fr _ _ _ _ => F'
    rename News _ _ _ _ => N''
    rename TabIs _ _ => ht'
    rename b = _ => hb
    subst hb
    rename Obj.IsDictOf _ _ _ => hd'
    exact hR _ _ _ _ _ (part_of F') (has_of N'' (by k_allIn)) (by assumption) hd' ht'
section
variable {w : World} {A : Around} {E : Value → Shared → Prop} {s : Shared} {h₀ : Heap} {L : Addr} {m mg mb : Str → Option Value} {news : List (Addr × Obj)} {Q : Value → Shared → Prop}
theorem words_K {b : Bool} (hh : A.handled = none) (hd : A.depth ≤ 390) (hu : A.units ≤ 260)
    (F : Fr h₀ L s.heap m) (N : News h₀ L s.heap news) (T : TopAt w mg mb h₀)
    (h : ∀ h' tk d o kvs, Fr h₀ L h' m → News h₀ L h' ((d, o) :: news) → (∀ p ∈ news, p.1 ≠ d) → (d == sysModules) = false → o.IsDictOf (PySem.intKind pg w) kvs → TabIs kvs (tabOf b) → kvs.length < 64 → Q (.ref d) { s with heap := h', toks := tk }) : wpAny (model pg w) A (call (.ref 27) [.bool b]) Q E s :=
  have hs : ∀ p ∈ ([] : List (Addr × Obj)), p ∈ news := fun _ h => nomatch h
  Under.wp (B := lv 8) (wpAny_call (words_code (via_top F N hs T) via_part fun h' tk d o kvs P H lo hd ht => h h' tk d o kvs (via_fr F N hs P) (via_new F N hs (via_read N hs P fun _ h => nomatch h) (H _ (.head _)).1 (H _ (.head _)).2) (via_ne N (H _ (.head _)).2 fun _ h => nomatch h) lo hd ht (by have := ht.length; cases b <;> (rw [this]; decide)))) hh rfl rfl rfl hd hu
end
end Mine
local macro_rules | `(tactic| walk_at "call ref") => `(tactic| (k_here; (with_reducible show wpAny _ _ (call (Value.ref 27) [Value.bool _]) _ _ _); (refine' Mine.words_K (by exact rfl) (by exact Nat.le_of_ble_eq_true rfl) (by exact Nat.le_of_ble_eq_true rfl) (by k_asm) (by k_asm) (by k_asm) ?_); intro h' tk' d' o' kvs' F' N' l1 lo' hd' ht' hn64'; (try simp only [List.forall_mem_cons, List.forall_mem_nil, and_true] at l1); (try k_sweep)))
local macro_rules | `(tactic| walk_at "subscriptTail") => `(tactic| (k_here; (with_reducible show wpAny _ _ (subscriptTail _ _ (Value.ref _) (Value.int _ _)) _ _ _); k_dflt (refine kda_item (knd := PySem.intKind _ _) (by k_asm) (by k_memK) (by with_reducible assumption) (intKind_is _ _ _ _) (by with_reducible assumption) ?_)))
local macro_rules | `(tactic| walk_at "subscriptTail") => `(tactic| (k_here; (with_reducible show wpAny _ _ (subscriptTail _ _ (Value.ref _) (Value.str _ _)) _ _ _); k_dflt (refine kda_item (knd := PySem.strKind _ _) (by k_asm) (by k_memK) (by with_reducible assumption) (strKind_is _ _ _ _) (by with_reducible assumption) ?_)))
namespace Mine
/-- what mode_word gives -/
def wordVal (o : Option Str) (t : Tok) : Value := (o.map fun x => Value.str x t).getD .none
theorem word_code {w : World} {s : Shared} {g : Heap} {mg mb : Str → Option Value} {R : Result → Shared → Prop} {n : Int} {u : Tok} {b : Bool}
    (T : TopAt w mg mb g) (P : Part g s.heap)
    (hR : ∀ h' tk t, Part g h' → R (.ok (.ret (wordVal (look (tabOf b) n) t))) { s with heap := h', toks := tk }) :
    codeAny (model pg w) (lv 7) (.call (.ref 34) ⟨[.int n u, .bool b], []⟩) R s := by
  have X := T.X
  have TT := T.T
  refine enter T P (news := []) (fun _ h => nomatch h) (by decide) (f := 34) (by k_is) (by k_is) (BindsTo.of_eq rfl) (locs rfl) ?_
  intro L h₁ tk₁ F N' l1 l2
  try (k_lt l1)
  try dsimp only
  try k_fold
  k_steps
  all_goals
    rename Fr _ _ _ _ => F'
    exact hR _ _ _ (part_of F')
section
variable {w : World} {A : Around} {E : Value → Shared → Prop} {s : Shared} {h₀ : Heap} {L : Addr} {m mg mb : Str → Option Value} {news : List (Addr × Obj)} {Q : Value → Shared → Prop}
theorem word_K {n : Int} {u : Tok} {b : Bool} (hh : A.handled = none) (hd : A.depth ≤ 380) (hu : A.units ≤ 230)
    (F : Fr h₀ L s.heap m) (N : News h₀ L s.heap news) (T : TopAt w mg mb h₀)
    (hsome : ∀ h' tk x t, look (tabOf b) n = some x → Fr h₀ L h' m → News h₀ L h' news → Q (.str x t) { s with heap := h', toks := tk })
    (hnone : ∀ h' tk, look (tabOf b) n = none → Fr h₀ L h' m → News h₀ L h' news → Q .none { s with heap := h', toks := tk }) : wpAny (model pg w) A (call (.ref 34) [.int n u, .bool b]) Q E s :=
  have hs : ∀ p ∈ ([] : List (Addr × Obj)), p ∈ news := fun _ h => nomatch h
  Under.wp (B := lv 7) (wpAny_call (word_code (via_top F N hs T) via_part fun h' tk t P => by
    have F' := via_fr F N hs P
    have N' := via_read N hs P fun _ h => nomatch h
    cases e : look (tabOf b) n with
    | none => exact hnone h' tk e F' N'
    | some x => exact hsome h' tk x t e F' N')) hh rfl rfl rfl hd hu
end
end Mine
local macro_rules | `(tactic| walk_at "call ref") => `(tactic| (k_here; (with_reducible show wpAny _ _ (call (Value.ref 34) [Value.int _ _, Value.bool _]) _ _ _); (refine' Mine.word_K (by exact rfl) (by exact Nat.le_of_ble_eq_true rfl) (by exact Nat.le_of_ble_eq_true rfl) (by k_asm) (by k_asm) (by k_asm) ?_ ?_); (first | (intro h' tk' x' t' eW' F' N') | (intro h' tk' eW' F' N')); (try k_sweep)))
namespace Mine
def Found (k : Str) (n : Int) (b : Bool) : Prop := look (tabOf b) n = some k ∧ (b = true → ∀ n, look tabF n ≠ some k)
theorem look_of_key {ws : List (Int × Str)} {n : Int} (h : n ∈ ws.map (·.1)) : ∃ x, look ws n = some x := by
  unfold look
  cases e : ws.find? fun p => decide (p.1 = n) with
  | none =>
    obtain ⟨p, hp, rfl⟩ := List.mem_map.mp h
    have := List.find?_eq_none.mp e p hp
    simp at this
  | some p => exact ⟨p.2, rfl⟩
theorem key_of_look {ws : List (Int × Str)} {n : Int} {x : Str} (h : look ws n = some x) : n ∈ ws.map (·.1) := by
  unfold look at h
  obtain ⟨p, hp, _⟩ := Option.map_eq_some_iff.mp h
  have h1 := List.find?_some hp
  have h2 := List.mem_of_find?_eq_some hp
  exact List.mem_map.mpr ⟨p, h2, by simpa using h1⟩
theorem intsAre_item : ∀ {vs : List Value} {ys : List Int}, IntsAre vs ys → ∀ (i : Nat) (v : Value), vs[i]? = some v → ∃ y t, v = .int y t ∧ ys[i]? = some y
  | _, _, .nil, i, v, h => by simp at h
  | _, _, .cons n t r, 0, v, h => by cases h; exact ⟨n, t, rfl, rfl⟩
  | _, _, .cons n t r, i + 1, v, h => intsAre_item r i v h
section
local macro_rules | `(tactic| walk_at "eval Name") => `(tactic| walk_at "nmx")
theorem number_code {w : World} {s : Shared} {g : Heap} {mg mb : Str → Option Value} {R : Result → Shared → Prop} {k : Str} {u : Tok}
    (T : TopAt w mg mb g) (P : Part g s.heap)
    (hR : ∀ h' tk a n b t, Part g h' → Has g h' [(a, { cls := .type "tuple", data := .seq #[.int n t, .bool b] })] → Found k n b → R (.ok (.ret (.ref a))) { s with heap := h', toks := tk })
    (hN : ∀ h' tk, Part g h' → (∀ b n, look (tabOf b) n ≠ some k) → R (.ok (.ret .none)) { s with heap := h', toks := tk }) :
    codeAny (model pg w) (lv 7) (.call (.ref 41) ⟨[.str k u], []⟩) R s := by
  have X := T.X
  have TT := T.T
  refine enter T P (news := []) (fun _ h => nomatch h) (by decide) (f := 41) (by k_is) (by k_is) (BindsTo.of_eq rfl) (locs rfl) ?_
  intro L h₁ tk₁ F N' l1 l2
  try (k_lt l1)
  try dsimp only
  try k_fold
  k_steps
  show wpAny _ _ _ _ _ _
  rename Fr _ _ _ _ => F2
  rename News _ _ _ _ => N2
  have tG : IsTup _ _ (List.toArray [Value.bool false, Value.bool true]) := ⟨_, (N2 _ (.head _)).1, rfl, _, rfl⟩
  refine iter_tup (fun i m news => m (Str.ofString "word") = some (.str k u) ∧ news = [] ∧ (0 < i → ∀ n, look tabF n ≠ some k) ∧ (1 < i → ∀ n, look tabT n ≠ some k)) rfl tG F2 (News.nil) (fun _ h => nomatch h) ⟨rfl, rfl, (fun h => absurd h (Nat.lt_irrefl _)), fun h => absurd h (by omega)⟩ ?_ ?_
  · rintro i v m₁ news₁ h tk own hv _ _ ⟨hm, rfl, hf1, hf2⟩ F3 N3
    have hb : ∃ b, v = .bool b ∧ (b = true → 0 < i) ∧ (i = 0 ∧ b = false ∨ i = 1 ∧ b = true) := by
      match i, hv with
      | 0, hv => cases hv; exact ⟨_, rfl, (fun e => by cases e), .inl ⟨rfl, rfl⟩⟩
      | 1, hv => cases hv; exact ⟨_, rfl, (fun _ => Nat.one_pos), .inr ⟨rfl, rfl⟩⟩
    obtain ⟨b, rfl, hb1, hb2⟩ := hb
    rw [List.nil_append] at N3
    clear F2 N2
    k_steps
    show wpAny _ _ _ _ _ _
    rename Fr _ _ _ _ => F4
    rename News _ _ _ _ => N4
    rename IntsAre _ _ => iS
    rename List.Perm _ _ => pS
    rename TabIs _ _ => ht
    rename_i d o kvs _ _ lo hd _ _ _ _ _ D _ _ vs ns e _ l3
    have hl : Heap.IsList _ D vs.toArray := ⟨_, (N4 _ (.head _)).1, rfl, _, rfl⟩
    have hlen := iS.length
    have hall : ∀ b', b' = b → (∀ n ∈ ns, look (tabOf b) n ≠ some k) → ∀ n, look (tabOf b') n ≠ some k := by
      rintro b' rfl hq n e
      exact hq n (pS.mem_iff.mpr (by rw [ht.keys]; exact key_of_look e)) e
    refine iter_list_q (fun i news => news = (d, o) :: own ∧ ∀ n ∈ ns.take i, look (tabOf b) n ≠ some k) rfl hl F4 (news := (d, o) :: own) (fun p hp => N4 p (.tail _ hp)) (List.forall_mem_cons.mpr ⟨Nat.ne_of_lt l3.1, fun p hp => Nat.ne_of_lt (l3.2 p hp)⟩) ⟨rfl, fun _ h => nomatch h⟩ ?_ ?_
    · rintro j v news₂ h2 tk2 own2 hv2 ho2 ⟨rfl, hno⟩ F5 N5
      obtain ⟨n, tn, rfl, hn⟩ := intsAre_item iS j v hv2
      have hmem : n ∈ ns := List.mem_of_getElem? hn
      have hkey : n ∈ (tabOf b).map (·.1) := by rw [← ht.keys]; exact pS.mem_iff.mp hmem
      obtain ⟨x, hx⟩ := look_of_key hkey
      obtain ⟨tx, hval⟩ := ht.valueAt n
      rw [hx] at hval
      dsimp only [Option.map] at hval
      simp only [List.cons_append, List.nil_append] at N5
      clear N4 F4
      k_steps
      · rename Fr _ _ _ _ => F6
        rename News _ _ _ _ => N6
        rename (x == k) = true => hxk
        exact hR _ _ _ n b _ (part_of F6) (has_of N6 (by k_allIn)) ⟨by rw [hx, eq_of_beq hxk], fun e => hf1 (hb1 e)⟩
      · rename (x == k) = false => hxk
        refine' InvEndN.intro (by assumption) (by assumption) ?hj ?ha ?hn ?ho
        case hj =>
          refine ⟨⟨rfl, fun n' hn' => ?_⟩, by intro z h1; simp only [if_neg h1]⟩
          rw [List.take_add_one, hn] at hn'
          rcases List.mem_append.mp hn' with q | q
          · exact hno n' q
          · have e2 : n' = n := by simpa using q
            rw [e2, hx]
            intro e3
            rw [Option.some.inj e3] at hxk
            simp at hxk
        case ha => rfl
        case hn => intro p hp; rcases List.mem_cons.mp hp with rfl | hp
                   · exact .head _
                   · exact .tail _ (List.mem_append_left _ hp)
        case ho => intro p hp; exact .tail _ (List.mem_append_right _ hp)
    · rintro u2 news₂ h2 tk2 ⟨rfl, hno⟩ _ F5 N5
      rw [hlen, List.take_length] at hno
      clear N4 F4
      k_steps
      refine' InvEndN.intro (by assumption) (by assumption) ?hj ?ha ?hn ?ho
      case hj =>
        refine ⟨?_, rfl, fun _ => ?_, fun h => ?_⟩
        · exact hm
        · rcases hb2 with ⟨_, rfl⟩ | ⟨rfl, _⟩
          · exact hall false rfl hno
          · exact hf1 Nat.one_pos
        · rcases hb2 with ⟨rfl, _⟩ | ⟨_, rfl⟩
          · exact absurd h (by omega)
          · exact hall true rfl hno
      case ha => rfl
      case hn => intro p hp; cases hp
      case ho => intro p hp; exact .tail _ hp
  · rintro m₁ news₁ h tk ⟨hm, rfl, hf1, hf2⟩ _ F3 N3
    clear F2 N2
    k_steps
    rename Fr _ _ _ _ => F6
    refine hN _ _ (part_of F6) fun b n => ?_
    cases b
    · exact hf1 (by decide) n
    · exact hf2 (by decide) n
end
section
variable {w : World} {A : Around} {E : Value → Shared → Prop} {s : Shared} {h₀ : Heap} {L : Addr} {m mg mb : Str → Option Value} {news : List (Addr × Obj)} {Q : Value → Shared → Prop}
theorem number_K {k : Str} {u : Tok} (hh : A.handled = none) (hd : A.depth ≤ 380) (hu : A.units ≤ 230)
    (F : Fr h₀ L s.heap m) (N : News h₀ L s.heap news) (T : TopAt w mg mb h₀) {n : Int} {b : Bool} (hf : ∀ n' b', Found k n' b' → n' = n ∧ b' = b) (hsome : look (tabOf b) n = some k)
    (h : ∀ h' tk a t, Fr h₀ L h' m → News h₀ L h' ((a, { cls := .type "tuple", data := .seq #[.int n t, .bool b] }) :: news) → (∀ p ∈ news, p.1 ≠ a) → Q (.ref a) { s with heap := h', toks := tk }) : wpAny (model pg w) A (call (.ref 41) [.str k u]) Q E s :=
  have hs : ∀ p ∈ ([] : List (Addr × Obj)), p ∈ news := fun _ h => nomatch h
  Under.wp (B := lv 7) (wpAny_call (number_code (via_top F N hs T) via_part (fun h' tk a n' b' t P H hF => by
    obtain ⟨rfl, rfl⟩ := hf n' b' hF
    exact h h' tk a t (via_fr F N hs P) (via_new F N hs (via_read N hs P fun _ h => nomatch h) (H _ (.head _)).1 (H _ (.head _)).2) (via_ne N (H _ (.head _)).2 fun _ h => nomatch h)) fun _ _ _ hN => absurd hsome (hN b n))) hh rfl rfl rfl hd hu
theorem number_none_K {k : Str} {u : Tok} (hh : A.handled = none) (hd : A.depth ≤ 380) (hu : A.units ≤ 230)
    (F : Fr h₀ L s.heap m) (N : News h₀ L s.heap news) (T : TopAt w mg mb h₀) (hf : ∀ n b, look (tabOf b) n ≠ some k)
    (h : ∀ h' tk, Fr h₀ L h' m → News h₀ L h' news → Q .none { s with heap := h', toks := tk }) : wpAny (model pg w) A (call (.ref 41) [.str k u]) Q E s :=
  have hs : ∀ p ∈ ([] : List (Addr × Obj)), p ∈ news := fun _ h => nomatch h
  Under.wp (B := lv 7) (wpAny_call (number_code (via_top F N hs T) via_part (fun h' tk a n' b' t P H hF => absurd hF.1 (hf n' b'))
    fun h' tk P _ => h h' tk (via_fr F N hs P) (via_read N hs P fun _ h => nomatch h))) hh rfl rfl rfl hd hu
end
end Mine
namespace Mine
def reportOf (st : List (Str × Bool)) (n : Int) (b : Bool) : Int := match look (tabOf b) n with
  | some x => if (get st x).getD false = true then 1 else 2
  | none => if b = false ∧ nFixed.any (· == n) = true then 4 else 0
section
variable {st : List (Str × Bool)} {n : Int} {b : Bool} {x : Str}
theorem rep_st (e : look (tabOf b) n = some x) (h : (get st x).getD false = true) : 1 = reportOf st n b := by simp [reportOf, e, h]
theorem rep_sf (e : look (tabOf b) n = some x) (h : (get st x).getD false = false) : 2 = reportOf st n b := by simp [reportOf, e, h]
theorem rep_nt (e : look (tabOf b) n = none) (h : b = true) : 0 = reportOf st n b := by subst h; simp [reportOf, e]
theorem rep_n4 (e : look (tabOf b) n = none) (h : b = false) (h' : (nFixed.any fun x => x == n) = true) : 4 = reportOf st n b := by unfold reportOf; rw [e]; simp only; rw [if_pos ⟨h, h'⟩]
theorem rep_n0 (e : look (tabOf b) n = none) (h' : (nFixed.any fun x => x == n) = false) : 0 = reportOf st n b := by unfold reportOf; rw [e]; simp only; rw [if_neg (by rw [h']; rintro ⟨_, q⟩; cases q)]
end
theorem report_code {w : World} {s : Shared} {g : Heap} {mg mb : Str → Option Value} {R : Result → Shared → Prop} {x dx sd kd : Addr} {oS oK : Obj} {st : List (Str × Bool)} {ta tb : Tok} {n : Int} {u : Tok} {b : Bool}
    (T : TopAt w mg mb g) (P : Part g s.heap) (N : Has g s.heap (ledM w x dx sd kd ta tb oS oK))
    (hS : IsSt w oS st) (ne : NeM x dx sd kd)
    (hR : ∀ h' tk t, Part g h' → Has g h' (ledM w x dx sd kd ta tb oS oK) → R (.ok (.ret (.int (reportOf st n b) t))) { s with heap := h', toks := tk }) :
    codeAny (model pg w) (lv 4) (.call (.ref 90) ⟨[.ref x, .int n u, .bool b], []⟩) R s := by
  have X := T.X
  have TT := T.T
  obtain ⟨v17, h17, i17⟩ := t17 T
  refine enter T P N (by decide) (f := 90) (by k_is) (by k_is) (BindsTo.of_eq rfl) (locs rfl) ?_
  intro L h₁ tk₁ F N' l1 l2
  try (k_lt l1)
  dsimp only [ledM, mdict] at N'
  dsimp only [IsSt] at hS
  try dsimp only
  try k_fold
  have hR2 : ∀ h' tk t r, r = reportOf st n b → Part g h' → Has g h' (ledM w x dx sd kd ta tb oS oK) → R (.ok (.ret (.int r t))) { s with heap := h', toks := tk } := by
    rintro h' tk t r rfl; exact hR h' tk t
  clear hR
  k_steps
  all_goals
    rename Fr _ _ _ _ => F6
    rename News _ _ _ _ => N6
    rename look _ _ = _ => eW
    refine hR2 _ _ _ _ ?_ (part_of F6) (has_of N6 (by k_allIn))
    first | exact rep_st eW (by assumption) | exact rep_sf eW (by assumption) | exact rep_nt eW (by assumption) | exact rep_n4 eW (by assumption) (by assumption) | exact rep_n0 eW (by assumption)
section
variable {w : World} {A : Around} {E : Value → Shared → Prop} {s : Shared} {h₀ : Heap} {L : Addr} {m mg mb : Str → Option Value} {news : List (Addr × Obj)} {Q : Value → Shared → Prop}
theorem report_K {x dx sd kd : Addr} {oS oK : Obj} {st : List (Str × Bool)} {ta tb : Tok} {n : Int} {b : Bool} {u : Tok} (r : Int) (hh : A.handled = none) (hd : A.depth ≤ 350) (hu : A.units ≤ 140)
    (F : Fr h₀ L s.heap m) (N : News h₀ L s.heap news) (T : TopAt w mg mb h₀) (hs : ∀ p ∈ ledM w x dx sd kd ta tb oS oK, p ∈ news) (hS : IsSt w oS st) (ne : NeM x dx sd kd) (hr : reportOf st n b = r)
    (h : ∀ h' tk t, Fr h₀ L h' m → News h₀ L h' news → Q (.int r t) { s with heap := h', toks := tk }) : wpAny (model pg w) A (call (.ref 90) [.ref x, .int n u, .bool b]) Q E s := by
  subst hr
  exact Under.wp (B := lv 4) (wpAny_call (report_code (via_top F N hs T) via_part (via_has N hs) hS ne fun h' tk t P H => h h' tk t (via_fr F N hs P) (via_read N hs P fun p hp => (H p hp).1))) hh rfl rfl rfl hd hu
end
end Mine
namespace Mine
def saveF (st kp : List (Str × Bool)) (ns : List Int) : List (Str × Bool) := ns.foldl (fun a n => match look tabT n with | some x => put a x ((get st x).getD false) | none => a) kp
theorem saveF_take {st kp : List (Str × Bool)} {ns : List Int} {i : Nat} {n : Int} (h : ns[i]? = some n) : saveF st kp (ns.take (i + 1)) = match look tabT n with | some x => put (saveF st kp (ns.take i)) x ((get st x).getD false) | none => saveF st kp (ns.take i) := by
  unfold saveF
  rw [List.take_add_one, h]; simp
theorem saveF_length (st kp : List (Str × Bool)) (ns : List Int) : (saveF st kp ns).length ≤ kp.length + ns.length := by
  induction ns generalizing kp with
  | nil => exact Nat.le_refl _
  | cons n r ih =>
    unfold saveF at *
    simp only [List.foldl_cons, List.length_cons]
    cases look tabT n with
    | none => have := ih kp; dsimp only; omega
    | some x => have := ih (put kp x ((get st x).getD false)); have := put_length kp x ((get st x).getD false); dsimp only; omega
section
local macro_rules | `(tactic| walk_at "eval Name") => `(tactic| walk_at "nmx")
theorem save_code {w : World} {s : Shared} {g : Heap} {mg mb : Str → Option Value} {R : Result → Shared → Prop} {x dx sd kd : Addr} {oS oK : Obj} {st kp : List (Str × Bool)} {ta tb : Tok} {a : Addr} {vs : List Value} {ns : List Int}
    (T : TopAt w mg mb g) (P : Part g s.heap) (N : Has g s.heap (ledM w x dx sd kd ta tb oS oK))
    (hS : IsSt w oS st) (hK : IsSt w oK kp) (ne : NeM x dx sd kd) (hl : g.IsList a vs.toArray) (hi : IntsAre vs ns) (hz : kp.length + ns.length ≤ 900)
    (hR : ∀ h' tk o', Part g h' → Has g h' (ledM w x dx sd kd ta tb oS o') → IsSt w o' (saveF st kp ns) → R (.ok (.ret .none)) { s with heap := h', toks := tk }) :
    codeAny (model pg w) (lv 4) (.call (.ref 97) ⟨[.ref x, .ref a], []⟩) R s := by
  have X := T.X
  have TT := T.T
  have ⟨n1, n2, n3, n4, n5, n6, _, lo⟩ := ne
  refine enter T P N (by decide) (f := 97) (by k_is) (by k_is) (BindsTo.of_eq rfl) (locs rfl) ?_
  intro L h₁ tk₁ F N' l1 l2
  try (k_lt l1)
  dsimp only [ledM, mdict] at N'
  dsimp only [IsSt] at hS
  try dsimp only
  try k_fold
  k_steps
  show wpAny _ _ _ _ _ _
  rename Fr _ _ _ _ => F2
  have hl2 := list_keeps hl F2.keep
  obtain ⟨ol, hol, _, nn, hdl⟩ := id hl2
  have han := ledM_off (x := x) (dx := dx) (sd := sd) (kd := kd) (ta := ta) (tb := tb) (w := w) hol hdl (fun p hp => (N' p hp).1) hS hK
  clear hol hdl
  have hlen := hi.length
  refine iter_list (fun i m news => m (Str.ofString "modes") = some (.ref x) ∧ ∃ o', news = [(x, instObj 79 dx), (dx, dictOf [⟨PyData.keyHash w.params (Str.ofString "states"), .str (Str.ofString "states") ta, .ref sd⟩, ⟨PyData.keyHash w.params (Str.ofString "kept"), .str (Str.ofString "kept") tb, .ref kd⟩] 2), (sd, oS), (kd, o')] ∧ IsSt w o' (saveF st kp (ns.take i))) rfl hl2 F2 N' han ⟨rfl, _, rfl, hK⟩ ?_ ?_
  · rintro i v m₁ news₁ h tk own hv _ ho ⟨hm, o', rfl, hK'⟩ F3 N3
    obtain ⟨n, tn, rfl, hn⟩ := intsAre_item hi i v hv
    have hz' := saveF_length st kp (ns.take i)
    have hz3 : (ns.take i).length ≤ ns.length := List.length_take_le' _ _
    simp only [List.cons_append, List.nil_append] at N3
    simp only [List.map_cons, List.map_nil] at ho
    dsimp only [IsSt] at hK'
    clear hK F2 N'
    k_steps
    · rename Obj.IsDictOf _ _ (bk (put _ _ _)) => hd'
      rename look _ _ = some _ => eW
      refine' InvEndN.intro (by assumption) (by assumption) ?hj ?ha ?hn ?ho
      case hj => exact ⟨hm, _, rfl, by rw [saveF_take hn, show look tabT n = _ from eW]; exact hd'⟩
      case ha => rfl
      case hn => k_allIn
      case ho => intro p hp; k_ownIn
    · rename look _ _ = none => eW
      refine' InvEndN.intro (by assumption) (by assumption) ?hj ?ha ?hn ?ho
      case hj => exact ⟨hm, _, rfl, by rw [saveF_take hn, show look tabT n = _ from eW]; exact hK'⟩
      case ha => rfl
      case hn => k_allIn
      case ho => intro p hp; k_ownIn
  · rintro m₁ news₁ h tk ⟨hm, o', rfl, hK'⟩ _ F3 N3
    rw [hlen, List.take_length] at hK'
    clear hK F2 N'
    k_steps
    rename Fr _ _ _ _ => F6
    rename News _ _ _ _ => N6
    exact hR _ _ _ (part_of F6) (has_of N6 (by k_allIn)) hK'
end
section
variable {w : World} {A : Around} {E : Value → Shared → Prop} {s : Shared} {h₀ : Heap} {L : Addr} {m mg mb : Str → Option Value} {news : List (Addr × Obj)} {Q : Value → Shared → Prop}
theorem via_isList {sub : List (Addr × Obj)} {a : Addr} {items : Array Value} (h : s.heap.IsList a items) (ha : a ∉ sub.map (·.1)) : (gOf s.heap sub).IsList a items := let ⟨o, ho, r⟩ := h; ⟨o, hideAll_get _ ho ha, r⟩
theorem save_K {G : Obj → List (Addr × Obj)} {x dx sd kd : Addr} {oS oK : Obj} {st kp : List (Str × Bool)} {ta tb : Tok} {a : Addr} {vs : List Value} {ns : List Int} (hh : A.handled = none) (hd : A.depth ≤ 350) (hu : A.units ≤ 140)
    (F : Fr h₀ L s.heap m) (N : News h₀ L s.heap news) (T : TopAt w mg mb h₀) (hs : ∀ p ∈ ledM w x dx sd kd ta tb oS oK, p ∈ news) (hS : IsSt w oS st) (hK : IsSt w oK kp) (ne : NeM x dx sd kd) (U : UpdF kd oK news G)
    (hl : s.heap.IsList a vs.toArray) (hi : IntsAre vs ns) (hz : kp.length + ns.length ≤ 900)
    (h : ∀ h' tk o', Fr h₀ L h' m → News h₀ L h' (G o') → IsSt w o' (saveF st kp ns) → Q .none { s with heap := h', toks := tk }) : wpAny (model pg w) A (call (.ref 97) [.ref x, .ref a]) Q E s := by
  obtain ⟨ol, hol, _, nn, hdl⟩ := id hl
  have han := ledM_off (x := x) (dx := dx) (sd := sd) (kd := kd) (ta := ta) (tb := tb) (w := w) hol hdl (fun p hp => (N p (hs p hp)).1) hS hK
  exact Under.wp (B := lv 4) (wpAny_call (save_code (via_top F N hs T) via_part (via_has N hs) hS hK ne (via_isList hl fun q => by obtain ⟨p, hp, e⟩ := List.mem_map.mp q; exact han p hp e) hi hz fun h' tk o' P H hK' => h h' tk o' (via_fr F N hs P)
    (via_upd N hs U P (List.forall_mem_cons.mpr ⟨fun _ => (H _ (by k_memK)).1, List.forall_mem_cons.mpr ⟨fun _ => (H _ (by k_memK)).1, List.forall_mem_cons.mpr ⟨fun _ => (H _ (by k_memK)).1, List.forall_mem_cons.mpr ⟨fun q => absurd rfl q, List.forall_mem_nil _⟩⟩⟩⟩) (H (kd, o') (by k_memK)).1) hK')) hh rfl rfl rfl hd hu
end
end Mine
namespace Mine
section loopx
variable {prog : Program} {w : World} {A : Around} {E : Value → Shared → Prop} {s : Shared} {env : Env} {h₀ : Heap} {x : Str} {body : List Stmt} {Q : Flow → Shared → Prop}
/-- a turn's end where new objects are kept beside the ones that are changed -/
def InvEndX (h₀ : Heap) (L : Addr) (J : (Str → Option Value) → List (Addr × Obj) → List (Addr × Obj) → Prop) (own : List (Addr × Obj)) (adr : List Addr) (C : Value) (s₁ s₂ : Shared) : Prop :=
  ∃ h' tk m' news' nx ext, s₂ = { s₁ with heap := h', toks := tk } ∧ Fr h₀ L h' m' ∧ News h₀ L h' news' ∧ (∀ p ∈ nx, p ∈ news') ∧ (∀ p ∈ ext, p ∈ news') ∧ (∀ p ∈ own, p ∈ news') ∧ nx.map (·.1) = adr ∧ OwnOff ext adr ∧ (∀ p ∈ ext, p.2.cls ≠ C) ∧ J m' nx ext
def InvPostX (h₀ : Heap) (L : Addr) (J : (Str → Option Value) → List (Addr × Obj) → List (Addr × Obj) → Prop) (own : List (Addr × Obj)) (adr : List Addr) (C : Value) (s₁ : Shared) (Q : Flow → Shared → Prop) (f : Flow) (s₂ : Shared) : Prop :=
  match f with
  | .ret v => Q (.ret v) s₂
  | .brk => Q .next s₂
  | _ => InvEndX h₀ L J own adr C s₁ s₂
theorem InvEndX.intro {L : Addr} {J : (Str → Option Value) → List (Addr × Obj) → List (Addr × Obj) → Prop} {m' : Str → Option Value} {own news' nx ext : List (Addr × Obj)} {adr : List Addr} {C : Value} {s₁ : Shared} {h' : Heap} {tk : Nat} (F : Fr h₀ L h' m') (N : News h₀ L h' news')
    (hj : J m' nx ext) (ha : nx.map (·.1) = adr) (hn : ∀ p ∈ nx, p ∈ news') (he : ∀ p ∈ ext, p ∈ news') (ho : ∀ p ∈ own, p ∈ news') (hoff : OwnOff ext adr) (hc : ∀ p ∈ ext, p.2.cls ≠ C) : InvEndX h₀ L J own adr C s₁ { s₁ with heap := h', toks := tk } :=
  ⟨h', tk, m', news', nx, ext, rfl, F, N, hn, he, ho, ha, hoff, hc, hj⟩

theorem loop_x {I : Addr} {fp : List Addr} {n : Nat} {P : Nat → Value → Prop} {St : Nat → Heap → Prop} {m₀ : Str → Option Value} {news ext₀ : List (Addr × Obj)} (J : Nat → (Str → Option Value) → List (Addr × Obj) → List (Addr × Obj) → Prop) (C : Value)
    (W : Walks prog w A I fp [I] n P St) (hLf : env.locals ∉ fp) (hI0 : h₀.get? I = none) (hC : ∀ i h, St i h → ∃ o, h.get? I = some o ∧ o.cls = C) (hnf : ∀ p ∈ news, p.1 ∉ fp) (hst : St 0 s.heap)
    (F : Fr h₀ env.locals s.heap m₀) (N : News h₀ env.locals s.heap (news ++ ext₀)) (hoff₀ : OwnOff ext₀ (news.map (·.1))) (hc₀ : ∀ p ∈ ext₀, p.2.cls ≠ C) (hj : J 0 m₀ news ext₀)
    (turn : ∀ i v m₁ news₁ ext h tk own, i < n → P i v → news₁.map (·.1) = news.map (·.1) → OwnOff (ext ++ own) (news.map (·.1)) → (∀ p ∈ ext, p.2.cls ≠ C) → J i m₁ news₁ ext → Fr h₀ env.locals h (fun y => if y = x then some v else m₁ y) → News h₀ env.locals h (news₁ ++ (ext ++ own)) →
      wpAny (model prog w) A (execs body env) (InvPostX h₀ env.locals (J (i + 1)) own (news.map (·.1)) C { s with heap := h, toks := tk } Q) E { s with heap := h, toks := tk })
    (done : ∀ m₁ news₁ ext h tk, J n m₁ news₁ ext → news₁.map (·.1) = news.map (·.1) → OwnOff ext (news.map (·.1)) → (∀ p ∈ ext, p.2.cls ≠ C) → Fr h₀ env.locals h m₁ → News h₀ env.locals h (news₁ ++ ext) → Q .next { s with heap := h, toks := tk }) :
    LoopAtV prog w A h₀ env x body Q E (.ref I) s := by
  let J' : Nat → (Str → Option Value) → List (Addr × Obj) → Prop := fun i m₁ l => ∃ news₁ ext, l = news₁ ++ ext ∧ news₁.map (·.1) = news.map (·.1) ∧ OwnOff ext (news.map (·.1)) ∧ (∀ p ∈ ext, p.2.cls ≠ C) ∧ J i m₁ news₁ ext
  obtain ⟨oI0, hoI0, hcI0⟩ := hC 0 _ hst
  have hIf : I ∈ fp := W.sub _ (.head _)
  refine ⟨I, fp, [I], n, P, St, m₀, news ++ ext₀, J', rfl, W, hLf, (fun b hb => by rw [List.mem_singleton.mp hb]; exact hI0), ?_, hst, F, N, ⟨news, ext₀, rfl, rfl, hoff₀, hc₀, hj⟩, ?_, ?_⟩
  · intro p hp hq
    rcases List.mem_append.mp hp with q | q
    · exact hnf p q (List.mem_singleton.mp hq ▸ hIf)
    · have h1 := (N p hp).1
      rw [List.mem_singleton.mp hq, hoI0] at h1
      cases h1
      exact hc₀ p q hcI0
  · rintro i v m₁ l s₁ own ⟨h, tk, rfl⟩ hin hP ⟨news₁, ext, rfl, hadr, hoff, hcls, hJ⟩ hoffI hown hown2 hall hst1 F₁ N₁
    have hsep : OwnOff own (news.map (·.1)) := by
      intro p hp b hb e
      obtain ⟨q, hq, rfl⟩ := List.mem_map.mp hb
      exact hnf q hq (e ▸ hown p hp)
    obtain ⟨oI, hoI, hcI⟩ := hC _ _ hst1
    have hIown : (I, oI) ∈ own := hall I hIf hI0 oI hoI
    have hsep2 : OwnOff (ext ++ own) (news.map (·.1)) := fun p hp b hb => (List.mem_append.mp hp).elim (fun q => hoff p q b hb) fun q => hsep p q b hb
    have N₂ : News h₀ env.locals h (news₁ ++ (ext ++ own)) := fun p hp => N₁ p (by
      rcases List.mem_append.mp hp with q | q
      · exact List.mem_append_right _ (List.mem_append_left _ q)
      · rcases List.mem_append.mp q with q | q
        · exact List.mem_append_right _ (List.mem_append_right _ q)
        · exact List.mem_append_left _ q)
    refine wpAny_mono (turn i v m₁ news₁ ext h tk own hin hP hadr hsep2 hcls hJ F₁ N₂) (fun f s₂ p => ?_) fun _ _ e => e
    have fin : InvEndX h₀ env.locals (J (i + 1)) own (news.map (·.1)) C { s with heap := h, toks := tk } s₂ → LoopStepU h₀ env.locals [I] own (J' (i + 1)) { s with heap := h, toks := tk } .next s₂ := by
      rintro ⟨h', tk', m', news', nx, ext', e, F', N', hn, he, ho, ha, hoff', hc', hm⟩
      refine ⟨rfl, h', tk', m', nx ++ ext', e, F', fun p hp => N' p ?_, fun p hp hq => ?_, nx, ext', rfl, ha, hoff', hc', hm⟩
      · rcases List.mem_append.mp hp with q | q
        · exact ho p q
        · exact (List.mem_append.mp q).elim (hn p) (he p)
      · rcases List.mem_append.mp hp with q | q
        · have h1 : p.1 ∈ nx.map (·.1) := List.mem_map.mpr ⟨p, q, rfl⟩
          rw [ha, List.mem_singleton.mp hq] at h1
          obtain ⟨r, hr1, hr2⟩ := List.mem_map.mp h1
          exact hnf r hr1 (hr2 ▸ hIf)
        · have h1 := (N' p (he p q)).1
          have h2 := (N' _ (ho _ hIown)).1
          rw [List.mem_singleton.mp hq] at h1
          dsimp only at h2
          rw [h2] at h1
          cases h1
          exact hc' p q hcI
    cases f with
    | ret v => exact .ret p
    | brk => exact .brk p
    | next => exact .next (fin p)
    | cont => exact .cont (fin p)
  · rintro h' tk m' l F' N' _ ⟨news₁, ext, rfl, hadr, hoff, hcls, hJ⟩
    exact done m' news₁ ext h' tk hJ hadr hoff hcls F' N'

theorem iter_list_x {a : Addr} {vs : List Value} {m₀ : Str → Option Value} {news ext₀ : List (Addr × Obj)} (J : Nat → (Str → Option Value) → List (Addr × Obj) → List (Addr × Obj) → Prop)
    (hh : A.handled = none) (hl : s.heap.IsList a vs.toArray) (F : Fr h₀ env.locals s.heap m₀) (N : News h₀ env.locals s.heap (news ++ ext₀)) (hoff₀ : OwnOff ext₀ (news.map (·.1))) (hc₀ : ∀ p ∈ ext₀, p.2.cls ≠ .type "list_iterator") (han : ∀ p ∈ news, p.1 ≠ a) (hj : J 0 m₀ news ext₀)
    (turn : ∀ i v m₁ news₁ ext h tk own, vs[i]? = some v → news₁.map (·.1) = news.map (·.1) → OwnOff (ext ++ own) (news.map (·.1)) → (∀ p ∈ ext, p.2.cls ≠ .type "list_iterator") → J i m₁ news₁ ext → Fr h₀ env.locals h (fun y => if y = x then some v else m₁ y) → News h₀ env.locals h (news₁ ++ (ext ++ own)) →
      wpAny (model prog w) A (execs body env) (InvPostX h₀ env.locals (J (i + 1)) own (news.map (·.1)) (.type "list_iterator") { s with heap := h, toks := tk } Q) E { s with heap := h, toks := tk })
    (done : ∀ m₁ news₁ ext h tk, J vs.length m₁ news₁ ext → news₁.map (·.1) = news.map (·.1) → OwnOff ext (news.map (·.1)) → (∀ p ∈ ext, p.2.cls ≠ .type "list_iterator") → Fr h₀ env.locals h m₁ → News h₀ env.locals h (news₁ ++ ext) → Q .next { s with heap := h, toks := tk }) :
    wpAny (model prog w) A (pyIter (.ref a)) (fun it s₂ => LoopAtV prog w A h₀ env x body Q E it s₂) E s := by
  obtain ⟨ol, hol, _, n, hd⟩ := id hl
  have hlt := Heap.lt_size hol
  have haL := fr_ne_seq F hol hd
  refine wpAny_pyIter_list hl ?_
  have W := Walks.list (prog := prog) (w := w) hh s.heap.objs.size a (Nat.ne_of_lt hlt) vs.toArray
  rw [show vs.toArray.size = vs.length from by simp] at W
  refine loop_x J (.type "list_iterator") W ?_ (fr_new F) (fun i h st => let ⟨o, ho, hc, _⟩ := st.1; ⟨o, ho, hc⟩) ?_ ⟨⟨_, Heap.get?_push_size _ rfl, rfl, rfl⟩, hl.at fun o e => Heap.get?_push_of_some _ e⟩ (F.push _) (fun p hp => ⟨Heap.get?_push_of_some _ (N p hp).1, (N p hp).2⟩) hoff₀ hc₀ hj ?_ done
  · intro hm
    rcases List.mem_cons.mp hm with e | hm
    · exact absurd F.ns.lt (e ▸ Nat.lt_irrefl _)
    · exact haL (List.mem_singleton.mp hm).symm
  · intro p hp hI
    rcases List.mem_cons.mp hI with e | hI
    · exact absurd (Heap.lt_size (N p (List.mem_append_left _ hp)).1) (e ▸ Nat.lt_irrefl _)
    · exact han p hp (List.mem_singleton.mp hI)
  · intro i v m₁ news₁ ext h tk own _ hP
    exact turn i v m₁ news₁ ext h tk own (by simpa using hP)

theorem iter_range_x {r : Addr} {n : Nat} {b : Int} {t u v : Tok} {m₀ : Str → Option Value} {news ext₀ : List (Addr × Obj)} (J : Nat → (Str → Option Value) → List (Addr × Obj) → List (Addr × Obj) → Prop)
    (hh : A.handled = none) (hr : IsRange s.heap r 0 b 1 t u v) (hb : b = n) (hn : n < 1000000) (F : Fr h₀ env.locals s.heap m₀) (N : News h₀ env.locals s.heap (news ++ ext₀)) (hoff₀ : OwnOff ext₀ (news.map (·.1))) (hc₀ : ∀ p ∈ ext₀, p.2.cls ≠ .type "range_iterator") (hj : J 0 m₀ news ext₀)
    (turn : ∀ i m₁ news₁ ext h tk own ti, i < n → news₁.map (·.1) = news.map (·.1) → OwnOff (ext ++ own) (news.map (·.1)) → (∀ p ∈ ext, p.2.cls ≠ .type "range_iterator") → J i m₁ news₁ ext → Fr h₀ env.locals h (fun y => if y = x then some (.int i ti) else m₁ y) → News h₀ env.locals h (news₁ ++ (ext ++ own)) →
      wpAny (model prog w) A (execs body env) (InvPostX h₀ env.locals (J (i + 1)) own (news.map (·.1)) (.type "range_iterator") { s with heap := h, toks := tk } Q) E { s with heap := h, toks := tk })
    (done : ∀ m₁ news₁ ext h tk, J n m₁ news₁ ext → news₁.map (·.1) = news.map (·.1) → OwnOff ext (news.map (·.1)) → (∀ p ∈ ext, p.2.cls ≠ .type "range_iterator") → Fr h₀ env.locals h m₁ → News h₀ env.locals h (news₁ ++ ext) → Q .next { s with heap := h, toks := tk }) :
    wpAny (model prog w) A (pyIter (.ref r)) (fun it s₂ => LoopAtV prog w A h₀ env x body Q E it s₂) E s := by
  subst hb
  have hsmall : Builtin.Range.small 0 (n : Int) 1 = true := small_one (by decide) (by decide) (by omega) (by omega)
  refine wpAny_pyIter_range hr hsmall ?_
  have hsz : Builtin.Range.rangeSize 0 (n : Int) 1 = (n : Int) := by
    unfold Builtin.Range.rangeSize
    split <;> simp_all <;> omega
  have W := Walks.range (prog := prog) (w := w) hh s.heap.objs.size 0 1 n
  refine loop_x J (.type "range_iterator") W ?_ (fr_new F) (fun i h st => ⟨_, st, rfl⟩) ?_ (by rw [hsz]; show IsRangeIter _ _ _ _ _; simpa using (Heap.get?_push_size s.heap (o := _) rfl)) (F.push _) (fun p hp => ⟨Heap.get?_push_of_some _ (N p hp).1, (N p hp).2⟩) hoff₀ hc₀ hj ?_ done
  · intro hm
    exact absurd F.ns.lt ((List.mem_singleton.mp hm) ▸ Nat.lt_irrefl _)
  · intro p hp hI
    exact absurd (Heap.lt_size (N p (List.mem_append_left _ hp)).1) ((List.mem_singleton.mp hI) ▸ Nat.lt_irrefl _)
  · rintro i v m₁ news₁ ext h tk own hin ⟨ti, rfl⟩ ha ho hc hJ F1 N1
    have e : (0 : Int) + (i : Int) * 1 = i := by omega
    rw [e] at F1
    exact turn i m₁ news₁ ext h tk own ti hin ha ho hc hJ F1 N1
end loopx
end Mine
namespace Mine
abbrev tupObj (k : Str) (t : Tok) (b : Bool) : Obj := { cls := .type "tuple", data := .seq #[.str k t, .bool b] }
/-- a list's items: tuples of a text and a bool, that stand in `ext` -/
inductive PrsAre (ext : List (Addr × Obj)) : List Value → List (Str × Bool) → Prop
  | nil : PrsAre ext [] []
  | cons (a : Addr) (k : Str) (t : Tok) (b : Bool) {vs ps} : (a, tupObj k t b) ∈ ext → PrsAre ext vs ps → PrsAre ext (.ref a :: vs) ((k, b) :: ps)
theorem PrsAre.mono {ext ext' : List (Addr × Obj)} (h : ∀ p ∈ ext, p ∈ ext') : ∀ {vs ps}, PrsAre ext vs ps → PrsAre ext' vs ps
  | _, _, .nil => .nil
  | _, _, .cons a k t b m r => .cons a k t b (h _ m) (r.mono h)
theorem PrsAre.snoc {ext : List (Addr × Obj)} {a : Addr} {k : Str} {t : Tok} {b : Bool} (m : (a, tupObj k t b) ∈ ext) : ∀ {vs ps}, PrsAre ext vs ps → PrsAre ext (vs ++ [.ref a]) (ps ++ [(k, b)])
  | _, _, .nil => .cons a k t b m .nil
  | _, _, .cons a' k' t' b' m' r => .cons a' k' t' b' m' (r.snoc m)
theorem PrsAre.length {ext : List (Addr × Obj)} : ∀ {vs ps}, PrsAre ext vs ps → vs.length = ps.length
  | _, _, .nil => rfl
  | _, _, .cons a k t b m r => by simp only [List.length_cons, r.length]
theorem PrsAre.item {ext : List (Addr × Obj)} : ∀ {vs ps}, PrsAre ext vs ps → ∀ (i : Nat) (v : Value), vs[i]? = some v → ∃ a k t b, v = .ref a ∧ (a, tupObj k t b) ∈ ext ∧ ps[i]? = some (k, b)
  | _, _, .nil, i, v, h => by simp at h
  | _, _, .cons a k t b m r, 0, v, h => by cases h; exact ⟨a, k, t, b, rfl, m, rfl⟩
  | _, _, .cons a k t b m r, i + 1, v, h => r.item i v h
def savedF (kp : List (Str × Bool)) (ns : List Int) : List (Str × Bool) := ns.filterMap fun n => (look tabT n).bind fun x => (get kp x).map fun b => (x, b)
theorem savedF_take {kp : List (Str × Bool)} {ns : List Int} {i : Nat} {n : Int} (h : ns[i]? = some n) : savedF kp (ns.take (i + 1)) = savedF kp (ns.take i) ++ (((look tabT n).bind fun x => (get kp x).map fun b => (x, b)).toList) := by
  unfold savedF
  rw [List.take_add_one, h, List.filterMap_append]
  congr 1
theorem savedF_length (kp : List (Str × Bool)) (ns : List Int) : (savedF kp ns).length ≤ ns.length := List.length_filterMap_le _ _
section
variable {w : World} {A : Around} {E : Value → Shared → Prop} {s : Shared} {h₀ : Heap} {L d : Addr} {m : Str → Option Value} {news : List (Addr × Obj)} {o : Obj} {st : List (Str × Bool)} {k : Str} {t : Tok} {Q : Value → Shared → Prop}
theorem in_bool (N : News h₀ L s.heap news) (hp : (d, o) ∈ news) (hd : o.IsDictOf (PySem.strKind pg w) (bk st)) (lo : (d == sysModules) = false) (h : Q (.bool (get st k).isSome) { s with toks := s.toks + 1 }) :
    wpAny (model pg w) A (compareOp .In (.str k t) (.ref d)) Q E s := kda_in (knd := PySem.strKind _ _) N hp hd lo (strKind_is _ _ _ _) _ (by rw [valueAt_bk, Option.isSome_map]) h
theorem item_bool {value slice : PySem.Expr} (N : News h₀ L s.heap news) (hp : (d, o) ∈ news) (hd : o.IsDictOf (PySem.strKind pg w) (bk st)) (hs : (get st k).isSome = true) (h : ∀ b, get st k = some b → Q (.bool b) { s with toks := s.toks + 1 })
    (h1 : subscripted slice false (.ref d) (.str k t) = operate [.ref d, .str k t] (getItem (.ref d) (.str k t)) := by with_unfolding_all rfl) (h2 : ∀ r, letTemporaryGo value (.ref d) r = pure () := by intro _; with_unfolding_all rfl) :
    wpAny (model pg w) A (subscriptTail value slice (.ref d) (.str k t)) Q E s := by
  obtain ⟨b, hb⟩ := Option.isSome_iff_exists.mp hs
  exact kda_item (knd := PySem.strKind _ _) (v := .bool b) N hp hd (strKind_is _ _ _ _) (by rw [valueAt_bk, hb]; rfl) (h b hb) h1 h2
theorem getItem_bool (N : News h₀ L s.heap news) (hp : (d, o) ∈ news) (hd : o.IsDictOf (PySem.strKind pg w) (bk st)) (hs : (get st k).isSome = true) (h : ∀ b, get st k = some b → Q (.bool b) { s with toks := s.toks + 1 }) :
    wpAny (model pg w) A (getItem (.ref d) (.str k t)) Q E s := by
  obtain ⟨b, hb⟩ := Option.isSome_iff_exists.mp hs
  exact wpAny_getItem_of (knd := PySem.strKind _ _) (v := .bool b) (strKind_is _ _ _ _) (kda_dict N hp hd).mapOf (by rw [valueAt_bk, hb]; rfl) (h b hb)
theorem append_x {G : Obj → List (Addr × Obj)} {its : Array Value} {n : Nat} {v : Value} {D : Addr} (F : Fr h₀ L s.heap m) (N : News h₀ L s.heap news) (U : UpdF D (listOf its n) news G) (hz : its.size ≤ 100000)
    (h : ∀ h' n', Fr h₀ L h' m → News h₀ L h' (G (listOf (its.push v) n')) → Q .none { s with heap := h' }) : wpAny (model pg w) A (call (.builtin "list.append") [.ref D, v]) Q E s := by
  obtain ⟨pre, post, rfl, hg, a, b⟩ := U.split
  have hm := N (D, listOf its n) (List.mem_append_right _ (.head _))
  refine wpAny_call_entry slot_list_append (show s.TypeIs (.ref D) "list" from ⟨_, hm.1, rfl⟩) entry_list_append ?_ (args_list_append _ _)
  show wpAny _ _ (updateSeq D (·.push v) >>= fun _ => ret .none) _ _ s
  refine wpAny_bind (wpAny_updateSeq hm.1 rfl (wpAny_pure ⟨.none, rfl, ?_⟩) (by rw [sizeLine_eq]; omega) (by rw [Array.size_push, sizeLine_eq]; omega))
  have hs : Heap.SameBut D s.heap (s.heap.update D (Obj.mapSeq (·.push v))) := Heap.SameBut.update ..
  refine h _ (n + 1) (F.change hs hm.2.1 hm.2.2) ?_
  rw [hg]
  refine N.setIn a b hs ?_
  have e := get?_update_seq hm.1 (·.push v)
  have hne : ((its.push v).size == its.size) = false := by simp
  rw [hne] at e
  exact e
end
theorem ownOff_left {a b : List (Addr × Obj)} {adr : List Addr} (h : OwnOff (a ++ b) adr) : OwnOff a adr := fun p hp => h p (List.mem_append_left _ hp)
theorem ownOff_right {a b : List (Addr × Obj)} {adr : List Addr} (h : OwnOff (a ++ b) adr) : OwnOff b adr := fun p hp => h p (List.mem_append_right _ hp)
theorem ownOff_cons {a : Addr} {o : Obj} {l : List (Addr × Obj)} {adr : List Addr} (h1 : ∀ b ∈ adr, a ≠ b) (h2 : OwnOff l adr) : OwnOff ((a, o) :: l) adr := fun p hp b hb => by
  rcases List.mem_cons.mp hp with rfl | hp
  · exact h1 b hb
  · exact h2 p hp b hb
theorem cls_ne {ext : List (Addr × Obj)} {c c' : Value} (h : ∀ p ∈ ext, p.2.cls = c) (hc : c ≠ c') : ∀ p ∈ ext, p.2.cls ≠ c' := fun p hp e => hc ((h p hp).symm.trans e)
abbrev headOf {h₀ h : Heap} {L : Addr} {p : Addr × Obj} {l : List (Addr × Obj)} (_ : News h₀ L h (p :: l)) : Addr × Obj := p
abbrev secondOf {h₀ h : Heap} {L : Addr} {p q : Addr × Obj} {l : List (Addr × Obj)} (_ : News h₀ L h (p :: q :: l)) : Addr × Obj := q
theorem none_of_false {α : Type} {o : Option α} (h : o.isSome = false) : o = none := by cases o with | none => rfl | some a => cases h
theorem type_ne {a b : String} (h : (a == b) = false) : (Value.type a) ≠ .type b := fun e => by
  rw [Value.type.inj e, beq_self_eq_true] at h; cases h
end Mine
local macro_rules | `(tactic| walk_at "compareOp In str ref") => `(tactic| (k_here; (with_reducible show wpAny _ _ (compareOp CmpOp.In (Value.str _ _) (Value.ref _)) _ _ _); k_dflt (refine' Mine.in_bool (by k_asm) (by k_memK) (by with_reducible assumption) (by with_reducible assumption) ?_)))
local macro_rules | `(tactic| walk_at "subscriptTail") => `(tactic| (k_here; (with_reducible show wpAny _ _ (subscriptTail _ _ (Value.ref _) (Value.str _ _)) _ _ _); k_dflt (refine' Mine.item_bool (by k_asm) (by k_memK) (by with_reducible assumption) (by with_reducible assumption) ?_ ?h1 ?h2; (case h1 => with_unfolding_all rfl); (case h2 => intro _; with_unfolding_all rfl)); intro b' eB'))
local macro_rules | `(tactic| walk_at "call builtin:list.append") => `(tactic| (k_here; (with_reducible show wpAny _ _ (call (Value.builtin "list.append") [Value.ref _, _]) _ _ _); k_dflt (refine' Mine.append_x (by k_asm) (by k_asm) (by k_updF) ?hz ?_; (case hz => first | omega | (simp only [List.size_toArray]; omega))); intro h' n' F' N'; (try dsimp only at N')))
local macro_rules | `(tactic| walk_at "getItem ref str") => `(tactic| (k_here; (with_reducible show wpAny _ _ (getItem (Value.ref _) (Value.str _ _)) _ _ _); k_dflt (refine' Mine.getItem_bool (by k_asm) (by k_memK) (by with_reducible assumption) (by assumption) ?_); intro b' eB'))
local macro_rules | `(tactic| walk_at "InvPostX") => `(tactic| (dsimp only [Mine.InvPostX]))
local macro_rules | `(tactic| walk_at "memext") => `(tactic| (intro p hp; repeat (first | exact hp | exact List.mem_append_left _ hp | exact List.mem_append_right _ hp | refine List.Mem.tail _ ?_)))
local macro_rules | `(tactic| walk_at "allne") => `(tactic| repeat (first | exact List.forall_mem_nil _ | refine List.forall_mem_cons.mpr ⟨by k_ne, ?_⟩))
namespace Mine
section
local macro_rules | `(tactic| walk_at "eval Name") => `(tactic| walk_at "nmx")
theorem saved_code {w : World} {s : Shared} {g : Heap} {mg mb : Str → Option Value} {R : Result → Shared → Prop} {x dx sd kd : Addr} {oS oK : Obj} {st kp : List (Str × Bool)} {ta tb : Tok} {a : Addr} {vs : List Value} {ns : List Int}
    (T : TopAt w mg mb g) (P : Part g s.heap) (N : Has g s.heap (ledM w x dx sd kd ta tb oS oK))
    (hS : IsSt w oS st) (hK : IsSt w oK kp) (ne : NeM x dx sd kd) (hl : g.IsList a vs.toArray) (hi : IntsAre vs ns) (hz : kp.length + ns.length ≤ 900)
    (hR : ∀ h' tk D its n ext, Part g h' → Has g h' ((D, listOf its n) :: (x, instObj 79 dx) :: (dx, mdict w ta tb sd kd) :: (sd, oS) :: (kd, oK) :: ext) → PrsAre ext its.toList (savedF kp ns) → (∀ p ∈ ext, p.2.cls = .type "tuple") → R (.ok (.ret (.ref D))) { s with heap := h', toks := tk }) :
    codeAny (model pg w) (lv 4) (.call (.ref 104) ⟨[.ref x, .ref a], []⟩) R s := by
  have X := T.X
  have TT := T.T
  have ⟨n1, n2, n3, n4, n5, n6, _, lo⟩ := ne
  refine enter T P N (by decide) (f := 104) (by k_is) (by k_is) (BindsTo.of_eq rfl) (locs rfl) ?_
  intro L h₁ tk₁ F N' l1 l2
  try (k_lt l1)
  dsimp only [ledM, mdict] at N'
  dsimp only [IsSt] at hS hK
  try dsimp only
  try k_fold
  k_steps
  show wpAny _ _ _ _ _ _
  rename Fr _ _ _ _ => F2
  rename News _ _ _ _ => N2
  rename_i D _ lD _
  have hl2 := list_keeps hl F2.keep
  obtain ⟨ol, hol, _, nn, hdl⟩ := id hl2
  have han := ledM_off (x := x) (dx := dx) (sd := sd) (kd := kd) (ta := ta) (tb := tb) (w := w) hol hdl (fun p hp => (N2 p (.tail _ hp)).1) hS hK
  have hDa : D ≠ a := by
    rintro rfl
    have := (N2 _ (.head _)).2.2
    obtain ⟨oo, hoo, _⟩ := hl
    rw [hoo] at this; cases this
  clear hol hdl
  have hlen := hi.length
  refine iter_list_x (news := (D, listOf #[] 0) :: [(x, instObj 79 dx), (dx, dictOf [⟨PyData.keyHash w.params (Str.ofString "states"), .str (Str.ofString "states") ta, .ref sd⟩, ⟨PyData.keyHash w.params (Str.ofString "kept"), .str (Str.ofString "kept") tb, .ref kd⟩] 2), (sd, oS), (kd, oK)]) (ext₀ := [])
    (fun i m news ext => m (Str.ofString "modes") = some (.ref x) ∧ m (Str.ofString "found") = some (.ref D) ∧ (∀ p ∈ ext, p.2.cls = .type "tuple") ∧ ∃ its n, news = (D, listOf its n) :: [(x, instObj 79 dx), (dx, dictOf [⟨PyData.keyHash w.params (Str.ofString "states"), .str (Str.ofString "states") ta, .ref sd⟩, ⟨PyData.keyHash w.params (Str.ofString "kept"), .str (Str.ofString "kept") tb, .ref kd⟩] 2), (sd, oS), (kd, oK)] ∧ PrsAre ext its.toList (savedF kp (ns.take i)))
    rfl hl2 F2 (by rw [List.append_nil]; exact N2) (fun _ h => nomatch h) (fun _ h => nomatch h) (List.forall_mem_cons.mpr ⟨hDa, han⟩) ⟨rfl, rfl, (fun _ h => nomatch h), _, _, rfl, .nil⟩ ?_ ?_
  · rintro i v m₁ news₁ ext h tk own hv _ ho hcl ⟨hm, hm2, hext, its, ln, rfl, hP⟩ F3 N3
    obtain ⟨n, tn, rfl, hn⟩ := intsAre_item hi i v hv
    have hz3 : (ns.take i).length ≤ ns.length := List.length_take_le' _ _
    have hz4 := savedF_length kp (ns.take i)
    have hz5 := hP.length
    have hz6 : its.toList.length = its.size := Array.length_toList
    simp only [List.cons_append, List.nil_append] at N3
    simp only [List.map_cons, List.map_nil] at ho
    clear N2 F2
    k_steps
    · rename look _ _ = some _ => eW
      rename get kp _ = some _ => eG
      rename _ ∧ _ ∧ _ ∧ _ ∧ _ ∧ AllLt _ _ => lt
      rename News _ _ _ _ => N6
      refine' InvEndX.intro (ext := headOf N6 :: ext) (nx := secondOf N6 :: [(x, instObj 79 dx), (dx, dictOf [⟨PyData.keyHash w.params (Str.ofString "states"), .str (Str.ofString "states") ta, .ref sd⟩, ⟨PyData.keyHash w.params (Str.ofString "kept"), .str (Str.ofString "kept") tb, .ref kd⟩] 2), (sd, oS), (kd, oK)]) (by assumption) (by assumption) ?hj ?ha ?hn ?he ?ho ?hoff ?hc
      case he =>
        refine List.forall_mem_cons.mpr ⟨?_, ?_⟩
        · exact List.Mem.head _
        · walk_at "memext"
      case hj =>
        refine ⟨hm, hm2, ?_, _, _, rfl, ?_⟩
        · exact List.forall_mem_cons.mpr ⟨rfl, hext⟩
        · rw [savedF_take hn, show look tabT n = _ from eW, Array.toList_push]
          dsimp only [Option.bind]
          rw [eG]
          exact PrsAre.snoc (List.Mem.head _) (hP.mono fun p hp => List.Mem.tail _ hp)
      case ha => rfl
      case hn => k_allIn
      case ho => walk_at "memext"
      case hoff =>
        refine ownOff_cons ?_ (ownOff_left ho)
        walk_at "allne"
      case hc =>
        refine List.forall_mem_cons.mpr ⟨?_, hcl⟩
        exact type_ne rfl
    · rename look _ _ = some _ => eW
      rename (get kp _).isSome = false => eG
      refine' InvEndX.intro (by assumption) (by assumption) ?hj ?ha ?hn ?he ?ho ?hoff ?hc
      case hj => exact ⟨hm, hm2, hext, its, ln, rfl, by
        rw [savedF_take hn, show look tabT n = _ from eW]
        dsimp only [Option.bind]
        rw [none_of_false eG]
        simpa using hP⟩
      case ha => rfl
      case hn => k_allIn
      case he => walk_at "memext"
      case ho => walk_at "memext"
      case hoff => exact ownOff_left ho
      case hc => exact hcl
    · rename look _ _ = none => eW
      refine' InvEndX.intro (by assumption) (by assumption) ?hj ?ha ?hn ?he ?ho ?hoff ?hc
      case hj => exact ⟨hm, hm2, hext, its, ln, rfl, by
        rw [savedF_take hn, show look tabT n = _ from eW]
        simpa using hP⟩
      case ha => rfl
      case hn => k_allIn
      case he => walk_at "memext"
      case ho => walk_at "memext"
      case hoff => exact ownOff_left ho
      case hc => exact hcl
  · rintro m₁ news₁ ext h tk ⟨hm, hm2, hext, its, n, rfl, hP⟩ _ ho hcl F3 N3
    rw [hlen, List.take_length] at hP
    simp only [List.cons_append, List.nil_append] at N3
    clear N2 F2
    k_steps
    rename Fr _ _ _ _ => F6
    rename News _ _ _ _ => N6
    exact hR _ _ _ _ _ ext (part_of F6) (has_of N6 fun p hp => hp) hP hext
end
section
variable {w : World} {A : Around} {E : Value → Shared → Prop} {s : Shared} {h₀ : Heap} {L : Addr} {m mg mb : Str → Option Value} {news : List (Addr × Obj)} {Q : Value → Shared → Prop}
theorem via_new_all {h h' : Heap} {sub news' ext : List (Addr × Obj)} (F : Fr h₀ L h m) (N : News h₀ L h news) (hs : ∀ p ∈ sub, p ∈ news) (N' : News h₀ L h' news') (H : ∀ p ∈ ext, h'.get? p.1 = some p.2 ∧ (gOf h sub).get? p.1 = none) : News h₀ L h' (news' ++ ext) := fun p hp => by
  rcases List.mem_append.mp hp with q | q
  · exact N' p q
  · exact via_new F N hs N' (H p q).1 (H p q).2 p (.head _)
theorem saved_K {x dx sd kd : Addr} {oS oK : Obj} {st kp : List (Str × Bool)} {ta tb : Tok} {a : Addr} {vs : List Value} {ns : List Int} (hh : A.handled = none) (hd : A.depth ≤ 350) (hu : A.units ≤ 140)
    (F : Fr h₀ L s.heap m) (N : News h₀ L s.heap news) (T : TopAt w mg mb h₀) (hs : ∀ p ∈ ledM w x dx sd kd ta tb oS oK, p ∈ news) (hS : IsSt w oS st) (hK : IsSt w oK kp) (ne : NeM x dx sd kd)
    (hl : s.heap.IsList a vs.toArray) (hi : IntsAre vs ns) (hz : kp.length + ns.length ≤ 900)
    (h : ∀ h' tk D its n ext, Fr h₀ L h' m → News h₀ L h' ((D, listOf its n) :: (news ++ ext)) → (∀ p ∈ news, p.2.cls ≠ .type "list" → p.1 ≠ D) → PrsAre ext its.toList (savedF kp ns) → (∀ p ∈ ext, p.2.cls = .type "tuple") → Q (.ref D) { s with heap := h', toks := tk }) : wpAny (model pg w) A (call (.ref 104) [.ref x, .ref a]) Q E s := by
  obtain ⟨ol, hol, _, nn, hdl⟩ := id hl
  have han := ledM_off (x := x) (dx := dx) (sd := sd) (kd := kd) (ta := ta) (tb := tb) (w := w) hol hdl (fun p hp => (N p (hs p hp)).1) hS hK
  refine Under.wp (B := lv 4) (wpAny_call (saved_code (via_top F N hs T) via_part (via_has N hs) hS hK ne (via_isList hl fun q => by obtain ⟨p, hp, e⟩ := List.mem_map.mp q; exact han p hp e) hi hz fun h' tk D its n ext P H hP hext => ?_)) hh rfl rfl rfl hd hu
  have N2 := via_read N hs P (List.forall_mem_cons.mpr ⟨(H _ (by k_memK)).1, List.forall_mem_cons.mpr ⟨(H _ (by k_memK)).1, List.forall_mem_cons.mpr ⟨(H _ (by k_memK)).1, List.forall_mem_cons.mpr ⟨(H _ (by k_memK)).1, List.forall_mem_nil _⟩⟩⟩⟩)
  have N3 := via_new_all F N hs N2 (ext := ext) fun p hp => H p (.tail _ (.tail _ (.tail _ (.tail _ (.tail _ hp)))))
  refine h h' tk D its n ext (via_fr F N hs P) (via_new F N hs N3 (H _ (.head _)).1 (H _ (.head _)).2) (fun p hp hc e => ?_) hP hext
  have h1 := (N2 p hp).1
  rw [e, (H _ (.head _)).1] at h1
  exact hc (by rw [Option.some.inj h1.symm])
end
end Mine
namespace Mine
def firstOn (st : List (Str × Bool)) (ws : List Str) : Option Str := ws.find? fun k => (get st k).getD false
theorem firstOn_take {st : List (Str × Bool)} {ws : List Str} {i : Nat} {k : Str} (h : ws[i]? = some k) (h0 : firstOn st (ws.take i) = none) : firstOn st (ws.take (i + 1)) = if (get st k).getD false = true then some k else none := by
  unfold firstOn at *
  rw [List.take_add_one, h, List.find?_append, h0]
  simp [List.find?_cons]
  cases (get st k).getD false <;> rfl
theorem firstOn_stop {st : List (Str × Bool)} {ws : List Str} {i : Nat} {k : Str} (h : ws[i]? = some k) (h0 : firstOn st (ws.take i) = none) (hk : (get st k).getD false = true) : firstOn st ws = some k := by
  have e := firstOn_take h h0
  rw [if_pos hk] at e
  unfold firstOn at *
  rw [← List.take_append_drop (i + 1) ws, List.find?_append, e]; rfl
def WordV (v : Value) : Option Str → Prop
  | some k => ∃ t, v = .str k t
  | none => v = .none
section
local macro_rules | `(tactic| walk_at "eval Name") => `(tactic| walk_at "nmx")
theorem mouse_code {w : World} {s : Shared} {g : Heap} {mg mb : Str → Option Value} {R : Result → Shared → Prop} {x dx sd kd : Addr} {oS oK : Obj} {st kp : List (Str × Bool)} {ta tb : Tok}
    (T : TopAt w mg mb g) (P : Part g s.heap) (N : Has g s.heap (ledM w x dx sd kd ta tb oS oK))
    (hS : IsSt w oS st) (hK : IsSt w oK kp) (ne : NeM x dx sd kd)
    (hR : ∀ h' tk v, Part g h' → Has g h' (ledM w x dx sd kd ta tb oS oK) → WordV v (firstOn st wMouse) → R (.ok (.ret v)) { s with heap := h', toks := tk }) :
    codeAny (model pg w) (lv 5) (.call (.ref 137) ⟨[.ref x], []⟩) R s := by
  have X := T.X
  have TT := T.T
  have ⟨n1, n2, n3, n4, n5, n6, _, lo⟩ := ne
  obtain ⟨v15, h15, i15⟩ := t15 T
  refine enter T P N (by decide) (f := 137) (by k_is) (by k_is) (BindsTo.of_eq rfl) (locs rfl) ?_
  intro L h₁ tk₁ F N' l1 l2
  try (k_lt l1)
  dsimp only [ledM, mdict] at N'
  try dsimp only
  try k_fold
  k_steps
  show wpAny _ _ _ _ _ _
  rename Fr _ _ _ _ => F2
  have hl2 := IsTup.keeps h15 F2.keep
  obtain ⟨ol, hol, _, nn, hdl⟩ := id hl2
  have han := ledM_off (x := x) (dx := dx) (sd := sd) (kd := kd) (ta := ta) (tb := tb) (w := w) hol hdl (fun p hp => (N' p hp).1) hS hK
  clear hol hdl
  have hlen := i15.length
  refine iter_tup (fun i m news => m (Str.ofString "modes") = some (.ref x) ∧ news = [(x, instObj 79 dx), (dx, dictOf [⟨PyData.keyHash w.params (Str.ofString "states"), .str (Str.ofString "states") ta, .ref sd⟩, ⟨PyData.keyHash w.params (Str.ofString "kept"), .str (Str.ofString "kept") tb, .ref kd⟩] 2), (sd, oS), (kd, oK)] ∧ firstOn st (wMouse.take i) = none) rfl hl2 F2 N' han ⟨rfl, rfl, rfl⟩ ?_ ?_
  · rintro i v m₁ news₁ h tk own hv _ ho ⟨hm, rfl, hq⟩ F3 N3
    obtain ⟨k, t, rfl, hn⟩ := i15.item i v hv
    simp only [List.cons_append, List.nil_append] at N3
    simp only [List.map_cons, List.map_nil] at ho
    clear F2 N'
    k_steps
    · rename Fr _ _ _ _ => F6
      rename News _ _ _ _ => N6
      exact hR _ _ _ (part_of F6) (has_of N6 (by k_allIn)) (by rw [firstOn_stop hn hq (by assumption)]; exact ⟨_, rfl⟩)
    · refine' InvEndN.intro (by assumption) (by assumption) ?hj ?ha ?hn ?ho
      case hj =>
        refine ⟨hm, rfl, ?_⟩
        rw [firstOn_take hn hq, if_neg]
        intro e
        have e2 : (get st k).getD false = false := by assumption
        rw [e2] at e; cases e
      case ha => rfl
      case hn => k_allIn
      case ho => intro p hp; k_ownIn
  · rintro m₁ news₁ h tk ⟨hm, rfl, hq⟩ _ F3 N3
    rw [hlen, List.take_length] at hq
    clear F2 N'
    k_steps
    rename Fr _ _ _ _ => F6
    rename News _ _ _ _ => N6
    exact hR _ _ _ (part_of F6) (has_of N6 (by k_allIn)) (by rw [hq]; rfl)
theorem coding_code {w : World} {s : Shared} {g : Heap} {mg mb : Str → Option Value} {R : Result → Shared → Prop} {x dx sd kd : Addr} {oS oK : Obj} {st kp : List (Str × Bool)} {ta tb : Tok}
    (T : TopAt w mg mb g) (P : Part g s.heap) (N : Has g s.heap (ledM w x dx sd kd ta tb oS oK))
    (hS : IsSt w oS st) (hK : IsSt w oK kp) (ne : NeM x dx sd kd)
    (hR : ∀ h' tk v, Part g h' → Has g h' (ledM w x dx sd kd ta tb oS oK) → WordV v (firstOn st wCod) → R (.ok (.ret v)) { s with heap := h', toks := tk }) :
    codeAny (model pg w) (lv 5) (.call (.ref 144) ⟨[.ref x], []⟩) R s := by
  have X := T.X
  have TT := T.T
  have ⟨n1, n2, n3, n4, n5, n6, _, lo⟩ := ne
  obtain ⟨v15, h15, i15⟩ := t16 T
  refine enter T P N (by decide) (f := 144) (by k_is) (by k_is) (BindsTo.of_eq rfl) (locs rfl) ?_
  intro L h₁ tk₁ F N' l1 l2
  try (k_lt l1)
  dsimp only [ledM, mdict] at N'
  try dsimp only
  try k_fold
  k_steps
  show wpAny _ _ _ _ _ _
  rename Fr _ _ _ _ => F2
  have hl2 := IsTup.keeps h15 F2.keep
  obtain ⟨ol, hol, _, nn, hdl⟩ := id hl2
  have han := ledM_off (x := x) (dx := dx) (sd := sd) (kd := kd) (ta := ta) (tb := tb) (w := w) hol hdl (fun p hp => (N' p hp).1) hS hK
  clear hol hdl
  have hlen := i15.length
  refine iter_tup (fun i m news => m (Str.ofString "modes") = some (.ref x) ∧ news = [(x, instObj 79 dx), (dx, dictOf [⟨PyData.keyHash w.params (Str.ofString "states"), .str (Str.ofString "states") ta, .ref sd⟩, ⟨PyData.keyHash w.params (Str.ofString "kept"), .str (Str.ofString "kept") tb, .ref kd⟩] 2), (sd, oS), (kd, oK)] ∧ firstOn st (wCod.take i) = none) rfl hl2 F2 N' han ⟨rfl, rfl, rfl⟩ ?_ ?_
  · rintro i v m₁ news₁ h tk own hv _ ho ⟨hm, rfl, hq⟩ F3 N3
    obtain ⟨k, t, rfl, hn⟩ := i15.item i v hv
    simp only [List.cons_append, List.nil_append] at N3
    simp only [List.map_cons, List.map_nil] at ho
    clear F2 N'
    k_steps
    · rename Fr _ _ _ _ => F6
      rename News _ _ _ _ => N6
      exact hR _ _ _ (part_of F6) (has_of N6 (by k_allIn)) (by rw [firstOn_stop hn hq (by assumption)]; exact ⟨_, rfl⟩)
    · refine' InvEndN.intro (by assumption) (by assumption) ?hj ?ha ?hn ?ho
      case hj =>
        refine ⟨hm, rfl, ?_⟩
        rw [firstOn_take hn hq, if_neg]
        intro e
        have e2 : (get st k).getD false = false := by assumption
        rw [e2] at e; cases e
      case ha => rfl
      case hn => k_allIn
      case ho => intro p hp; k_ownIn
  · rintro m₁ news₁ h tk ⟨hm, rfl, hq⟩ _ F3 N3
    rw [hlen, List.take_length] at hq
    clear F2 N'
    k_steps
    rename Fr _ _ _ _ => F6
    rename News _ _ _ _ => N6
    exact hR _ _ _ (part_of F6) (has_of N6 (by k_allIn)) (by rw [hq]; rfl)
end
section
variable {w : World} {A : Around} {E : Value → Shared → Prop} {s : Shared} {h₀ : Heap} {L : Addr} {m mg mb : Str → Option Value} {news : List (Addr × Obj)} {Q : Value → Shared → Prop}
theorem mouse_K {x dx sd kd : Addr} {oS oK : Obj} {st kp : List (Str × Bool)} {ta tb : Tok} (hh : A.handled = none) (hd : A.depth ≤ 360) (hu : A.units ≤ 170)
    (F : Fr h₀ L s.heap m) (N : News h₀ L s.heap news) (T : TopAt w mg mb h₀) (hs : ∀ p ∈ ledM w x dx sd kd ta tb oS oK, p ∈ news) (hS : IsSt w oS st) (hK : IsSt w oK kp) (ne : NeM x dx sd kd)
    (h : ∀ h' tk v, Fr h₀ L h' m → News h₀ L h' news → WordV v (firstOn st wMouse) → Q v { s with heap := h', toks := tk }) : wpAny (model pg w) A (call (.ref 137) [.ref x]) Q E s :=
  Under.wp (B := lv 5) (wpAny_call (mouse_code (via_top F N hs T) via_part (via_has N hs) hS hK ne fun h' tk v P H e => h h' tk v (via_fr F N hs P) (via_read N hs P fun p hp => (H p hp).1) e)) hh rfl rfl rfl hd hu
theorem coding_K {x dx sd kd : Addr} {oS oK : Obj} {st kp : List (Str × Bool)} {ta tb : Tok} (hh : A.handled = none) (hd : A.depth ≤ 360) (hu : A.units ≤ 170)
    (F : Fr h₀ L s.heap m) (N : News h₀ L s.heap news) (T : TopAt w mg mb h₀) (hs : ∀ p ∈ ledM w x dx sd kd ta tb oS oK, p ∈ news) (hS : IsSt w oS st) (hK : IsSt w oK kp) (ne : NeM x dx sd kd)
    (h : ∀ h' tk v, Fr h₀ L h' m → News h₀ L h' news → WordV v (firstOn st wCod) → Q v { s with heap := h', toks := tk }) : wpAny (model pg w) A (call (.ref 144) [.ref x]) Q E s :=
  Under.wp (B := lv 5) (wpAny_call (coding_code (via_top F N hs T) via_part (via_has N hs) hS hK ne fun h' tk v P H e => h h' tk v (via_fr F N hs P) (via_read N hs P fun p hp => (H p hp).1) e)) hh rfl rfl rfl hd hu
end
end Mine
local macro_rules | `(tactic| walk_at "call ref") => `(tactic| (k_here; (with_reducible show wpAny _ _ (call (Value.ref 137) [Value.ref _]) _ _ _); (refine' Mine.mouse_K (by exact rfl) (by exact Nat.le_of_ble_eq_true rfl) (by exact Nat.le_of_ble_eq_true rfl) (by k_asm) (by k_asm) (by k_asm) (by k_allIn) (by k_asm) (by k_asm) (by k_asm) ?_); intro h' tk' v' F' N' eV'; (try k_sweep)))
local macro_rules | `(tactic| walk_at "call ref") => `(tactic| (k_here; (with_reducible show wpAny _ _ (call (Value.ref 144) [Value.ref _]) _ _ _); (refine' Mine.coding_K (by exact rfl) (by exact Nat.le_of_ble_eq_true rfl) (by exact Nat.le_of_ble_eq_true rfl) (by k_asm) (by k_asm) (by k_asm) (by k_allIn) (by k_asm) (by k_asm) (by k_asm) ?_); intro h' tk' v' F' N' eV'; (try k_sweep)))
namespace Mine
theorem enterC {w : World} {A : Around} {s : Shared} {g : Heap} {mg mb : Str → Option Value} {news : List (Addr × Obj)} {R : Result → Shared → Prop} {name qual : Str} {params : Arguments} {body : List Stmt} {scope : Scope} {dV kV doc pm cdv ct oc : Value} {an od : Option Addr} {osl : Array (Option Value)} {f : Addr} {args : Args} {binds : List (Str × Value)}
    (T : TopAt w mg mb g) (P : Part g s.heap) (N : Has g s.heap news) (rm : A.depth < recursionLimit)
    (ho : (hd.heap_39 w.params).lookup f = some ⟨oc, od, .func (fnX name qual params body scope [] dV kV doc pm an cdv ct), osl⟩) (hcd : codeIn (hd.heap_39 w.params) cdv qual = true)
    (hbind : BindsTo s (fnX name qual params body scope [] dV kV doc pm an cdv ct) args binds) (hkind : (binds.all fun y => scope.names.lookup y.1 == some .local || scope.names.lookup y.1 == some .cell) = true)
    (hnd : ((cellsFrom 0 scope.names []).map (·.1)).Nodup)
    (h : ∀ L h₁ tk cells, Fr g L h₁ (bindL (envOfC qual scope L f cdv).kindOf binds fun _ => none) → News g L h₁ (cells ++ news) →
      CellsAre (bindC (envOfC qual scope L f cdv).kindOf binds fun _ => none) (cellsFrom (L + 1) scope.names []) cells → (∀ p ∈ news, p.1 < L) → s.heap.objs.size ≤ L →
      wpAny (model pg w) (A.deeper (envOfC qual scope L f cdv)) (execs body (envOfC qual scope L f cdv))
        (fun fl s' => R (.ok (.ret (match fl with | .ret v => v | _ => .none))) s') NE { s with heap := h₁, toks := tk })
    (hco : scope.isCoroutine = false := by rfl) (hgen : scope.isGenerator = false := by rfl) (hk : scope.kind = .function := by rfl) : codeAny (model pg w) A (.call (.ref f) args) R s := by
  refine codeAny_call_function rm (P.keep _ _ (T.X _ _ ho)) rfl hco hgen rfl (codeRec_of (T.X.keeps P.keep) hcd) (hbind _ _ _ _ ?_)
  refine wpAny_newFunctionEnv_cells hk (kindsX hkind _) fun env' he s' x => ?_
  subst he
  refine ⟨(T.T.nolimit.keeps P.keep).keeps x.toInCall.keep, codeAny_func ?_⟩
  obtain ⟨h₁, tk, rfl, _⟩ := x.done
  have hk₁ := x.toInCall.keep
  obtain ⟨cells, NC, Y⟩ := Cl.news (h₀ := s.heap) (Nat.le_refl _) fun n c hm => ⟨x.cell n c (lookup_of_mem_nodup (cellsFrom_names scope.names 0 (s.heap.objs.size + 1) [] [] rfl ▸ hnd) hm), x.above n c hm⟩
  refine wpAny_mono (h s.heap.objs.size h₁ tk cells ⟨x.toInCall.ns, fun b o e => hk₁ b o (P.keep b o e), P.size⟩ (fun p hp => ?_) Y (fun p hp => Heap.lt_size (N p hp).1) (Nat.le_refl _)) (fun _ _ x => x) (fun _ _ x => x.elim)
  rcases List.mem_append.mp hp with hp | hp
  · refine ⟨(NC p hp).1, (NC p hp).2.1, ?_⟩
    cases q : g.get? p.1 with
    | none => rfl
    | some o => have := P.keep _ _ q; rw [(NC p hp).2.2] at this; cases this
  · exact ⟨hk₁ _ _ (N p hp).1, Nat.ne_of_lt (Heap.lt_size (N p hp).1), (N p hp).2⟩
open LCg LCt in
theorem rest_T {prog : Program} {w : World} {A : Around} {h₀ : Heap} {L : Addr} {m : Str → Option Value} {env : Env} {ct elt : Expr} {x : Str} {scope : Scope} {cl : List (Str × Addr)} {s : Shared} {S : List (Addr × Obj) → Prop} {P : Nat → Value → Prop} {Fin : List Value → List (Addr × Obj) → Prop} {news : List (Addr × Obj)} {n : Nat}
    (J : Nat → List Value → List (Addr × Obj) → Prop) (h0 : J 0 [] news)
    (turn : ∀ i v I oI C oC D m₂ ys nw h tk (E' : Value → Shared → Prop), i < n → P i v → J i ys nw → NsObj oC m₂ → m₂ x = some v → Fr h₀ L h m → News h₀ L h ((I, oI) :: (C, oC) :: (D, lst ys) :: nw) → Off3 I C D nw → ((@Ne Nat I C) ∧ (@Ne Nat I D) ∧ (@Ne Nat C D)) →
      wpAny (model prog w) A (isTrue ct (compEnvC scope cl C env) (eval ct (compEnvC scope cl C env))) (fun ok s' => if ok = true then
        wpAny (model prog w) A (eval elt (compEnvC scope cl C env)) (CompEnd h₀ L m { s with heap := h, toks := tk } I oI C oC D (lst ys) S (fun y nw' => J (i + 1) (ys ++ [y]) nw')) E' s'
        else CompEnd h₀ L m { s with heap := h, toks := tk } I oI C oC D (lst ys) S (fun _ nw' => J (i + 1) ys nw') Value.none s') E' { s with heap := h, toks := tk })
    (fin : ∀ ys nw, J n ys nw → Fin ys nw) : CompRestT prog w A h₀ L m env ct elt x scope cl s S P Fin n 0 [] news := by
  have key : ∀ (j i : Nat) (ys : List Value) (nw : List (Addr × Obj)), i + j = n → J i ys nw → CompRestT prog w A h₀ L m env ct elt x scope cl s S P Fin j i ys nw := by
    intro j
    induction j with
    | zero => intro i ys nw hi hj; obtain rfl : i = n := hi; exact .zero (fin ys nw hj)
    | succ j ih =>
      intro i ys nw hi hj
      refine .succ ?_
      intro v I oI C oC D m₂ h tk E' hv hC hx F N off ne
      refine wpAny_mono (turn i v I oI C oC D m₂ ys nw h tk E' (by omega) hv hj hC hx F N off ne) (fun b s₂ hq => ?_) fun _ _ e => e
      cases b with
      | true =>
        simp only [if_true] at hq ⊢
        refine wpAny_mono hq (fun y s₃ hr => ?_) fun _ _ e => e
        obtain ⟨h', tk', nw', e, F', N', off', hS, hr'⟩ := hr
        exact ⟨h', tk', nw', e, F', N', off', hS, ih (i + 1) _ _ (by omega) hr'⟩
      | false =>
        simp only [Bool.false_eq_true, if_false] at hq ⊢
        obtain ⟨h', tk', nw', e, F', N', off', hS, hr'⟩ := hq
        exact ⟨h', tk', nw', e, F', N', off', hS, ih (i + 1) _ _ (by omega) hr'⟩
  exact key n 0 [] news (by omega) h0
open LCg in
theorem rest_U {prog : Program} {w : World} {A : Around} {h₀ : Heap} {L : Addr} {m : Str → Option Value} {env : Env} {elt : Expr} {x : Str} {scope : Scope} {cl : List (Str × Addr)} {s : Shared} {S : List (Addr × Obj) → Prop} {P : Nat → Value → Prop} {Fin : List Value → List (Addr × Obj) → Prop} {news : List (Addr × Obj)} {n : Nat}
    (J : Nat → List Value → List (Addr × Obj) → Prop) (h0 : J 0 [] news)
    (turn : ∀ i v I oI C oC D m₂ ys nw h tk (E' : Value → Shared → Prop), i < n → P i v → J i ys nw → NsObj oC m₂ → m₂ x = some v → Fr h₀ L h m → News h₀ L h ((I, oI) :: (C, oC) :: (D, lst ys) :: nw) → Off3 I C D nw → ((@Ne Nat I C) ∧ (@Ne Nat I D) ∧ (@Ne Nat C D)) →
      wpAny (model prog w) A (eval elt (compEnvC scope cl C env)) (CompEnd h₀ L m { s with heap := h, toks := tk } I oI C oC D (lst ys) S (fun y nw' => J (i + 1) (ys ++ [y]) nw')) E' { s with heap := h, toks := tk })
    (fin : ∀ ys nw, J n ys nw → Fin ys nw) : CompRest prog w A h₀ L m env elt x scope cl s S P Fin n 0 [] news := by
  have key : ∀ (j i : Nat) (ys : List Value) (nw : List (Addr × Obj)), i + j = n → J i ys nw → CompRest prog w A h₀ L m env elt x scope cl s S P Fin j i ys nw := by
    intro j
    induction j with
    | zero => intro i ys nw hi hj; obtain rfl : i = n := hi; exact .zero (fin ys nw hj)
    | succ j ih =>
      intro i ys nw hi hj
      refine .succ ?_
      intro v I oI C oC D m₂ h tk E' hv hC hx F N off ne
      refine wpAny_mono (turn i v I oI C oC D m₂ ys nw h tk E' (by omega) hv hj hC hx F N off ne) (fun b s₂ hr => ?_) fun _ _ e => e
      obtain ⟨h', tk', nw', e, F', N', off', hS, hr'⟩ := hr
      exact ⟨h', tk', nw', e, F', N', off', hS, ih (i + 1) _ _ (by omega) hr'⟩
  exact key n 0 [] news (by omega) h0
theorem filter_take {α : Type} {ns : List α} {i : Nat} {k : α} (p : α → Bool) (h : ns[i]? = some k) : (ns.take (i + 1)).filter p = (ns.take i).filter p ++ if p k = true then [k] else [] := by
  rw [List.take_add_one, h, List.filter_append]; simp [List.filter_cons]
theorem filter_yes {α : Type} {ns : List α} {i : Nat} {k : α} {p : α → Bool} (h : ns[i]? = some k) (hp : p k = true) : (ns.take (i + 1)).filter p = (ns.take i).filter p ++ [k] := by rw [filter_take p h, if_pos hp]
theorem filter_no {α : Type} {ns : List α} {i : Nat} {k : α} {p : α → Bool} (h : ns[i]? = some k) (hp : p k = false) : (ns.take (i + 1)).filter p = (ns.take i).filter p := by rw [filter_take p h, if_neg (by rw [hp]; exact Bool.false_ne_true), List.append_nil]
theorem StrsAre_snoc {vs : List Value} {ss : List Str} {k : Str} {t : Tok} (h : StrsAre vs ss) : StrsAre (vs ++ [.str k t]) (ss ++ [k]) := StrsAre.append' h (.cons k t .nil)
end Mine
local macro_rules | `(tactic| walk_at "CompSrcT") => `(tactic| (k_here; refine Mine.Stop.out ?_))
local macro_rules | `(tactic| walk_at "CompSrc") => `(tactic| (k_here; refine Mine.Stop.out ?_))
local macro_rules | `(tactic| walk_at "CompEnd") => `(tactic| (k_here; refine Mine.Stop.out ?_))
local macro_rules | `(tactic| walk_at "lcend") => `(tactic| ((try unfold Mine.Stop); (k_dflt (refine' LCg.CompEnd.intro ?F ?N _ ?sub ?off ?hS ?r)); (case off => assumption); (case F | N => k_asm); (case sub => k_allIn); (case hS => lcg_src)))
namespace Mine
def OnOf (st : List (Str × Bool)) (ys : List Str) : Prop := ∃ ns : List Str, ns.Perm (st.map (·.1)) ∧ sortedS ns = true ∧ ys = ns.filter fun k => (get st k).getD false
theorem get_isSome {st : List (Str × Bool)} {k : Str} (h : k ∈ st.map (·.1)) : (get st k).isSome = true := by
  unfold get
  cases e : st.find? fun p => decide (p.1 = k) with
  | none =>
    obtain ⟨p, hp, rfl⟩ := List.mem_map.mp h
    have := List.find?_eq_none.mp e p hp
    simp at this
  | some p => rfl
theorem on_code {w : World} {s : Shared} {g : Heap} {mg mb : Str → Option Value} {R : Result → Shared → Prop} {x dx sd kd : Addr} {oS oK : Obj} {st kp : List (Str × Bool)} {ta tb : Tok}
    (T : TopAt w mg mb g) (P : Part g s.heap) (N : Has g s.heap (ledM w x dx sd kd ta tb oS oK))
    (hS : IsSt w oS st) (hK : IsSt w oK kp) (ne : NeM x dx sd kd) (h64 : st.length < 64)
    (hR : ∀ h' tk D vs ys, Part g h' → Has g h' ((D, LCg.lst vs) :: ledM w x dx sd kd ta tb oS oK) → StrsAre vs ys → OnOf st ys → R (.ok (.ret (.ref D))) { s with heap := h', toks := tk }) :
    codeAny (model pg w) (lv 4) (.call (.ref 116) ⟨[.ref x], []⟩) R s := by
  have X := T.X
  have TT := T.T
  have ⟨n1, n2, n3, n4, n5, n6, lo, _⟩ := ne
  have hb := bk_length st
  refine enterC T P N (by decide) (f := 116) (by k_is) (by k_is) (BindsTo.of_eq rfl) rfl (by decide +kernel) ?_
  intro L h₁ tk₁ cells F N' Y l1 l2
  try (k_lt l1)
  k_cells Y
  change Fr g L h₁ (fun _ => none) at F
  dsimp only [ledM, mdict] at N'
  simp only [List.cons_append, List.nil_append] at N'
  dsimp only [IsSt] at hS hK
  try dsimp only
  try k_fold
  k_steps
  show LCt.CompSrcT _ _ _ _ _ _ _ _ _ _ _ _ _ _ _
  rename Fr _ _ _ _ => F2
  rename News _ _ _ _ => N2
  rename StrsAre _ _ => iS
  rename List.Perm _ _ => pS
  rename sortedS _ = true => oS'
  rename Obj.data _ = _ => d1
  rename_i o1 D1 _ _ vs1 ns1 e1 l3
  have hlen := iS.length
  have hlen2 := pS.length_eq
  have hkeys : (bk st).map (·.1) = st.map (·.1) := by unfold bk; rw [List.map_map]; rfl
  rw [hkeys] at pS hlen2
  rw [List.length_map] at hlen2
  refine LCt.CompSrcT.ledger rfl F2 N2 (.head _) (by rw [List.size_toArray, sizeLine_eq]; omega) ?_
  intro g'
  refine rest_T (fun i ys nw => nw = [(D1, seqObj "list" vs1.toArray e1), (L + 1, o1), (x, instObj 79 dx), (dx, dictOf [⟨PyData.keyHash w.params (Str.ofString "states"), .str (Str.ofString "states") ta, .ref sd⟩, ⟨PyData.keyHash w.params (Str.ofString "kept"), .str (Str.ofString "kept") tb, .ref kd⟩] 2), (sd, oS), (kd, oK)] ∧ StrsAre ys ((ns1.take i).filter fun k => (get st k).getD false)) ⟨rfl, .nil⟩ ?_ ?_
  · rintro i v I oI C oC D m₂ ys nw h tk E' hi hv ⟨rfl, hy⟩ hC hx F3 N3 off ne3
    obtain ⟨k, t, rfl, hk⟩ := iS.item i v (by simpa using hv)
    have hks : (get st k).isSome = true := get_isSome (pS.mem_iff.mp (List.mem_of_getElem? hk))
    clear F2 N2
    k_steps
    all_goals (walk_at "lcend")
    all_goals refine ⟨rfl, ?_⟩
    · rename get st k = some _ => eG
      rename _ = true => eT
      rw [eT] at eG
      rw [filter_yes (p := fun k => (get st k).getD false) hk (by rw [eG]; rfl)]
      exact StrsAre_snoc hy
    · rename get st k = some _ => eG
      rename _ = false => eT
      rw [eT] at eG
      rw [filter_no (p := fun k => (get st k).getD false) hk (by rw [eG]; rfl)]
      exact hy
  · rintro ys nw ⟨rfl, hy⟩
    rw [List.size_toArray, hlen, List.take_length] at hy
    clear F2 N2
    k_steps
    rename Fr _ _ _ _ => F6
    rename News _ _ _ _ => N6
    exact hR _ _ _ _ _ (part_of F6) (has_of N6 (by k_allIn)) hy ⟨ns1, pS, oS', rfl⟩
section
variable {w : World} {A : Around} {E : Value → Shared → Prop} {s : Shared} {h₀ : Heap} {L : Addr} {m mg mb : Str → Option Value} {news : List (Addr × Obj)} {Q : Value → Shared → Prop}
theorem on_K {x dx sd kd : Addr} {oS oK : Obj} {st kp : List (Str × Bool)} {ta tb : Tok} (hh : A.handled = none) (hd : A.depth ≤ 350) (hu : A.units ≤ 140)
    (F : Fr h₀ L s.heap m) (N : News h₀ L s.heap news) (T : TopAt w mg mb h₀) (hs : ∀ p ∈ ledM w x dx sd kd ta tb oS oK, p ∈ news) (hS : IsSt w oS st) (hK : IsSt w oK kp) (ne : NeM x dx sd kd) (h64 : st.length < 64)
    (h : ∀ h' tk D vs ys, Fr h₀ L h' m → News h₀ L h' ((D, LCg.lst vs) :: news) → (∀ p ∈ news, p.1 ≠ D) → StrsAre vs ys → OnOf st ys → Q (.ref D) { s with heap := h', toks := tk }) : wpAny (model pg w) A (call (.ref 116) [.ref x]) Q E s := by
  refine Under.wp (B := lv 4) (wpAny_call (on_code (via_top F N hs T) via_part (via_has N hs) hS hK ne h64 fun h' tk D vs ys P H e1 e2 => ?_)) hh rfl rfl rfl hd hu
  have hrd : ∀ p ∈ ledM w x dx sd kd ta tb oS oK, h'.get? p.1 = some p.2 := fun p hp => (H p (.tail _ hp)).1
  refine h h' tk D vs ys (via_fr F N hs P) (via_new F N hs (via_read N hs P hrd) (H _ (.head _)).1 (H _ (.head _)).2) (via_ne N (H _ (.head _)).2 fun p hp e => ?_) e1 e2
  have h1 := hrd p hp
  rw [e, (H _ (.head _)).1] at h1
  have h2 := Option.some.inj h1
  rcases List.mem_cons.mp hp with rfl | hp
  · cases congrArg Obj.data h2
  rcases List.mem_cons.mp hp with rfl | hp
  · cases congrArg Obj.data h2
  rcases List.mem_cons.mp hp with rfl | hp
  · exact isDict_no_seq hS _ _ (congrArg Obj.data h2).symm
  rcases List.mem_cons.mp hp with rfl | hp
  · exact isDict_no_seq hK _ _ (congrArg Obj.data h2).symm
  cases hp
end
end Mine
local macro_rules | `(tactic| walk_at "call ref") => `(tactic| (k_here; (with_reducible show wpAny _ _ (call (Value.ref 116) [Value.ref _]) _ _ _); (refine' Mine.on_K (by exact rfl) (by exact Nat.le_of_ble_eq_true rfl) (by exact Nat.le_of_ble_eq_true rfl) (by k_asm) (by k_asm) (by k_asm) (by k_allIn) (by k_asm) (by k_asm) (by k_asm) (by omega) ?_); intro h' tk' D' vs' ys' F' N' l1 iS' oN'; (try simp only [List.forall_mem_cons, List.forall_mem_nil, and_true] at l1); (try k_sweep)))
namespace Mine
theorem sameAll_strs : ∀ ss tt : List Str, PySem.Spec.sameAll (ss.map PyData.str) (tt.map PyData.str) = decide (ss = tt)
  | [], [] => by simp [PySem.Spec.sameAll]
  | [], _ :: _ => by simp [PySem.Spec.sameAll]
  | _ :: _, [] => by simp [PySem.Spec.sameAll]
  | a :: r, b :: t => by
    simp only [List.map_cons, PySem.Spec.sameAll, PySem.Spec.same, sameAll_strs r t]
    by_cases h : a = b <;> by_cases h' : r = t <;> simp [h, h']
theorem same_strs (ss tt : List Str) : PySem.Spec.same (.list (ss.map PyData.str)) (.list (tt.map PyData.str)) = decide (ss = tt) := by
  simp only [PySem.Spec.same]; exact sameAll_strs ss tt
theorem carried_strs : ∀ {vs : List Value} {ss : List Str}, StrsAre vs ss → CarriedAll vs (ss.map PyData.str)
  | _, _, .nil => .nil
  | _, _, .cons _ t r => .cons (.str _ t) (carried_strs r)
def OkS (ss : List Str) : Prop := ss.all PyData.strOk = true
theorem shaped_strs {ss : List Str} (h : OkS ss) : SeqAt.shaped (.list (ss.map PyData.str)) = true := by
  have h' : ss.all PyData.strOk = true := h
  simp only [SeqAt.shaped, PyData.canLay0, PyData.depth, canLayAll_strs', depthAll_strs', h']; decide
section
variable {prog : Program} {w : World} {A : Around} {E : Value → Shared → Prop} {s : Shared} {a b : Addr} {xs ys : List Value} {ss tt : List Str} {Q : Value → Shared → Prop}
theorem eq_strs (ha : s.heap.IsList a xs.toArray) (hb : s.heap.IsList b ys.toArray) (hi : StrsAre xs ss) (hj : StrsAre ys tt) (h1 : OkS ss) (h2 : OkS tt) (hu : A.units + 64 < cLine) (h : Q (.bool (decide (ss = tt))) s) :
    wpAny (model prog w) A (compareOp .Eq (.ref a) (.ref b)) Q E s :=
  eq_dataH_same (reads_newData ha (carried_strs hi)) (reads_newData hb (carried_strs hj)) (shaped_strs h1) (shaped_strs h2) hu (SeqAt.noMix_of_shape (.list .str) rfl _ _ (list_map_has fun _ => rfl) (list_map_has fun _ => rfl)) (by rw [same_strs]; exact h)
theorem ne_strs (ha : s.heap.IsList a xs.toArray) (hb : s.heap.IsList b ys.toArray) (hi : StrsAre xs ss) (hj : StrsAre ys tt) (h1 : OkS ss) (h2 : OkS tt) (hu : A.units + 64 < cLine) (h : Q (.bool (!decide (ss = tt))) s) :
    wpAny (model prog w) A (compareOp .NotEq (.ref a) (.ref b)) Q E s :=
  ne_dataH_same (reads_newData ha (carried_strs hi)) (reads_newData hb (carried_strs hj)) (shaped_strs h1) (shaped_strs h2) hu (SeqAt.noMix_of_shape (.list .str) rfl _ _ (list_map_has fun _ => rfl) (list_map_has fun _ => rfl)) (by rw [same_strs]; exact h)
end
def OkM (st : List (Str × Bool)) : Prop := OkS (st.map (·.1))
theorem OnOf.ok {st : List (Str × Bool)} {ys : List Str} (h : OnOf st ys) (hs : OkM st) : OkS ys := by
  obtain ⟨ns, hp, _, rfl⟩ := h
  refine List.all_eq_true.mpr fun k hk => List.all_eq_true.mp hs k (hp.mem_iff.mp (List.mem_filter.mp hk).1)
section
local macro_rules | `(tactic| walk_at "compareOp Eq ref ref") => `(tactic| (k_here; (with_reducible show wpAny _ _ (compareOp CmpOp.Eq (Value.ref _) (Value.ref _)) _ _ _); k_dflt (refine' Mine.eq_strs ?ha ?hb ?hi ?hj ?h1 ?h2 ?hu ?_; (case ha | hb => exact News.isList (by k_asm) (by k_mem)); (case hi | hj => assumption); (case h1 | h2 => exact OnOf.ok (by assumption) (by assumption)); (case hu => exact Nat.le_of_ble_eq_true rfl))))
theorem same_code {w : World} {s : Shared} {g : Heap} {mg mb : Str → Option Value} {R : Result → Shared → Prop} {x dx sd kd y dy se ke : Addr} {oS oK pS pK : Obj} {st kp su kq : List (Str × Bool)} {ta tb tc td : Tok}
    (T : TopAt w mg mb g) (P : Part g s.heap) (N : Has g s.heap (ledM w x dx sd kd ta tb oS oK ++ ledM w y dy se ke tc td pS pK))
    (hS : IsSt w oS st) (hK : IsSt w oK kp) (hS2 : IsSt w pS su) (hK2 : IsSt w pK kq) (ne : NeM x dx sd kd) (ne2 : NeM y dy se ke) (h64 : st.length < 64) (h642 : su.length < 64) (ok : OkM st) (ok2 : OkM su)
    (hR : ∀ h' tk ys zs, Part g h' → Has g h' (ledM w x dx sd kd ta tb oS oK ++ ledM w y dy se ke tc td pS pK) → OnOf st ys → OnOf su zs → R (.ok (.ret (.bool (decide (ys = zs))))) { s with heap := h', toks := tk }) :
    codeAny (model pg w) (lv 3) (.call (.ref 123) ⟨[.ref x, .ref y], []⟩) R s := by
  have X := T.X
  have TT := T.T
  refine enter T P N (by decide) (f := 123) (by k_is) (by k_is) (BindsTo.of_eq rfl) (locs rfl) ?_
  intro L h₁ tk₁ F N' l1 l2
  dsimp only [ledM, mdict] at N'
  simp only [List.cons_append, List.nil_append] at N'
  clear l1
  dsimp only [IsSt] at hS hK hS2 hK2
  try dsimp only
  try k_fold
  k_steps
  rename Fr _ _ _ _ => F6
  rename News _ _ _ _ => N6
  rename_i ys1 _ e1 _ _ _ _ _ ys2 _ e2 _
  exact hR _ _ _ _ (part_of F6) (has_of N6 (by dsimp only [ledM, mdict]; simp only [List.cons_append, List.nil_append]; k_allIn)) e1 e2
end
section
variable {w : World} {A : Around} {E : Value → Shared → Prop} {s : Shared} {h₀ : Heap} {L : Addr} {m mg mb : Str → Option Value} {news : List (Addr × Obj)} {Q : Value → Shared → Prop}
theorem same_K {x dx sd kd y dy se ke : Addr} {oS oK pS pK : Obj} {st kp su kq : List (Str × Bool)} {ta tb tc td : Tok} (hh : A.handled = none) (hd : A.depth ≤ 340) (hu : A.units ≤ 110)
    (F : Fr h₀ L s.heap m) (N : News h₀ L s.heap news) (T : TopAt w mg mb h₀) (hs1 : ∀ p ∈ ledM w x dx sd kd ta tb oS oK, p ∈ news) (hs2 : ∀ p ∈ ledM w y dy se ke tc td pS pK, p ∈ news) (hS : IsSt w oS st) (hK : IsSt w oK kp) (hS2 : IsSt w pS su) (hK2 : IsSt w pK kq) (ne : NeM x dx sd kd) (ne2 : NeM y dy se ke) (h64 : st.length < 64) (h642 : su.length < 64) (ok : OkM st) (ok2 : OkM su)
    (h : ∀ h' tk ys zs, Fr h₀ L h' m → News h₀ L h' news → OnOf st ys → OnOf su zs → Q (.bool (decide (ys = zs))) { s with heap := h', toks := tk }) : wpAny (model pg w) A (call (.ref 123) [.ref x, .ref y]) Q E s :=
  have hs : ∀ p ∈ ledM w x dx sd kd ta tb oS oK ++ ledM w y dy se ke tc td pS pK, p ∈ news := fun p hp => (List.mem_append.mp hp).elim (hs1 p) (hs2 p)
  Under.wp (B := lv 3) (wpAny_call (same_code (via_top F N hs T) via_part (via_has N hs) hS hK hS2 hK2 ne ne2 h64 h642 ok ok2 fun h' tk ys zs P H e1 e2 => h h' tk ys zs (via_fr F N hs P) (via_read N hs P fun p hp => (H p hp).1) e1 e2)) hh rfl rfl rfl hd hu
end
end Mine
local macro_rules | `(tactic| walk_at "call ref") => `(tactic| (k_here; (with_reducible show wpAny _ _ (call (Value.ref 123) [Value.ref _, Value.ref _]) _ _ _); (refine' Mine.same_K (by exact rfl) (by exact Nat.le_of_ble_eq_true rfl) (by exact Nat.le_of_ble_eq_true rfl) (by k_asm) (by k_asm) (by k_asm) (by k_allIn) (by k_allIn) (by k_asm) (by k_asm) (by k_asm) (by k_asm) (by k_asm) (by k_asm) (by omega) (by omega) (by assumption) (by assumption) ?_); intro h' tk' ys' zs' F' N' oN' oN2'; (try k_sweep)))
namespace Mine
def stOf (ws : List Str) : List (Str × Bool) := ws.foldl (fun a k => put a k true) []
theorem stOf_take {ws : List Str} {i : Nat} {k : Str} (h : ws[i]? = some k) : stOf (ws.take (i + 1)) = put (stOf (ws.take i)) k true := by
  unfold stOf; rw [List.take_add_one, h]; simp
theorem stOf_len (i : Nat) : (stOf (wFirstOn.take i)).length ≤ 900 := by
  have key : ∀ (ws : List Str) (a : List (Str × Bool)), (ws.foldl (fun a k => put a k true) a).length ≤ a.length + ws.length := by
    intro ws
    induction ws with
    | nil => intro a; exact Nat.le_refl _
    | cons k r ih => intro a; have h1 := ih (put a k true); have h2 := put_length a k true; simp only [List.foldl_cons, List.length_cons]; omega
  have h1 := key (wFirstOn.take i) []
  have h2 : (wFirstOn.take i).length ≤ wFirstOn.length := List.length_take_le' _ _
  have h3 : wFirstOn.length = 5 := rfl
  have h4 : ([] : List (Str × Bool)).length = 0 := rfl
  unfold stOf
  omega
section
local macro_rules | `(tactic| walk_at "eval Name") => `(tactic| walk_at "nmx")
theorem init_code {w : World} {s : Shared} {g : Heap} {mg mb : Str → Option Value} {R : Result → Shared → Prop} {x dx : Addr}
    (T : TopAt w mg mb g) (P : Part g s.heap) (N : Has g s.heap [(x, instObj 79 dx), (dx, dictOf [] 0)]) (ne : x ≠ dx)
    (hR : ∀ h' tk sd kd ta tb oS oK, Part g h' → Has g h' (ledM w x dx sd kd ta tb oS oK) → NeM x dx sd kd → IsSt w oS (stOf wFirstOn) → IsSt w oK [] → R (.ok (.ret .none)) { s with heap := h', toks := tk }) :
    codeAny (model pg w) (lv 3) (.call (.ref 62) ⟨[.ref x], []⟩) R s := by
  have X := T.X
  have TT := T.T
  obtain ⟨v18, h18, i18⟩ := t18 T
  refine enter T P N (by decide) (f := 62) (by k_is) (by k_is) (BindsTo.of_eq rfl) (locs rfl) ?_
  intro L h₁ tk₁ F N' l1 l2
  try (k_lt l1)
  try dsimp only
  try k_fold
  k_steps
  show wpAny _ _ _ _ _ _
  rename Fr _ _ _ _ => F2
  rename News _ _ _ _ => N2
  rename_i sd _ oS lo1 hs1 _ _ _ l3 _ kd _ oK lo2 hs2 _ _ _ l4 _
  obtain ⟨ta, tb, N2⟩ : ∃ ta tb, News g L _ [(kd, oK), (sd, oS), (x, instObj 79 dx), (dx, mdict w ta tb sd kd)] := ⟨_, _, N2⟩
  dsimp only [mdict] at N2
  have nm : NeM x dx sd kd := ⟨ne, Nat.ne_of_lt l3.1, Nat.ne_of_lt l4.2.1, Nat.ne_of_lt l3.2, Nat.ne_of_lt l4.2.2, Nat.ne_of_lt l4.1, lo1, lo2⟩
  have ⟨n1, n2, n3, n4, n5, n6, _, lo⟩ := nm
  have hS : Obj.IsDictOf (PySem.strKind pg w) oS (bk []) := hs1
  have hK : Obj.IsDictOf (PySem.strKind pg w) oK (bk []) := hs2
  have hl2 := IsTup.keeps h18 F2.keep
  obtain ⟨ol, hol, _, nn, hdl⟩ := id hl2
  have han0 := ledM_off (x := x) (dx := dx) (sd := sd) (kd := kd) (ta := ta) (tb := tb) (w := w) hol hdl (fun p hp => (N2 p (by
    rcases List.mem_cons.mp hp with rfl | hp
    · k_mem
    rcases List.mem_cons.mp hp with rfl | hp
    · k_mem
    rcases List.mem_cons.mp hp with rfl | hp
    · k_mem
    rcases List.mem_cons.mp hp with rfl | hp
    · k_mem
    cases hp)).1) hS hK
  have han : ∀ p ∈ [(kd, oK), (sd, oS), (x, instObj 79 dx), (dx, mdict w ta tb sd kd)], p.1 ≠ 18 := List.forall_mem_cons.mpr ⟨han0 (kd, oK) (by k_mem), List.forall_mem_cons.mpr ⟨han0 (sd, oS) (by k_mem), List.forall_mem_cons.mpr ⟨han0 (x, instObj 79 dx) (by k_mem), List.forall_mem_cons.mpr ⟨han0 (dx, mdict w ta tb sd kd) (by k_mem), List.forall_mem_nil _⟩⟩⟩⟩
  clear hol hdl han0 hs1 hs2
  have hlen := i18.length
  refine iter_tup (fun i m news => m (Str.ofString "self") = some (.ref x) ∧ ∃ o', news = [(kd, oK), (sd, o'), (x, instObj 79 dx), (dx, dictOf [⟨PyData.keyHash w.params (Str.ofString "states"), .str (Str.ofString "states") ta, .ref sd⟩, ⟨PyData.keyHash w.params (Str.ofString "kept"), .str (Str.ofString "kept") tb, .ref kd⟩] 2)] ∧ IsSt w o' (stOf (wFirstOn.take i))) rfl hl2 F2 N2 han ⟨rfl, _, rfl, hS⟩ ?_ ?_
  · rintro i v m₁ news₁ h tk own hv _ ho ⟨hm, o', rfl, hS'⟩ F3 N3
    obtain ⟨k, t, rfl, hk⟩ := i18.item i v hv
    have hz : (stOf (wFirstOn.take i)).length ≤ 900 := stOf_len i
    simp only [List.cons_append, List.nil_append] at N3
    simp only [List.map_cons, List.map_nil] at ho
    dsimp only [IsSt] at hS'
    clear hS F2 N2
    k_steps
    rename Obj.IsDictOf _ _ (bk (put _ _ _)) => hd'
    refine' InvEndN.intro (by assumption) (by assumption) ?hj ?ha ?hn ?ho
    case hj => exact ⟨hm, _, rfl, by rw [stOf_take hk]; exact hd'⟩
    case ha => rfl
    case hn => k_allIn
    case ho => intro p hp; k_ownIn
  · rintro m₁ news₁ h tk ⟨hm, o', rfl, hS'⟩ _ F3 N3
    rw [hlen, List.take_length] at hS'
    clear hS F2 N2
    k_steps
    rename Fr _ _ _ _ => F6
    rename News _ _ _ _ => N6
    exact hR _ _ sd kd ta tb o' oK (part_of F6) (has_of N6 (by dsimp only [ledM, mdict]; k_allIn)) nm hS' hK
end
end Mine
local macro_rules | `(tactic| k_ne) => `(tactic| (refine neN ?_; (try dsimp only); first | with_reducible assumption | (refine Ne.symm ?_; with_reducible assumption) | (refine Nat.ne_of_lt ?_; with_reducible assumption) | (refine Nat.ne_of_gt ?_; with_reducible assumption)))
local macro_rules | `(tactic| walk_at "splits") => `(tactic| repeat (rename _ ∧ _ => hc'; obtain ⟨_, _⟩ := hc'))
namespace Mine
theorem Under.code {M : Model} {A B : Around} {c : Code} {R : Result → Shared → Prop} {s : Shared}
    (h : codeAny M B c R s) (hh : A.handled = none) (hB : B.handled = none) (hf : B.frames = none) (hg : B.guards = none) (hd : A.depth ≤ B.depth) (hu : A.units ≤ B.units) : codeAny M A c R s := fun Γ p hc hΓ =>
  h Γ p hc ⟨by rw [hΓ.1, hh, hB], Nat.le_trans hΓ.2.1 hd, fun l hl => (by rw [hf] at hl; cases hl), fun l hl => (by rw [hg] at hl; cases hl), Nat.le_trans hΓ.2.2.2.2 hu⟩
section
variable {w : World} {A : Around} {E : Value → Shared → Prop} {s : Shared} {h₀ : Heap} {L : Addr} {m mg mb : Str → Option Value} {news : List (Addr × Obj)} {Q : Value → Shared → Prop}
theorem new_K (hh : A.handled = none) (hd : A.depth + 1 ≤ 340) (hu : (A.under (.builtin "type.__call__" ⟨.ref 79 :: [], []⟩)).units ≤ 110)
    (F : Fr h₀ L s.heap m) (N : News h₀ L s.heap news) (T : TopAt w mg mb h₀)
    (h : ∀ h' tk x dx sd kd ta tb oS oK, Fr h₀ L h' m → News h₀ L h' (ledM w x dx sd kd ta tb oS oK ++ news) → (∀ p ∈ news, (@Ne Nat p.1 x) ∧ (@Ne Nat p.1 dx) ∧ (@Ne Nat p.1 sd) ∧ (@Ne Nat p.1 kd)) → NeM x dx sd kd → IsSt w oS (stOf wFirstOn) → IsSt w oK [] → Q (.ref x) { s with heap := h', toks := tk }) :
    wpAny (model pg w) A (call (.ref 79) [] []) Q E s := by
  have X := T.X
  refine call_cls (fI := 62) F X N (by k_is) (by k_is) (by k_is) fun x dx h' F' N' l1 l2 => ?_
  have hs : ∀ p ∈ [(x, instObj 79 dx), (dx, dictOf [] 0)], p ∈ (x, instObj 79 dx) :: (dx, dictOf [] 0) :: news := by
    intro p hp
    rcases List.mem_cons.mp hp with rfl | hp
    · exact .head _
    rcases List.mem_cons.mp hp with rfl | hp
    · exact .tail _ (.head _)
    cases hp
  refine Under.code (B := lv 3) (init_code (via_top F' N' hs T) via_part (via_has N' hs) (Nat.ne_of_gt l2) fun h2 tk sd kd ta tb oS oK P H nm hS hK => ?_) hh rfl rfl rfl hd hu
  refine ⟨rfl, ?_⟩
  have U : UpdF dx (dictOf [] 0) ((x, instObj 79 dx) :: (dx, dictOf [] 0) :: news) _ := .tail (Nat.ne_of_gt l2) (.head fun p hp => Nat.ne_of_lt (l1 p hp))
  have N2 := via_upd N' hs U P (fun p hp hne => by
    rcases List.mem_cons.mp hp with rfl | hp
    · exact (H _ (.head _)).1
    rcases List.mem_cons.mp hp with rfl | hp
    · exact absurd rfl hne
    cases hp) (H (dx, _) (.tail _ (.head _))).1
  have a3 := H (sd, oS) (.tail _ (.tail _ (.head _)))
  have a4 := H (kd, oK) (.tail _ (.tail _ (.tail _ (.head _))))
  have N3 := via_new F' N' hs (via_new F' N' hs N2 a4.1 a4.2) a3.1 a3.2
  have e3 := via_ne N' a3.2 (fun p hp => by
    rcases List.mem_cons.mp hp with rfl | hp
    · exact nm.b
    rcases List.mem_cons.mp hp with rfl | hp
    · exact nm.d
    cases hp)
  have e4 := via_ne N' a4.2 (fun p hp => by
    rcases List.mem_cons.mp hp with rfl | hp
    · exact nm.c
    rcases List.mem_cons.mp hp with rfl | hp
    · exact nm.e
    cases hp)
  refine h h2 tk x dx sd kd ta tb oS oK (via_fr F' N' hs P) (fun p hp => N3 p ?_) (fun p hp => ⟨Nat.ne_of_lt (Nat.lt_trans (l1 p hp) l2), Nat.ne_of_lt (l1 p hp), e3 p (.tail _ (.tail _ hp)), e4 p (.tail _ (.tail _ hp))⟩) nm hS hK
  rcases List.mem_append.mp hp with hp | hp
  · rcases List.mem_cons.mp hp with rfl | hp
    · exact .tail _ (.tail _ (.head _))
    rcases List.mem_cons.mp hp with rfl | hp
    · exact .tail _ (.tail _ (.tail _ (.head _)))
    rcases List.mem_cons.mp hp with rfl | hp
    · exact .head _
    rcases List.mem_cons.mp hp with rfl | hp
    · exact .tail _ (.head _)
    cases hp
  · exact .tail _ (.tail _ (.tail _ (.tail _ hp)))
theorem copy_bool {d : Addr} {o : Obj} {st : List (Str × Bool)} (F : Fr h₀ L s.heap m) (N : News h₀ L s.heap news) (hbig : h₀.NoLimit) (hp : (d, o) ∈ news) (hd : o.IsDictOf (PySem.strKind pg w) (bk st)) (lo : (d == sysModules) = false) (hz : st.length ≤ 1000)
    (h : ∀ D h' o', Fr h₀ L h' m → News h₀ L h' ((D, o') :: news) → (∀ p ∈ news, p.1 < D) → (D == sysModules) = false → o'.IsDictOf (PySem.strKind pg w) (bk st) → Q (.ref D) { s with heap := h' }) :
    wpAny (model pg w) A (call (.type "dict") [.ref d]) Q E s := by
  refine kt_call_dict lo (Heap.dictOf_iff.mpr ⟨o, (N _ hp).1, hd⟩) (by rw [bk_length, sizeLine_eq]; omega) fun h' hm hs => ?_
  obtain ⟨o', ho', hd'⟩ := Heap.dictOf_iff.mp hm
  have N1 := News.push F N { cls := .type "dict", data := .dict #[] }
  exact h _ h' o' ((F.push _).change hs (N1 _ (.head _)).2.1 (N1.fresh (.head _))) (N1.setHead N.apart hs ho') (fun p hp => Heap.lt_size (N p hp).1) (F.notModules (modules_low hbig)) hd'
end
section
local macro_rules | `(tactic| walk_at "call ref") => `(tactic| (k_here; (show wpAny _ _ (call (Value.ref 79) [] []) _ _ _); (refine' Mine.new_K (by exact rfl) (by exact Nat.le_of_ble_eq_true rfl) (by exact Nat.le_of_ble_eq_true rfl) (by k_asm) (by k_asm) (by k_asm) ?_); intro h' tk' x' dx' sd' kd' ta' tb' oS' oK' F' N' l1 nm' hS' hK'; (dsimp only [Mine.ledM, Mine.mdict] at N'); (simp only [List.cons_append, List.nil_append] at N'); (simp only [List.forall_mem_cons, List.forall_mem_nil, and_true] at l1); (have nq' := id nm'); (obtain ⟨_, _, _, _, _, _, _, _⟩ := nq'); (walk_at "splits")))
local macro_rules | `(tactic| walk_at "call type:dict") => `(tactic| (k_here; (with_reducible show wpAny _ _ (call (Value.type "dict") [Value.ref _]) _ _ _); k_dflt (refine' Mine.copy_bool (by k_asm) (by k_asm) ?L ?hp ?hd ?lo ?hz ?_; (case L => exact TopRead.nolimit (by k_asm)); (case hp => k_mem); (case hd | lo => assumption); (case hz => omega)); intro D' h' o' F' N' l1 lo' hd'; (try k_lt l1); (walk_at "splits")))
theorem copy_end {w : World} {s : Shared} {g h' : Heap} {tk : Nat} {R : Result → Shared → Prop} {L x dx sd kd y dy se ke a b : Addr} {oS oK pS pK oa ob : Obj} {st kp : List (Str × Bool)} {ta tb tc td : Tok} {m : Str → Option Value}
    (F : Fr g L h' m) (N : News g L h' [(ke, pK), (se, pS), (y, instObj 79 dy), (dy, dictOf [⟨PyData.keyHash w.params (Str.ofString "states"), .str (Str.ofString "states") tc, .ref se⟩, ⟨PyData.keyHash w.params (Str.ofString "kept"), .str (Str.ofString "kept") td, .ref ke⟩] 2), (a, oa), (b, ob), (x, instObj 79 dx), (dx, dictOf [⟨PyData.keyHash w.params (Str.ofString "states"), .str (Str.ofString "states") ta, .ref sd⟩, ⟨PyData.keyHash w.params (Str.ofString "kept"), .str (Str.ofString "kept") tb, .ref kd⟩] 2), (sd, oS), (kd, oK)])
    (hR : ∀ h' tk y dy se ke tc td pS pK, Part g h' → Has g h' (ledM w x dx sd kd ta tb oS oK ++ ledM w y dy se ke tc td pS pK) → (∀ p ∈ ledM w x dx sd kd ta tb oS oK, (@Ne Nat p.1 y) ∧ (@Ne Nat p.1 dy) ∧ (@Ne Nat p.1 se) ∧ (@Ne Nat p.1 ke)) → NeM y dy se ke → IsSt w pS st → IsSt w pK kp → R (.ok (.ret (.ref y))) { s with heap := h', toks := tk })
    (dS : Obj.IsDictOf (PySem.strKind pg w) pS (bk st)) (dK : Obj.IsDictOf (PySem.strKind pg w) pK (bk kp)) (ap : ∀ p ∈ ledM w x dx sd kd ta tb oS oK, (@Ne Nat p.1 y) ∧ (@Ne Nat p.1 dy) ∧ (@Ne Nat p.1 se) ∧ (@Ne Nat p.1 ke)) (nm : NeM y dy se ke) :
    R (.ok (.ret (.ref y))) { s with heap := h', toks := tk } :=
  hR h' tk y dy se ke tc td pS pK (part_of F) (has_of N (by dsimp only [ledM, mdict]; simp only [List.cons_append, List.nil_append]; k_allIn)) ap nm dS dK
theorem copy_code {w : World} {s : Shared} {g : Heap} {mg mb : Str → Option Value} {R : Result → Shared → Prop} {x dx sd kd : Addr} {oS oK : Obj} {st kp : List (Str × Bool)} {ta tb : Tok}
    (T : TopAt w mg mb g) (P : Part g s.heap) (N : Has g s.heap (ledM w x dx sd kd ta tb oS oK))
    (hS : IsSt w oS st) (hK : IsSt w oK kp) (ne : NeM x dx sd kd) (hz : st.length ≤ 900) (hz2 : kp.length ≤ 900)
    (hR : ∀ h' tk y dy se ke tc td pS pK, Part g h' → Has g h' (ledM w x dx sd kd ta tb oS oK ++ ledM w y dy se ke tc td pS pK) → (∀ p ∈ ledM w x dx sd kd ta tb oS oK, (@Ne Nat p.1 y) ∧ (@Ne Nat p.1 dy) ∧ (@Ne Nat p.1 se) ∧ (@Ne Nat p.1 ke)) → NeM y dy se ke → IsSt w pS st → IsSt w pK kp → R (.ok (.ret (.ref y))) { s with heap := h', toks := tk }) :
    codeAny (model pg w) (lv 2) (.call (.ref 130) ⟨[.ref x], []⟩) R s := by
  have X := T.X
  have TT := T.T
  have ⟨n1, n2, n3, n4, n5, n6, lo1, lo2⟩ := ne
  refine enter T P N (by decide) (f := 130) (by k_is) (by k_is) (BindsTo.of_eq rfl) (locs rfl) ?_
  intro L h₁ tk₁ F N' l1 l2
  try (k_lt l1)
  dsimp only [ledM, mdict] at N'
  dsimp only [IsSt] at hS hK
  try dsimp only
  try k_fold
  k_steps
  show R _ _
  rename Fr _ _ _ _ => F6
  rename News _ _ _ _ => N6
  rename Obj.IsDictOf _ _ (bk kp) => dK
  rename Obj.IsDictOf _ _ (bk st) => dS
  refine copy_end F6 N6 hR dS dK ?_ ⟨?_, ?_, ?_, ?_, ?_, ?_, ?_, ?_⟩
  · dsimp only [ledM, mdict]
    refine List.forall_mem_cons.mpr ⟨⟨?_, ?_, ?_, ?_⟩, List.forall_mem_cons.mpr ⟨⟨?_, ?_, ?_, ?_⟩, List.forall_mem_cons.mpr ⟨⟨?_, ?_, ?_, ?_⟩, List.forall_mem_cons.mpr ⟨⟨?_, ?_, ?_, ?_⟩, List.forall_mem_nil _⟩⟩⟩⟩ <;> k_ne
  all_goals first | assumption | k_ne
end
section
variable {w : World} {A : Around} {E : Value → Shared → Prop} {s : Shared} {h₀ : Heap} {L : Addr} {m mg mb : Str → Option Value} {news : List (Addr × Obj)} {Q : Value → Shared → Prop}
theorem copy_K {x dx sd kd : Addr} {oS oK : Obj} {st kp : List (Str × Bool)} {ta tb : Tok} (hh : A.handled = none) (hd : A.depth ≤ 330) (hu : A.units ≤ 80)
    (F : Fr h₀ L s.heap m) (N : News h₀ L s.heap news) (T : TopAt w mg mb h₀) (hs : ∀ p ∈ ledM w x dx sd kd ta tb oS oK, p ∈ news) (hS : IsSt w oS st) (hK : IsSt w oK kp) (ne : NeM x dx sd kd) (hz : st.length ≤ 900) (hz2 : kp.length ≤ 900)
    (h : ∀ h' tk y dy se ke tc td pS pK, Fr h₀ L h' m → News h₀ L h' (ledM w y dy se ke tc td pS pK ++ news) → (∀ p ∈ news, (@Ne Nat p.1 y) ∧ (@Ne Nat p.1 dy) ∧ (@Ne Nat p.1 se) ∧ (@Ne Nat p.1 ke)) → NeM y dy se ke → IsSt w pS st → IsSt w pK kp → Q (.ref y) { s with heap := h', toks := tk }) : wpAny (model pg w) A (call (.ref 130) [.ref x]) Q E s := by
  refine Under.wp (B := lv 2) (wpAny_call (copy_code (via_top F N hs T) via_part (via_has N hs) hS hK ne hz hz2 fun h' tk y dy se ke tc td pS pK P H ap nm hS' hK' => ?_)) hh rfl rfl rfl hd hu
  have N2 := via_read N hs P fun p hp => (H p (List.mem_append_left _ hp)).1
  have a1 := H (y, instObj 79 dy) (List.mem_append_right _ (.head _))
  have a2 := H (dy, mdict w tc td se ke) (List.mem_append_right _ (.tail _ (.head _)))
  have a3 := H (se, pS) (List.mem_append_right _ (.tail _ (.tail _ (.head _))))
  have a4 := H (ke, pK) (List.mem_append_right _ (.tail _ (.tail _ (.tail _ (.head _)))))
  refine h h' tk y dy se ke tc td pS pK (via_fr F N hs P) (via_new F N hs (via_new F N hs (via_new F N hs (via_new F N hs N2 a4.1 a4.2) a3.1 a3.2) a2.1 a2.2) a1.1 a1.2) (fun p hp => ⟨?_, ?_, ?_, ?_⟩) nm hS' hK'
  · exact via_ne N a1.2 (fun p hp => (ap p hp).1) p hp
  · exact via_ne N a2.2 (fun p hp => (ap p hp).2.1) p hp
  · exact via_ne N a3.2 (fun p hp => (ap p hp).2.2.1) p hp
  · exact via_ne N a4.2 (fun p hp => (ap p hp).2.2.2) p hp
end
end Mine
local macro_rules | `(tactic| walk_at "call ref") => `(tactic| (k_here; (show wpAny _ _ (call (Value.ref 79) [] []) _ _ _); (refine' Mine.new_K (by exact rfl) (by exact Nat.le_of_ble_eq_true rfl) (by exact Nat.le_of_ble_eq_true rfl) (by k_asm) (by k_asm) (by k_asm) ?_); intro h' tk' x' dx' sd' kd' ta' tb' oS' oK' F' N' l1 nm' hS' hK'; (dsimp only [Mine.ledM, Mine.mdict] at N'); (simp only [List.cons_append, List.nil_append] at N'); (simp only [List.forall_mem_cons, List.forall_mem_nil, and_true] at l1); (have nq' := id nm'); (obtain ⟨_, _, _, _, _, _, _, _⟩ := nq'); (walk_at "splits")))
local macro_rules | `(tactic| walk_at "call ref") => `(tactic| (k_here; (with_reducible show wpAny _ _ (call (Value.ref 130) [Value.ref _]) _ _ _); (refine' Mine.copy_K (by exact rfl) (by exact Nat.le_of_ble_eq_true rfl) (by exact Nat.le_of_ble_eq_true rfl) (by k_asm) (by k_asm) (by k_asm) (by k_allIn) (by k_asm) (by k_asm) (by k_asm) (by omega) (by omega) ?_); intro h' tk' x' dx' sd' kd' ta' tb' oS' oK' F' N' l1 nm' hS' hK'; (dsimp only [Mine.ledM, Mine.mdict] at N'); (simp only [List.cons_append, List.nil_append] at N'); (have nq' := id nm'); (obtain ⟨_, _, _, _, _, _, _, _⟩ := nq')))
namespace Mine
theorem setM_length (st : List (Str × Bool)) (k : Str) (b : Bool) : (setM st k b).length ≤ st.length + 5 := by
  unfold setM
  have h1 := put_length (if b = true then offs st (groupOf k) else st) k b
  have h2 : (if b = true then offs st (groupOf k) else st).length ≤ st.length + 4 := by
    split
    · have := offs_length st (groupOf k); have := groupOf_length k; omega
    · omega
  omega
def setAll (f : Str → Bool) (st : List (Str × Bool)) (ws : List Str) : List (Str × Bool) := ws.foldl (fun a k => setM a k (f k)) st
theorem setAll_take {f : Str → Bool} {st : List (Str × Bool)} {ws : List Str} {i : Nat} {k : Str} (h : ws[i]? = some k) : setAll f st (ws.take (i + 1)) = setM (setAll f st (ws.take i)) k (f k) := by
  unfold setAll; rw [List.take_add_one, h]; simp
theorem setAll_length (f : Str → Bool) (st : List (Str × Bool)) (ws : List Str) : (setAll f st ws).length ≤ st.length + 5 * ws.length := by
  unfold setAll
  induction ws generalizing st with
  | nil => simp
  | cons k r ih => have h1 := ih (setM st k (f k)); have h2 := setM_length st k (f k); simp only [List.foldl_cons, List.length_cons]; omega
def softF (st : List (Str × Bool)) : List (Str × Bool) := setM (setAll (fun k => wFirstOn.any (· == k)) (setAll (fun _ => false) st wSoftOff) wSoftFirst) (Str.ofString "show_cursor") true
section
local macro_rules | `(tactic| walk_at "eval Name") => `(tactic| walk_at "nmx")
theorem soften_code {w : World} {s : Shared} {g : Heap} {mg mb : Str → Option Value} {R : Result → Shared → Prop} {x dx sd kd : Addr} {oS oK : Obj} {st kp : List (Str × Bool)} {ta tb : Tok}
    (T : TopAt w mg mb g) (P : Part g s.heap) (N : Has g s.heap (ledM w x dx sd kd ta tb oS oK))
    (hS : IsSt w oS st) (hK : IsSt w oK kp) (ne : NeM x dx sd kd) (hz : st.length ≤ 800)
    (hR : ∀ h' tk o', Part g h' → Has g h' (ledM w x dx sd kd ta tb o' oK) → IsSt w o' (softF st) → R (.ok (.ret .none)) { s with heap := h', toks := tk }) :
    codeAny (model pg w) (lv 4) (.call (.ref 111) ⟨[.ref x], []⟩) R s := by
  have X := T.X
  have TT := T.T
  have ⟨n1, n2, n3, n4, n5, n6, lo, lo2⟩ := ne
  obtain ⟨v18, h18, i18⟩ := t18 T
  obtain ⟨v19, h19, i19⟩ := t19 T
  obtain ⟨v20, h20, i20⟩ := t20 T
  refine enter T P N (by decide) (f := 111) (by k_is) (by k_is) (BindsTo.of_eq rfl) (locs rfl) ?_
  intro L h₁ tk₁ F N' l1 l2
  try (k_lt l1)
  dsimp only [ledM, mdict] at N'
  dsimp only [IsSt] at hS hK
  try dsimp only
  try k_fold
  k_steps
  show wpAny _ _ _ _ _ _
  rename Fr _ _ _ _ => F2
  have hl2 := IsTup.keeps h19 F2.keep
  obtain ⟨ol, hol, _, nn, hdl⟩ := id hl2
  have han := ledM_off (x := x) (dx := dx) (sd := sd) (kd := kd) (ta := ta) (tb := tb) (w := w) hol hdl (fun p hp => (N' p hp).1) hS hK
  clear hol hdl
  have hlen := i19.length
  refine iter_tup (fun i m news => m (Str.ofString "modes") = some (.ref x) ∧ ∃ o', news = [(x, instObj 79 dx), (dx, dictOf [⟨PyData.keyHash w.params (Str.ofString "states"), .str (Str.ofString "states") ta, .ref sd⟩, ⟨PyData.keyHash w.params (Str.ofString "kept"), .str (Str.ofString "kept") tb, .ref kd⟩] 2), (sd, o'), (kd, oK)] ∧ IsSt w o' (setAll (fun _ => false) st (wSoftOff.take i))) rfl hl2 F2 N' han ⟨rfl, _, rfl, hS⟩ ?_ ?_
  · rintro i v m₁ news₁ h tk own hv _ ho ⟨hm, o', rfl, hS'⟩ F3 N3
    obtain ⟨k, t, rfl, hk⟩ := i19.item i v hv
    have hz' := setAll_length (fun _ => false) st (wSoftOff.take i)
    have hz3 : (wSoftOff.take i).length ≤ wSoftOff.length := List.length_take_le' _ _
    have hz4 : wSoftOff.length = 6 := rfl
    simp only [List.cons_append, List.nil_append] at N3
    simp only [List.map_cons, List.map_nil] at ho
    dsimp only [IsSt] at hS'
    clear hS F2 N'
    k_steps
    rename IsSt _ _ (setM _ _ _) => hd'
    refine' InvEndN.intro (by assumption) (by assumption) ?hj ?ha ?hn ?ho
    case hj => exact ⟨hm, _, rfl, by rw [setAll_take hk]; exact hd'⟩
    case ha => rfl
    case hn => k_allIn
    case ho => intro p hp; k_ownIn
  · rintro m₁ news₁ h tk ⟨hm, o', rfl, hS'⟩ _ F3 N3
    rw [hlen, List.take_length] at hS'
    clear hS F2 N'
    dsimp only [IsSt] at hS'
    have hz' := setAll_length (fun _ => false) st wSoftOff
    have hz4 : wSoftOff.length = 6 := rfl
    k_steps
    show wpAny _ _ _ _ _ _
    rename Fr _ _ _ _ => F4
    have hl4 := IsTup.keeps h20 F4.keep
    obtain ⟨ol, hol, _, nn, hdl⟩ := id hl4
    have han2 := ledM_off (x := x) (dx := dx) (sd := sd) (kd := kd) (ta := ta) (tb := tb) (w := w) hol hdl (fun p hp => (N3 p hp).1) hS' hK
    clear hol hdl
    have hlen2 := i20.length
    refine iter_tup (fun i m news => m (Str.ofString "modes") = some (.ref x) ∧ ∃ o2, news = [(x, instObj 79 dx), (dx, dictOf [⟨PyData.keyHash w.params (Str.ofString "states"), .str (Str.ofString "states") ta, .ref sd⟩, ⟨PyData.keyHash w.params (Str.ofString "kept"), .str (Str.ofString "kept") tb, .ref kd⟩] 2), (sd, o2), (kd, oK)] ∧ IsSt w o2 (setAll (fun k => wFirstOn.any (· == k)) (setAll (fun _ => false) st wSoftOff) (wSoftFirst.take i))) rfl hl4 F4 N3 han2 ⟨hm, _, rfl, hS'⟩ ?_ ?_
    · rintro i v m₂ news₂ h2 tk2 own hv _ ho ⟨hm2, o2, rfl, hS2⟩ F5 N5
      obtain ⟨k, t, rfl, hk⟩ := i20.item i v hv
      have hz5 := setAll_length (fun k => wFirstOn.any (· == k)) (setAll (fun _ => false) st wSoftOff) (wSoftFirst.take i)
      have hz6 : (wSoftFirst.take i).length ≤ wSoftFirst.length := List.length_take_le' _ _
      have hz7 : wSoftFirst.length = 3 := rfl
      simp only [List.cons_append, List.nil_append] at N5
      simp only [List.map_cons, List.map_nil] at ho
      dsimp only [IsSt] at hS2
      clear hS' F4 N3
      k_steps
      rename IsSt _ _ (setM _ _ _) => hd'
      refine' InvEndN.intro (by assumption) (by assumption) ?hj ?ha ?hn ?ho
      case hj => exact ⟨hm2, _, rfl, by rw [setAll_take hk]; exact hd'⟩
      case ha => rfl
      case hn => k_allIn
      case ho => intro p hp; k_ownIn
    · rintro m₂ news₂ h2 tk2 ⟨hm2, o2, rfl, hS2⟩ _ F5 N5
      rw [hlen2, List.take_length] at hS2
      have hz5 := setAll_length (fun k => wFirstOn.any (· == k)) (setAll (fun _ => false) st wSoftOff) wSoftFirst
      have hz7 : wSoftFirst.length = 3 := rfl
      dsimp only [IsSt] at hS2
      clear hS' F4 N3
      k_steps
      rename Fr _ _ _ _ => F6
      rename News _ _ _ _ => N6
      rename IsSt _ _ (setM _ _ _) => hd'
      exact hR _ _ _ (part_of F6) (has_of N6 (by k_allIn)) hd'
end
section
variable {w : World} {A : Around} {E : Value → Shared → Prop} {s : Shared} {h₀ : Heap} {L : Addr} {m mg mb : Str → Option Value} {news : List (Addr × Obj)} {Q : Value → Shared → Prop}
theorem soften_K {G : Obj → List (Addr × Obj)} {x dx sd kd : Addr} {oS oK : Obj} {st kp : List (Str × Bool)} {ta tb : Tok} (hh : A.handled = none) (hd : A.depth ≤ 350) (hu : A.units ≤ 140)
    (F : Fr h₀ L s.heap m) (N : News h₀ L s.heap news) (T : TopAt w mg mb h₀) (hs : ∀ p ∈ ledM w x dx sd kd ta tb oS oK, p ∈ news) (hS : IsSt w oS st) (hK : IsSt w oK kp) (ne : NeM x dx sd kd) (U : UpdF sd oS news G) (hz : st.length ≤ 800)
    (h : ∀ h' tk o', Fr h₀ L h' m → News h₀ L h' (G o') → IsSt w o' (softF st) → Q .none { s with heap := h', toks := tk }) : wpAny (model pg w) A (call (.ref 111) [.ref x]) Q E s :=
  Under.wp (B := lv 4) (wpAny_call (soften_code (via_top F N hs T) via_part (via_has N hs) hS hK ne hz fun h' tk o' P H hS' => h h' tk o' (via_fr F N hs P)
    (via_upd N hs U P (List.forall_mem_cons.mpr ⟨fun _ => (H _ (by k_memK)).1, List.forall_mem_cons.mpr ⟨fun _ => (H _ (by k_memK)).1, List.forall_mem_cons.mpr ⟨fun q => absurd rfl q, List.forall_mem_cons.mpr ⟨fun _ => (H _ (by k_memK)).1, List.forall_mem_nil _⟩⟩⟩⟩) (H (sd, o') (by k_memK)).1) hS')) hh rfl rfl rfl hd hu
end
end Mine
local macro_rules | `(tactic| walk_at "call ref") => `(tactic| (k_here; (with_reducible show wpAny _ _ (call (Value.ref 111) [Value.ref _]) _ _ _); (refine' Mine.soften_K (by exact rfl) (by exact Nat.le_of_ble_eq_true rfl) (by exact Nat.le_of_ble_eq_true rfl) (by k_asm) (by k_asm) (by k_asm) (by k_allIn) (by k_asm) (by k_asm) (by k_asm) (by k_updF) (by omega) ?_); intro h' tk' o' F' N' hS'; (try dsimp only at N'); (try k_sweep)))
namespace Mine
def IsDeck (w : World) (o : Obj) (c : Addr) (n : Int) : Prop := ∃ t, o.IsDictOf (PySem.strKind pg w) [(Str.ofString "cells", .ref c), (Str.ofString "at", .int n t)]
def IsCells (vs : List Value) : Prop := ∃ cs, IntsAre vs cs ∧ cs.length ≤ 100
section
variable {w : World} {A : Around} {E : Value → Shared → Prop} {s : Shared} {h₀ : Heap} {L : Addr} {m mg mb : Str → Option Value} {news : List (Addr × Obj)} {Q : Value → Shared → Prop}
theorem draw_K {G : Obj → List (Addr × Obj)} {d c : Addr} {oD : Obj} {vs : List Value} {n : Int} {u : Tok} {b : Int} (hh : A.handled = none) (hd : A.depth ≤ 360) (hu : A.units ≤ 170)
    (F : Fr h₀ L s.heap m) (N : News h₀ L s.heap news) (T : TopAt w mg mb h₀) (U : UpdF d oD news G) (hD : IsDeck w oD c n) (hl : s.heap.IsList c vs.toArray) (hi : IsCells vs) (hn : 0 ≤ n) (hn' : n < 100000) (hb : 0 < b) (hb' : b < 1000) (lo : (d == sysModules) = false)
    (h : ∀ h' tk o' r t, Fr h₀ L h' m → News h₀ L h' (G o') → IsDeck w o' c (n + 1) → 0 ≤ r → r < b → Q (.int r t) { s with heap := h', toks := tk }) : wpAny (model pg w) A (call (.ref 184) [.ref d, .int b u]) Q E s := by
  obtain ⟨t, hD⟩ := hD
  obtain ⟨cs, hi, hc⟩ := hi
  have hmem : (d, oD) ∈ news := by obtain ⟨pre, post, rfl, _, _, _⟩ := U.split; exact List.mem_append_right _ (.head _)
  have hs : ∀ p ∈ [(d, oD)], p ∈ news := fun p hp => by rw [List.mem_singleton.mp hp]; exact hmem
  refine Under.wp (B := lv 5) (wpAny_call (draw_code (via_top F N hs T) via_part (via_has N hs) hD (via_isList hl fun q => ?_) hi hn hn' hb hb' lo hc hi.length fun h' tk o' r t' t'' P H hD' h1 h2 => h h' tk o' r t'' (via_fr F N hs P)
    (via_upd N hs U P (fun p hp hne => absurd (by rw [List.mem_singleton.mp hp]) hne) (H (d, o') (.head _)).1) ⟨t', hD'⟩ h1 h2)) hh rfl rfl rfl hd hu
  have q' : c = d := List.mem_singleton.mp q
  obtain ⟨oo, hoo, _, k, hk⟩ := hl
  have h3 := (N _ hmem).1
  rw [← q'] at h3
  dsimp only at h3
  rw [hoo] at h3
  rw [Option.some.inj h3] at hk
  exact isDict_no_seq hD _ _ hk
theorem sorted_list_str {l : Addr} {vs : List Value} {ss : List Str} (F : Fr h₀ L s.heap m) (N : News h₀ L s.heap news) (hl : s.heap.IsList l vs.toArray) (hS : StrsAre vs ss) (h64 : ss.length < 64)
    (h : ∀ (D : Addr) (h' : Heap) (vs' : List Value) (ss' : List Str) (e : Nat), Fr h₀ L h' m → News h₀ L h' ((D, seqObj "list" vs'.toArray e) :: news) → (∀ p ∈ news, p.1 < D) → StrsAre vs' ss' → ss'.Perm ss → sortedS ss' = true → Q (.ref D) { s with heap := h' }) :
    wpAny (model pg w) A (call (.builtin "sorted") [.ref l]) Q E s :=
  sorted_N_str F N hl hS (by rw [hS.length]; exact h64) fun h' vs' ss' e F' N' hS' hp hs => h _ h' vs' ss' e F' N' (fun p hp => Nat.lt_succ_of_lt (Heap.lt_size (N p hp).1)) hS' hp hs
end
end Mine
local macro_rules | `(tactic| walk_at "call ref") => `(tactic| (k_here; (with_reducible show wpAny _ _ (call (Value.ref 184) [Value.ref _, Value.int _ _]) _ _ _); (refine' Mine.draw_K (by exact rfl) (by exact Nat.le_of_ble_eq_true rfl) (by exact Nat.le_of_ble_eq_true rfl) (by k_asm) (by k_asm) (by k_asm) (by k_updF) (by assumption) ?hl ?hi ?hn ?hn2 ?hb ?hb2 ?lo ?_; (case hl => first | exact News.isList (by k_asm) (by k_memK) | exact Mine.list_keeps (by assumption) (Fr.keep (by k_asm))); (case hi => assumption); (case hn | hn2 => omega); (case hb | hb2 => decide); (case lo => assumption)); intro h' tk' o' r' t' F' N' hD' hr1' hr2'; (try dsimp only at N'); (try k_sweep)))
local macro_rules | `(tactic| walk_at "call builtin:sorted") => `(tactic| (k_here; (with_reducible show wpAny _ _ (call (Value.builtin "sorted") [Value.ref _]) _ _ _); k_dflt (refine' Mine.sorted_list_str (by k_asm) (by k_asm) ?hl ?hS ?h64 ?_; (case hl => first | exact News.isList (by k_asm) (by k_mem)); (case hS => assumption); (case h64 => first | omega | (simp only [List.length_append, List.length_cons, List.length_nil]; omega))); intro D' h' vs' ss' e' F' N' l1 iS' pS' oS'; (try k_lt l1)))
local macro_rules | `(tactic| walk_at "call ref") => `(tactic| (k_here; (with_reducible show wpAny _ _ (call (Value.ref 97) [Value.ref _, Value.ref _]) _ _ _); (refine' Mine.save_K (by exact rfl) (by exact Nat.le_of_ble_eq_true rfl) (by exact Nat.le_of_ble_eq_true rfl) (by k_asm) (by k_asm) (by k_asm) (by k_allIn) (by k_asm) (by k_asm) (by k_asm) (by k_updF) ?hl ?hi ?hz ?_; (case hl => exact News.isList (by k_asm) (by k_mem)); (case hi => assumption); (case hz => omega)); intro h' tk' o' F' N' hK'; (try dsimp only at N')))
local macro_rules | `(tactic| walk_at "call ref") => `(tactic| (k_here; (with_reducible show wpAny _ _ (call (Value.ref 104) [Value.ref _, Value.ref _]) _ _ _); (refine' Mine.saved_K (by exact rfl) (by exact Nat.le_of_ble_eq_true rfl) (by exact Nat.le_of_ble_eq_true rfl) (by k_asm) (by k_asm) (by k_asm) (by k_allIn) (by k_asm) (by k_asm) (by k_asm) ?hl ?hi ?hz ?_; (case hl => exact News.isList (by k_asm) (by k_mem)); (case hi => assumption); (case hz => omega)); intro h' tk' D' its' n' ext' F' N' l1 hP' hX'; (try simp only [List.cons_append, List.nil_append] at N')))
namespace Mine
open LCg LCt
def FEnd (h₀ : Heap) (L : Addr) (m : Str → Option Value) (s₁ : Shared) (led : List (Addr × Obj)) (q : Bool) (b : Bool) (s₂ : Shared) : Prop := b = q ∧ ∃ h' tk, s₂ = { s₁ with heap := h', toks := tk } ∧ Fr h₀ L h' m ∧ News h₀ L h' led
theorem FEnd.intro {h₀ : Heap} {L : Addr} {m : Str → Option Value} {s₁ : Shared} {led led' : List (Addr × Obj)} {q b : Bool} {h' : Heap} {tk : Nat} (F : Fr h₀ L h' m) (N : News h₀ L h' led') (hs : ∀ p ∈ led, p ∈ led') (e : b = q) : FEnd h₀ L m s₁ led q b { s₁ with heap := h', toks := tk } := ⟨e, h', tk, rfl, F, fun p hp => N p (hs p hp)⟩
theorem rest_filter {prog : Program} {w : World} {A : Around} {h₀ : Heap} {L : Addr} {m : Str → Option Value} {env : Env} {ct : Expr} {x : Str} {px : Pos} {scope : Scope} {cl : List (Str × Addr)} {s : Shared} {S : List (Addr × Obj) → Prop} {Fin : List Value → List (Addr × Obj) → Prop} {news : List (Addr × Obj)} {vs : List Value} {ys : List Str}
    (p : Str → Bool) (hi : StrsAre vs ys) (hS : S news)
    (turn : ∀ k t I oI C oC D m₂ ws h tk (E' : Value → Shared → Prop), k ∈ ys → NsObj oC m₂ → m₂ x = some (.str k t) → Fr h₀ L h m → News h₀ L h ((I, oI) :: (C, oC) :: (D, lst ws) :: news) → Off3 I C D news → ((@Ne Nat I C) ∧ (@Ne Nat I D) ∧ (@Ne Nat C D)) →
      wpAny (model prog w) A (isTrue ct (compEnvC scope cl C env) (eval ct (compEnvC scope cl C env))) (FEnd h₀ L m { s with heap := h, toks := tk } ((I, oI) :: (C, oC) :: (D, lst ws) :: news) (p k)) E' { s with heap := h, toks := tk })
    (fin : ∀ ws, StrsAre ws (ys.filter p) → Fin ws news)
    (hk : ∀ C, (compEnvC scope cl C env).scope.kind = .function := by intro _; rfl) (hx : ∀ C, (compEnvC scope cl C env).kindOf x = some .local := by intro _; rfl) (hd : (x == ("__debug__" : Str)) = false := by decide) :
    CompRestT prog w A h₀ L m env ct (.Name x px) x scope cl s S (fun i v => vs.toArray[i]? = some v) Fin vs.toArray.size 0 [] news := by
  refine rest_T (fun i ws nw => nw = news ∧ StrsAre ws ((ys.take i).filter p)) ⟨rfl, .nil⟩ ?_ ?_
  · rintro i v I oI C oC D m₂ ws nw h tk E' hi' hv ⟨rfl, hw⟩ hC hx' F N off ne
    obtain ⟨k, t, rfl, hk'⟩ := hi.item i v (by simpa using hv)
    refine wpAny_mono (turn k t I oI C oC D m₂ ws h tk E' (List.mem_of_getElem? hk') hC hx' F N off ne) (fun b s' hq => ?_) fun _ _ e => e
    obtain ⟨rfl, h', tk', rfl, F', N'⟩ := hq
    cases hp : p k with
    | true =>
      simp only [if_true]
      refine LCgL.ld_own (s := { s with heap := h', toks := tk' }) N' (.tail _ (.head _)) hC hx' ?_ (hk C) (hx C) hd
      exact CompEnd.intro F' N' nw (fun p hp => hp) off hS ⟨rfl, by rw [filter_yes (p := p) hk' hp]; exact StrsAre_snoc hw⟩
    | false =>
      simp only [Bool.false_eq_true, if_false]
      exact CompEnd.intro F' N' nw (fun p hp => hp) off hS ⟨rfl, by rw [filter_no (p := p) hk' hp]; exact hw⟩
  · rintro ws nw ⟨rfl, hw⟩
    rw [List.size_toArray, hi.length, List.take_length] at hw
    exact fin ws hw
theorem add_strs {w : World} {A : Around} {E : Value → Shared → Prop} {s : Shared} {h₀ : Heap} {L a b : Addr} {m : Str → Option Value} {news : List (Addr × Obj)} {vs ws : List Value} {ns ms : List Str} {Q : Value → Shared → Prop}
    (F : Fr h₀ L s.heap m) (N : News h₀ L s.heap news) (ha : s.heap.IsList a vs.toArray) (hb : s.heap.IsList b ws.toArray) (hi : StrsAre vs ns) (hj : StrsAre ws ms)
    (h : ∀ D us h', Fr h₀ L h' m → News h₀ L h' ((D, listOf (List.toArray us) 0) :: news) → (∀ p ∈ news, p.1 < D) → StrsAre us (ns ++ ms) → Q (.ref D) { s with heap := h' })
    (hz : ns.length + ms.length ≤ 1000) : wpAny (model pg w) A (binaryOp .Add (.ref a) (.ref b)) Q E s :=
  kmk_add_lit F N ha hb rfl (fun D h' F' N' l => h D (vs ++ ws) h' F' N' l (StrsAre.append' hi hj)) (by rw [List.toList_toArray, List.toList_toArray, hi.length, hj.length, sizeLine_eq]; omega)
theorem filter_len {α : Type} (p : α → Bool) (l : List α) : (l.filter p).length ≤ l.length := List.length_filter_le p l
end Mine
local macro_rules | `(tactic| walk_at "FEnd") => `(tactic| (k_here; k_dflt (refine' Mine.FEnd.intro ?F ?N ?hs ?e); (case F | N => k_asm); (case hs => k_allIn)))
local macro_rules | `(tactic| walk_at "binaryOp Add ref ref") => `(tactic| (k_here; (with_reducible show wpAny _ _ (binaryOp _ (Value.ref _) (Value.ref _)) _ _ _); k_dflt (refine' Mine.add_strs (by k_asm) (by k_asm) ?a ?b ?i ?j ?_ ?z; (case a => first | exact News.isList (by k_asm) (by k_mem) | exact Mine.list_keeps (by assumption) (Fr.keep (by k_asm))); (case b => first | exact News.isList (by k_asm) (by k_mem) | exact Mine.list_keeps (by assumption) (Fr.keep (by k_asm))); (case i => assumption); (case j => first | assumption | exact StrsAre.cons _ _ .nil | exact StrsAre.cons _ _ (.cons _ _ .nil)); (case z => first | exact Nat.le_of_ble_eq_true rfl | (simp only [List.length_cons, List.length_nil]; omega))); intro D' us' h' F' N' l1 iS'; (try k_lt l1)))
namespace Mine
def grpL (k : Str) : List Str := if wMouse.any (· == k) = true then wMouse else if wCod.any (· == k) = true then wCod else [k]
def SetL (ys : List Str) (k : Str) (b : Bool) (zs : List Str) : Prop := if b = true then sortedS zs = true ∧ zs.Perm (ys.filter (fun y => !(grpL k).any (· == y)) ++ [k]) else zs = ys.filter (fun y => !(y == k))
theorem law_set_code {w : World} {s : Shared} {g : Heap} {mg mb : Str → Option Value} {R : Result → Shared → Prop} {a : Addr} {vs : List Value} {ys : List Str} {k : Str} {t : Tok} {b : Bool}
    (T : TopAt w mg mb g) (P : Part g s.heap) (hl : g.IsList a vs.toArray) (hi : StrsAre vs ys) (h64 : ys.length < 60)
    (hR : ∀ h' tk D vs' n zs, Part g h' → Has g h' [(D, listOf (List.toArray vs') n)] → StrsAre vs' zs → SetL ys k b zs → R (.ok (.ret (.ref D))) { s with heap := h', toks := tk }) :
    codeAny (model pg w) (lv 6) (.call (.ref 189) ⟨[.ref a, .str k t, .bool b], []⟩) R s := by
  have X := T.X
  have TT := T.T
  obtain ⟨v169, h169, i169⟩ := t169 T
  obtain ⟨v170, h170, i170⟩ := t170 T
  have hlen := hi.length
  refine enterC T P (news := []) (fun _ h => nomatch h) (by decide) (f := 189) (by k_is) (by k_is) (BindsTo.of_eq rfl) rfl (by decide +kernel) ?_
  intro L h₁ tk₁ cells F N' Y l1 l2
  have hY := CellsAre.two Y
  obtain ⟨oG, oW, hE, d1, d2⟩ := hY
  subst hE
  simp only [List.cons_append, List.nil_append] at N'
  try dsimp only
  try k_fold
  change Fr g L h₁ (fun y => if y = Str.ofString "is_on" then some (.bool b) else if y = Str.ofString "on" then some (.ref a) else none) at F
  change Obj.data _ = Data.cell none at d1
  change Obj.data _ = Data.cell (some (.str k t)) at d2
  k_steps
  · show LCt.CompSrcT _ _ _ _ _ _ _ _ _ _ _ _ _ _ _
    rename Fr _ _ _ _ => F2
    rename News _ _ _ _ => N2
    refine LCt.CompSrcT.base rfl F2 N2 hl (by rw [List.size_toArray, sizeLine_eq]; omega) ?_
    intro g'
    refine rest_filter (fun y => !wMouse.any (· == y)) hi (Or.inl hl) ?_ ?_
    · intro k1 t1 I oI C oC D m₂ ws h tk E' hk1 hC hx F3 N3 off ne3
      clear F2 N2
      k_steps
      all_goals (try walk_at "FEnd")
      all_goals rfl
    · intro ws hw
      have hf := filter_len (fun y => !wMouse.any (· == y)) ys
      have hw2 := hw.length
      clear F2 N2
      k_steps
      rename Fr _ _ _ _ => F6
      rename News _ _ _ _ => N6
      rename List.Perm _ _ => pS
      rename sortedS _ = true => sS
      rename StrsAre _ _ => iS
      refine hR _ _ _ _ _ _ (part_of F6) (has_of N6 (by k_allIn)) iS ?_
      rw [SetL, if_pos (by assumption)]
      refine ⟨sS, pS.trans ?_⟩
      rw [show grpL k = wMouse by unfold grpL; simp only [*, if_true, if_false, Bool.false_eq_true]]
  · show LCt.CompSrcT _ _ _ _ _ _ _ _ _ _ _ _ _ _ _
    rename Fr _ _ _ _ => F2
    rename News _ _ _ _ => N2
    refine LCt.CompSrcT.base rfl F2 N2 hl (by rw [List.size_toArray, sizeLine_eq]; omega) ?_
    intro g'
    refine rest_filter (fun y => !wCod.any (· == y)) hi (Or.inl hl) ?_ ?_
    · intro k1 t1 I oI C oC D m₂ ws h tk E' hk1 hC hx F3 N3 off ne3
      clear F2 N2
      k_steps
      all_goals (try walk_at "FEnd")
      all_goals rfl
    · intro ws hw
      have hf := filter_len (fun y => !wCod.any (· == y)) ys
      have hw2 := hw.length
      clear F2 N2
      k_steps
      rename Fr _ _ _ _ => F6
      rename News _ _ _ _ => N6
      rename List.Perm _ _ => pS
      rename sortedS _ = true => sS
      rename StrsAre _ _ => iS
      refine hR _ _ _ _ _ _ (part_of F6) (has_of N6 (by k_allIn)) iS ?_
      rw [SetL, if_pos (by assumption)]
      refine ⟨sS, pS.trans ?_⟩
      rw [show grpL k = wCod by unfold grpL; simp only [*, if_true, if_false, Bool.false_eq_true]]
  · show LCt.CompSrcT _ _ _ _ _ _ _ _ _ _ _ _ _ _ _
    rename Fr _ _ _ _ => F2
    rename News _ _ _ _ => N2
    refine LCt.CompSrcT.base rfl F2 N2 hl (by rw [List.size_toArray, sizeLine_eq]; omega) ?_
    intro g'
    refine rest_filter (fun y => ![k].any (· == y)) hi (Or.inl hl) ?_ ?_
    · intro k1 t1 I oI C oC D m₂ ws h tk E' hk1 hC hx F3 N3 off ne3
      clear F2 N2
      k_steps
      all_goals (try walk_at "FEnd")
      all_goals rfl
    · intro ws hw
      have hf := filter_len (fun y => ![k].any (· == y)) ys
      have hw2 := hw.length
      clear F2 N2
      k_steps
      rename Fr _ _ _ _ => F6
      rename News _ _ _ _ => N6
      rename List.Perm _ _ => pS
      rename sortedS _ = true => sS
      rename StrsAre _ _ => iS
      refine hR _ _ _ _ _ _ (part_of F6) (has_of N6 (by k_allIn)) iS ?_
      rw [SetL, if_pos (by assumption)]
      refine ⟨sS, pS.trans ?_⟩
      rw [show grpL k = [k] by unfold grpL; simp only [*, if_true, if_false, Bool.false_eq_true]]
  · show LCt.CompSrcT _ _ _ _ _ _ _ _ _ _ _ _ _ _ _
    rename Fr _ _ _ _ => F2
    rename News _ _ _ _ => N2
    refine LCt.CompSrcT.base rfl F2 N2 hl (by rw [List.size_toArray, sizeLine_eq]; omega) ?_
    intro g'
    refine rest_filter (fun y => !(y == k)) hi (Or.inl hl) ?_ ?_
    · intro k1 t1 I oI C oC D m₂ ws h tk E' hk1 hC hx F3 N3 off ne3
      clear F2 N2
      k_steps
      all_goals (try walk_at "FEnd")
      all_goals rfl
    · intro ws hw
      have hf := filter_len (fun y => !(y == k)) ys
      have hw2 := hw.length
      clear F2 N2
      k_steps
      rename Fr _ _ _ _ => F6
      rename News _ _ _ _ => N6
      refine hR _ _ _ _ _ _ (part_of F6) (has_of N6 (by k_allIn)) hw ?_
      rw [SetL, if_neg (by rename b = false => hb; rw [hb]; exact Bool.false_ne_true)]
section
variable {w : World} {A : Around} {E : Value → Shared → Prop} {s : Shared} {h₀ : Heap} {L : Addr} {m mg mb : Str → Option Value} {news : List (Addr × Obj)} {Q : Value → Shared → Prop}
theorem via_isList0 {a : Addr} {items : Array Value} (h : s.heap.IsList a items) : (gOf s.heap []).IsList a items := via_isList h (fun q => by cases q)
theorem law_set_K {a : Addr} {vs : List Value} {ys : List Str} {k : Str} {t : Tok} {b : Bool} (hh : A.handled = none) (hd : A.depth ≤ 370) (hu : A.units ≤ 200)
    (F : Fr h₀ L s.heap m) (N : News h₀ L s.heap news) (T : TopAt w mg mb h₀) (hl : s.heap.IsList a vs.toArray) (hi : StrsAre vs ys) (h64 : ys.length < 60)
    (h : ∀ h' tk D vs' n zs, Fr h₀ L h' m → News h₀ L h' ((D, listOf (List.toArray vs') n) :: news) → (∀ p ∈ news, @Ne Nat p.1 D) → StrsAre vs' zs → SetL ys k b zs → Q (.ref D) { s with heap := h', toks := tk }) : wpAny (model pg w) A (call (.ref 189) [.ref a, .str k t, .bool b]) Q E s :=
  have hs : ∀ p ∈ ([] : List (Addr × Obj)), p ∈ news := fun _ h => nomatch h
  Under.wp (B := lv 6) (wpAny_call (law_set_code (via_top F N hs T) via_part (via_isList0 hl) hi h64 fun h' tk D vs' n zs P H e1 e2 => h h' tk D vs' n zs (via_fr F N hs P) (via_new F N hs (via_read N hs P fun _ h => nomatch h) (H _ (.head _)).1 (H _ (.head _)).2) (via_ne N (H _ (.head _)).2 fun _ h => nomatch h) e1 e2)) hh rfl rfl rfl hd hu
end
end Mine
local macro_rules | `(tactic| walk_at "call ref") => `(tactic| (k_here; (with_reducible show wpAny _ _ (call (Value.ref 189) [Value.ref _, Value.str _ _, Value.bool _]) _ _ _); (refine' Mine.law_set_K (by exact rfl) (by exact Nat.le_of_ble_eq_true rfl) (by exact Nat.le_of_ble_eq_true rfl) (by k_asm) (by k_asm) (by k_asm) ?hl ?hi ?h64 ?_; (case hl => exact News.isList (by k_asm) (by k_mem)); (case hi => assumption); (case h64 => omega)); intro h' tk' D' vs' n' zs' F' N' l1 iS' sL'))
namespace Mine
section
local macro_rules | `(tactic| walk_at "compareOp NotEq ref ref") => `(tactic| (k_here; (with_reducible show wpAny _ _ (compareOp CmpOp.NotEq (Value.ref _) (Value.ref _)) _ _ _); k_dflt (refine' Mine.ne_strs ?ha ?hb ?hi ?hj ?h1 ?h2 ?hu ?_; (case ha | hb => exact News.isList (by k_asm) (by k_mem)); (case hi => assumption); (case hj => exact StrsAre.nil); (case h1 => assumption); (case h2 => exact rfl); (case hu => exact Nat.le_of_ble_eq_true rfl))))
theorem law_alone_code {w : World} {s : Shared} {g : Heap} {mg mb : Str → Option Value} {R : Result → Shared → Prop} {a c : Addr} {vs us : List Value} {ys ws : List Str}
    (T : TopAt w mg mb g) (P : Part g s.heap) (hl : g.IsList a vs.toArray) (hi : StrsAre vs ys) (hl2 : g.IsList c us.toArray) (hi2 : StrsAre us ws) (hz : ys.length < 100) (hz2 : ws.length < 100) (ok : OkS ws)
    (hR : ∀ h' tk v, Part g h' → WordV v (ws.filter (fun k => ys.any (· == k))).head? → R (.ok (.ret v)) { s with heap := h', toks := tk }) :
    codeAny (model pg w) (lv 6) (.call (.ref 199) ⟨[.ref a, .ref c], []⟩) R s := by
  have X := T.X
  have TT := T.T
  have hlen := hi2.length
  refine enterC T P (news := []) (fun _ h => nomatch h) (by decide) (f := 199) (by k_is) (by k_is) (BindsTo.of_eq rfl) rfl (by decide +kernel) ?_
  intro L h₁ tk₁ cells F N' Y l1 l2
  have hY := CellsAre.one Y
  obtain ⟨oW, hE, d1⟩ := hY
  subst hE
  simp only [List.cons_append, List.nil_append] at N'
  change Fr g L h₁ (fun y => if y = Str.ofString "words" then some (.ref c) else none) at F
  change Obj.data _ = Data.cell (some (.ref a)) at d1
  try dsimp only
  try k_fold
  k_steps
  show LCt.CompSrcT _ _ _ _ _ _ _ _ _ _ _ _ _ _ _
  rename Fr _ _ _ _ => F2
  rename News _ _ _ _ => N2
  refine LCt.CompSrcT.base rfl F2 N2 hl2 (by rw [List.size_toArray, sizeLine_eq]; omega) ?_
  intro g'
  refine rest_filter (fun y => ys.any (· == y)) hi2 (Or.inl hl2) ?_ ?_
  · intro k1 t1 I oI C oC D m₂ ws h tk E' hk1 hC hx F3 N3 off ne3
    clear F2 N2
    k_steps
    all_goals (try walk_at "FEnd")
    all_goals rfl
  · intro us2 hw
    have hok : OkS (ws.filter fun y => ys.any (· == y)) := List.all_eq_true.mpr fun k hk => List.all_eq_true.mp ok k (List.mem_filter.mp hk).1
    cases hq : ws.filter fun y => ys.any (· == y) with
    | nil =>
      rw [hq] at hw
      cases hw
      clear F2 N2
      k_steps
      rename Fr _ _ _ _ => F6
      exact hR _ _ _ (part_of F6) (by rw [hq]; rfl)
    | cons z zs =>
      rw [hq] at hw hok
      have hw3 := hw
      cases hw
      clear F2 N2
      k_steps
      · exfalso
        first
          | (rename decide (_ = _) = _ => hc; simp at hc)
          | (rename (!decide (_ = _)) = _ => hc; simp at hc)
      · rename Fr _ _ _ _ => F6
        exact hR _ _ _ (part_of F6) (by rw [hq]; exact ⟨_, rfl⟩)
end
section
variable {w : World} {A : Around} {E : Value → Shared → Prop} {s : Shared} {h₀ : Heap} {L : Addr} {m mg mb : Str → Option Value} {news : List (Addr × Obj)} {Q : Value → Shared → Prop}
theorem law_alone_K {a c : Addr} {vs us : List Value} {ys ws : List Str} (hh : A.handled = none) (hd : A.depth ≤ 370) (hu : A.units ≤ 200)
    (F : Fr h₀ L s.heap m) (N : News h₀ L s.heap news) (T : TopAt w mg mb h₀) (hl : s.heap.IsList a vs.toArray) (hi : StrsAre vs ys) (hl2 : s.heap.IsList c us.toArray) (hi2 : StrsAre us ws) (hz : ys.length < 100) (hz2 : ws.length < 100) (ok : OkS ws)
    (h : ∀ h' tk v, Fr h₀ L h' m → News h₀ L h' news → WordV v (ws.filter (fun k => ys.any (· == k))).head? → Q v { s with heap := h', toks := tk }) : wpAny (model pg w) A (call (.ref 199) [.ref a, .ref c]) Q E s :=
  have hs : ∀ p ∈ ([] : List (Addr × Obj)), p ∈ news := fun _ h => nomatch h
  Under.wp (B := lv 6) (wpAny_call (law_alone_code (via_top F N hs T) via_part (via_isList0 hl) hi (via_isList0 hl2) hi2 hz hz2 ok fun h' tk v P e => h h' tk v (via_fr F N hs P) (via_read N hs P fun _ h => nomatch h) e)) hh rfl rfl rfl hd hu
end
end Mine
local macro_rules | `(tactic| walk_at "call ref") => `(tactic| (k_here; (with_reducible show wpAny _ _ (call (Value.ref 199) [Value.ref _, Value.ref _]) _ _ _); (refine' Mine.law_alone_K (by exact rfl) (by exact Nat.le_of_ble_eq_true rfl) (by exact Nat.le_of_ble_eq_true rfl) (by k_asm) (by k_asm) (by k_asm) ?hl ?hi ?hl2 ?hi2 ?hz ?hz2 ?ok ?_; (case hl => first | exact News.isList (by k_asm) (by k_mem) | exact Mine.list_keeps (by assumption) (Fr.keep (by k_asm))); (case hi => assumption); (case hl2 => exact Mine.list_keeps (by assumption) (Fr.keep (by k_asm))); (case hi2 => assumption); (case hz => omega); (case hz2 => decide); (case ok => (unfold Mine.OkS; decide +kernel))); intro h' tk' v' F' N' eV'))
namespace Mine
structure Agree (st : List (Str × Bool)) (ys : List Str) : Prop where
  look : ∀ k, (get st k).getD false = ys.any (· == k)
  right : ∀ zs, OnOf st zs → zs = ys
theorem firstOn_agree {st : List (Str × Bool)} {ys : List Str} (h : Agree st ys) (ws : List Str) : (ws.filter (fun k => ys.any (· == k))).head? = firstOn st ws := by
  unfold firstOn
  rw [List.head?_filter]
  congr 1
  funext k
  exact (h.1 k).symm
section
variable {w : World} {A : Around} {E : Value → Shared → Prop} {s : Shared} {h₀ : Heap} {L : Addr} {m mg mb : Str → Option Value} {news : List (Addr × Obj)} {Q : Value → Shared → Prop}
theorem list_strs {a : Addr} {vs : List Value} {ss : List Str} (F : Fr h₀ L s.heap m) (N : News h₀ L s.heap news) (hl : s.heap.IsList a vs.toArray) (hi : StrsAre vs ss) (hz : ss.length ≤ 1000)
    (h : ∀ D c h', Fr h₀ L h' m → News h₀ L h' ((D, listOf (List.toArray vs) c) :: news) → (∀ q ∈ news, q.1 < D) → Q (.ref D) { s with heap := h' }) : wpAny (model pg w) A (call (.type "list") [.ref a]) Q E s :=
  list_copyK F N hl (fun D c h' F' N' l1 => h D c h' F' N' l1) (by rw [List.size_toArray, hi.length, sizeLine_eq]; omega)
theorem ne_strs_same {a b : Addr} {xs ys : List Value} {ss tt : List Str} (ha : s.heap.IsList a xs.toArray) (hb : s.heap.IsList b ys.toArray) (hi : StrsAre xs ss) (hj : StrsAre ys tt) (h2 : OkS tt) (hu : A.units + 64 < cLine) (e : ss = tt) (h : Q (.bool false) s) :
    wpAny (model pg w) A (compareOp .NotEq (.ref a) (.ref b)) Q E s := by
  subst e
  refine ne_strs ha hb hi hj h2 h2 hu ?_
  rw [decide_eq_true rfl]
  exact h
end
theorem OnOf.length {st : List (Str × Bool)} {ys : List Str} (h : OnOf st ys) : ys.length ≤ st.length := by
  obtain ⟨ns, hp, _, rfl⟩ := h
  have h1 := hp.length_eq
  have h2 := filter_len (fun k => (get st k).getD false) ns
  rw [List.length_map] at h1
  omega
theorem agree_none {st : List (Str × Bool)} {ys : List Str} (h : Agree st ys) {ws : List Str} : ws.filter (fun k => !((get st k).getD false == ys.any (· == k))) = [] := by
  refine List.filter_eq_nil_iff.mpr fun k _ => ?_
  rw [h.1 k, beq_self_eq_true]
  decide
section
local macro_rules | `(tactic| walk_at "call type:list") => `(tactic| (k_here; (with_reducible show wpAny _ _ (call (Value.type "list") [Value.ref _]) _ _ _); k_dflt (refine' Mine.list_strs (by k_asm) (by k_asm) ?hl ?hi ?hz ?_; (case hl => exact News.isList (by k_asm) (by k_mem)); (case hi => assumption); (case hz => (refine Nat.le_trans (OnOf.length (by assumption)) ?_; omega))); intro D' c' h' F' N' l1; (try k_lt l1)))
local macro_rules | `(tactic| walk_at "compareOp NotEq ref ref") => `(tactic| (k_here; (with_reducible show wpAny _ _ (compareOp CmpOp.NotEq (Value.ref _) (Value.ref _)) _ _ _); k_dflt (refine' Mine.ne_strs_same ?ha ?hb ?hi ?hj ?h2 ?hu ?e ?_; (case ha => exact News.isList (by k_asm) (by k_mem)); (case hb => exact Mine.list_keeps (by assumption) (Fr.keep (by k_asm))); (case hi | hj | h2 => assumption); (case hu => exact Nat.le_of_ble_eq_true rfl); (case e => exact Agree.right (by assumption) _ (by assumption)))))
theorem law_stands_code {w : World} {s : Shared} {g : Heap} {mg mb : Str → Option Value} {R : Result → Shared → Prop} {x dx sd kd : Addr} {oS oK : Obj} {st kp : List (Str × Bool)} {ta tb : Tok} {a : Addr} {vs : List Value} {ys : List Str}
    (T : TopAt w mg mb g) (P : Part g s.heap) (N : Has g s.heap (ledM w x dx sd kd ta tb oS oK))
    (hS : IsSt w oS st) (hK : IsSt w oK kp) (ne : NeM x dx sd kd) (h64 : st.length < 64) (okm : OkM st) (hl : g.IsList a vs.toArray) (hi : StrsAre vs ys) (hz : ys.length < 60) (ok : OkS ys) (hA : Agree st ys)
    (hR : ∀ h' tk, Part g h' → Has g h' (ledM w x dx sd kd ta tb oS oK) → R (.ok (.ret (.bool true))) { s with heap := h', toks := tk }) :
    codeAny (model pg w) (lv 3) (.call (.ref 204) ⟨[.ref x, .ref a], []⟩) R s := by
  have X := T.X
  have TT := T.T
  have ⟨n1, n2, n3, n4, n5, n6, lo, lo2⟩ := ne
  obtain ⟨v169, h169, i169⟩ := t169 T
  obtain ⟨v170, h170, i170⟩ := t170 T
  obtain ⟨v171, h171, i171⟩ := t171 T
  obtain ⟨v172, h172, i172⟩ := t172 T
  have hlen := hi.length
  refine enterC T P N (by decide) (f := 204) (by k_is) (by k_is) (BindsTo.of_eq rfl) rfl (by decide +kernel) ?_
  intro L h₁ tk₁ cells F N' Y l1 l2
  try (k_lt l1)
  have hY := CellsAre.two Y
  obtain ⟨oG, oW, hE, d1, d2⟩ := hY
  subst hE
  dsimp only [ledM, mdict] at N'
  simp only [List.cons_append, List.nil_append] at N'
  dsimp only [IsSt] at hS hK
  change Fr g L h₁ (fun y => none) at F
  try dsimp only
  try k_fold
  change Obj.data _ = Data.cell (some (.ref a)) at d1
  change Obj.data _ = Data.cell (some (.ref x)) at d2
  k_steps
  rename WordV _ (firstOn _ _) => e1
  rename WordV _ (List.head? _) => e2
  rw [firstOn_agree hA] at e2
  cases hq : firstOn st wMouse with
  | none =>
    rw [hq] at e1 e2
    cases e1
    cases e2
    clear hq
    k_steps
    show LCt.CompSrcT _ _ _ _ _ _ _ _ _ _ _ _ _ _ _
    rename Fr _ _ _ _ => F2
    rename News _ _ _ _ => N2
    rename StrsAre _ (wOut ++ wFirst) => iO
    refine LCt.CompSrcT.ledger rfl F2 N2 (.head _) (by rw [List.size_toArray, iO.length, sizeLine_eq]; decide) ?_
    intro g'
    refine rest_filter (fun k => !((get st k).getD false == ys.any (· == k))) iO (Or.inr ⟨_, .head _, rfl, _, rfl⟩) ?_ ?_
    · intro k1 t1 I oI C oC D m₂ ws h tk E' hk1 hC hx F3 N3 off ne3
      clear F2 N2
      k_steps
      all_goals (try walk_at "FEnd")
      all_goals rfl
    · intro ws hw
      rw [agree_none hA] at hw
      cases hw
      clear F2 N2
      k_steps
      rename WordV _ (firstOn _ _) => e1
      rename WordV _ (List.head? _) => e2
      rw [firstOn_agree hA] at e2
      cases hq2 : firstOn st wCod with
      | none =>
        rw [hq2] at e1 e2
        cases e1
        cases e2
        clear hq2
        k_steps
        rename Fr _ _ _ _ => F6
        rename News _ _ _ _ => N6
        exact hR _ _ (part_of F6) (has_of N6 (by dsimp only [ledM, mdict]; k_allIn))
      | some k =>
        rw [hq2] at e1 e2
        obtain ⟨_, rfl⟩ := e1
        obtain ⟨_, rfl⟩ := e2
        clear hq2
        k_steps
        rename Fr _ _ _ _ => F6
        rename News _ _ _ _ => N6
        rw [beq_self_eq_true]
        exact hR _ _ (part_of F6) (has_of N6 (by dsimp only [ledM, mdict]; k_allIn))
  | some k =>
    rw [hq] at e1 e2
    obtain ⟨_, rfl⟩ := e1
    obtain ⟨_, rfl⟩ := e2
    clear hq
    k_steps
    · exfalso
      rename (!(_ == _)) = true => hc
      rw [show (k != k) = false from bne_self_eq_false k] at hc
      cases hc
    show LCt.CompSrcT _ _ _ _ _ _ _ _ _ _ _ _ _ _ _
    rename Fr _ _ _ _ => F2
    rename News _ _ _ _ => N2
    rename StrsAre _ (wOut ++ wFirst) => iO
    refine LCt.CompSrcT.ledger rfl F2 N2 (.head _) (by rw [List.size_toArray, iO.length, sizeLine_eq]; decide) ?_
    intro g'
    refine rest_filter (fun k => !((get st k).getD false == ys.any (· == k))) iO (Or.inr ⟨_, .head _, rfl, _, rfl⟩) ?_ ?_
    · intro k1 t1 I oI C oC D m₂ ws h tk E' hk1 hC hx F3 N3 off ne3
      clear F2 N2
      k_steps
      all_goals (try walk_at "FEnd")
      all_goals rfl
    · intro ws hw
      rw [agree_none hA] at hw
      cases hw
      clear F2 N2
      k_steps
      rename WordV _ (firstOn _ _) => e1
      rename WordV _ (List.head? _) => e2
      rw [firstOn_agree hA] at e2
      cases hq2 : firstOn st wCod with
      | none =>
        rw [hq2] at e1 e2
        cases e1
        cases e2
        clear hq2
        k_steps
        rename Fr _ _ _ _ => F6
        rename News _ _ _ _ => N6
        exact hR _ _ (part_of F6) (has_of N6 (by dsimp only [ledM, mdict]; k_allIn))
      | some k =>
        rw [hq2] at e1 e2
        obtain ⟨_, rfl⟩ := e1
        obtain ⟨_, rfl⟩ := e2
        clear hq2
        k_steps
        rename Fr _ _ _ _ => F6
        rename News _ _ _ _ => N6
        rw [beq_self_eq_true]
        exact hR _ _ (part_of F6) (has_of N6 (by dsimp only [ledM, mdict]; k_allIn))
end
section
variable {w : World} {A : Around} {E : Value → Shared → Prop} {s : Shared} {h₀ : Heap} {L : Addr} {m mg mb : Str → Option Value} {news : List (Addr × Obj)} {Q : Value → Shared → Prop}
theorem ledM_list_off {h : Heap} {a x dx sd kd : Addr} {oS oK : Obj} {st kp : List (Str × Bool)} {ta tb : Tok} {items : Array Value} (hl : h.IsList a items) (H : ∀ p ∈ ledM w x dx sd kd ta tb oS oK, h.get? p.1 = some p.2) (hS : IsSt w oS st) (hK : IsSt w oK kp) : a ∉ (ledM w x dx sd kd ta tb oS oK).map (·.1) := fun q => by
  obtain ⟨ol, hol, _, nn, hdl⟩ := id hl
  obtain ⟨p, hp, e⟩ := List.mem_map.mp q
  exact ledM_off (x := x) (dx := dx) (sd := sd) (kd := kd) (ta := ta) (tb := tb) (w := w) hol hdl H hS hK p hp e
theorem law_stands_K {x dx sd kd : Addr} {oS oK : Obj} {st kp : List (Str × Bool)} {ta tb : Tok} {a : Addr} {vs : List Value} {ys : List Str} (hh : A.handled = none) (hd : A.depth ≤ 340) (hu : A.units ≤ 110)
    (F : Fr h₀ L s.heap m) (N : News h₀ L s.heap news) (T : TopAt w mg mb h₀) (hs : ∀ p ∈ ledM w x dx sd kd ta tb oS oK, p ∈ news) (hS : IsSt w oS st) (hK : IsSt w oK kp) (ne : NeM x dx sd kd) (h64 : st.length < 64) (okm : OkM st)
    (hl : s.heap.IsList a vs.toArray) (hi : StrsAre vs ys) (hz : ys.length < 60) (ok : OkS ys) (hA : Agree st ys)
    (h : ∀ h' tk, Fr h₀ L h' m → News h₀ L h' news → Q (.bool true) { s with heap := h', toks := tk }) : wpAny (model pg w) A (call (.ref 204) [.ref x, .ref a]) Q E s :=
  Under.wp (B := lv 3) (wpAny_call (law_stands_code (via_top F N hs T) via_part (via_has N hs) hS hK ne h64 okm (via_isList hl (ledM_list_off hl (fun p hp => (N p (hs p hp)).1) hS hK)) hi hz ok hA fun h' tk P H => h h' tk (via_fr F N hs P) (via_read N hs P fun p hp => (H p hp).1))) hh rfl rfl rfl hd hu
end
end Mine
local macro_rules | `(tactic| walk_at "call ref") => `(tactic| (k_here; (with_reducible show wpAny _ _ (call (Value.ref 204) [Value.ref _, Value.ref _]) _ _ _); (refine' Mine.law_stands_K (by exact rfl) (by exact Nat.le_of_ble_eq_true rfl) (by exact Nat.le_of_ble_eq_true rfl) (by k_asm) (by k_asm) (by k_asm) (by k_allIn) (by k_asm) (by k_asm) (by k_asm) (by omega) ?okm ?hl ?hi ?hz ?ok ?hA ?_; (case okm | hA => assumption); (case hl => exact News.isList (by k_asm) (by k_mem)); (case hi => assumption); (case hz => omega); (case ok => assumption)); intro h' tk' F' N'))
namespace Mine
open LCg
inductive PairsIn (h : Heap) : List Value → List (Int × Str) → Prop
  | nil : PairsIn h [] []
  | cons {t : Addr} {k : Int} {x : Str} {tk tx : Tok} {vs ps} : IsTup h t (List.toArray [.int k tk, .str x tx]) → PairsIn h vs ps → PairsIn h (.ref t :: vs) ((k, x) :: ps)
def poolP : List (Int × Str) := [(7, Str.ofString "autowrap"), (6, Str.ofString "origin"), (25, Str.ofString "show_cursor"), (1, Str.ofString "app_cursor"), (69, Str.ofString "side_margins"), (45, Str.ofString "reverse_wrap"), (5, Str.ofString "reverse_screen"), (9, Str.ofString "mouse_x10"), (1000, Str.ofString "mouse_click"), (1002, Str.ofString "mouse_drag"), (1003, Str.ofString "mouse_all"), (1005, Str.ofString "mouse_utf8"), (1006, Str.ofString "mouse_sgr"), (1015, Str.ofString "mouse_urxvt"), (1016, Str.ofString "mouse_pixels"), (47, Str.ofString "alternate"), (1047, Str.ofString "alternate_clear"), (1049, Str.ofString "alternate_full")]
def poolO : List (Int × Str) := [(4, Str.ofString "insert"), (20, Str.ofString "newline"), (2, Str.ofString "locked"), (12, Str.ofString "send_receive")]
theorem t163 {w : World} {mg mb : Str → Option Value} {g : Heap} (T : TopAt w mg mb g) : ∃ vs, g.IsList 163 (List.toArray vs) ∧ PairsIn g vs poolP := by
  refine ⟨_, lstK T.X (by k_is), ?_⟩
  repeat (refine .cons (tupK T.X (by k_is)) ?_)
  exact .nil
theorem t168 {w : World} {mg mb : Str → Option Value} {g : Heap} (T : TopAt w mg mb g) : ∃ vs, g.IsList 168 (List.toArray vs) ∧ PairsIn g vs poolO := by
  refine ⟨_, lstK T.X (by k_is), ?_⟩
  repeat (refine .cons (tupK T.X (by k_is)) ?_)
  exact .nil
theorem PairsIn.tl {h : Heap} : ∀ {vs ps}, PairsIn h vs ps → ∃ tl : List (Addr × Obj), (∀ p ∈ tl, h.get? p.1 = some p.2 ∧ p.2.cls = .type "tuple") ∧ ∀ (i : Nat) (v : Value), vs[i]? = some v → ∃ t ot k x tk tx n, v = .ref t ∧ (t, ot) ∈ tl ∧ ot.cls = .type "tuple" ∧ ot.data = .seq #[.int k tk, .str x tx] n ∧ ps[i]? = some (k, x)
  | _, _, .nil => ⟨[], (fun _ h => nomatch h), fun i v h => by simp at h⟩
  | _, _, .cons (t := t) (k := k) (x := x) (tk := tk) (tx := tx) ht r => by
    obtain ⟨tl, h1, h2⟩ := r.tl
    obtain ⟨ot, ho, hc, n, hd⟩ := ht
    refine ⟨(t, ot) :: tl, fun p hp => ?_, fun i v hv => ?_⟩
    · rcases List.mem_cons.mp hp with rfl | hp
      · exact ⟨ho, hc⟩
      · exact h1 p hp
    · cases i with
      | zero => cases hv; exact ⟨t, ot, k, x, tk, tx, n, rfl, .head _, hc, hd, rfl⟩
      | succ i =>
        obtain ⟨t', ot', k', x', tk', tx', n', a, b, c, d, e⟩ := h2 i v hv
        exact ⟨t', ot', k', x', tk', tx', n', a, .tail _ b, c, d, e⟩
theorem PairsIn.length {h : Heap} : ∀ {vs ps}, PairsIn h vs ps → vs.length = ps.length
  | _, _, .nil => rfl
  | _, _, .cons _ r => by simp only [List.length_cons, r.length]
theorem Off1.mem {D : Addr} : ∀ {l : List (Addr × Obj)}, Off1 D l → ∀ p ∈ l, p.1 ≠ D
  | [], _, _, h => nomatch h
  | _ :: _, x, p, h => by
    rcases List.mem_cons.mp h with rfl | h
    · exact x.1
    · exact Off1.mem x.2 p h
theorem comp_pair {w : World} {A : Around} {E : Value → Shared → Prop} {s : Shared} {g : Heap} {L : Addr} {m : Str → Option Value} {news : List (Addr × Obj)} {env : Env} {iter : Expr} {x x₂ : Str} {p1 px px₂ tp : Pos} {tk} {scope : Scope} {cl : List (Str × Addr)} {pos : Pos} {Q : Value → Shared → Prop} {ax : Addr} {vs : List Value} {ps : List (Int × Str)}
    (F : Fr g L s.heap m) (N : News g L s.heap news) (hA : A.handled = none) (hl : g.IsList ax vs.toArray) (hp : PairsIn g vs ps) (hz : ps.length ≤ 1000)
    (hit : ∀ Q' : Value → Shared → Prop, Q' (.ref ax) s → wpAny (model pg w) A (eval iter env) Q' E s)
    (h : ∀ D h' tk us, Fr g L h' m → News g L h' ((D, lst us) :: news) → (∀ p ∈ news, @Ne Nat p.1 D) → IntsAre us (ps.map (·.1)) → Q (.ref D) { s with heap := h', toks := tk })
    (hclos : closureFor scope env = pure cl) (hcell : ∀ y ∈ scope.names, y.2 ≠ .cell) (hkind : scope.kind = .function)
    (hnames : ∀ y ∈ scope.names, y.2 = .local → scope.names.lookup y.1 = some .local) (hx : scope.names.lookup x = some .local) (hx₂ : scope.names.lookup x₂ = some .local) (hxx : x ≠ x₂) (hd : (x == ("__debug__" : Str)) = false)
    (hs : ∀ x, foldedSetIterable iter env x = pure x := by intro _; rfl) :
    wpAny (model pg w) A (eval (.ListComp (.Name x p1) [⟨.Tuple [.Name x px, .Name x₂ px₂] tk tp, iter, [], 0⟩] scope pos) env) Q E s := by
  obtain ⟨tl, h1, h2⟩ := hp.tl
  have hlen := hp.length
  have hgn : ∀ b, g.get? b = none → (gOf g tl).get? b = none := fun b e => by
    cases q : (gOf g tl).get? b with
    | none => rfl
    | some o => rw [of_hideAll _ q] at e; cases e
  have F' : Fr (gOf g tl) L s.heap m := ⟨F.ns, fun b o e => F.keep b o (of_hideAll _ e), by rw [hideAll_size]; exact F.above⟩
  have N' : News (gOf g tl) L s.heap (tl ++ news) := fun p hp => by
    rcases List.mem_append.mp hp with q | q
    · exact ⟨F.keep _ _ (h1 p q).1, Nat.ne_of_lt (Nat.lt_of_lt_of_le (Heap.lt_size (h1 p q).1) F.above), hideAll_none _ (List.mem_map_of_mem q)⟩
    · exact ⟨(N p q).1, (N p q).2.1, hgn _ (N p q).2.2⟩
  have hl' : (gOf g tl).IsList ax vs.toArray := by
    obtain ⟨o, ho, hc, r⟩ := hl
    refine ⟨o, hideAll_get _ ho fun q => ?_, hc, r⟩
    obtain ⟨p, hp, e⟩ := List.mem_map.mp q
    have h3 := (h1 p hp).1
    rw [e, ho] at h3
    have h4 := (h1 p hp).2
    rw [← Option.some.inj h3, hc] at h4
    exact type_ne rfl h4
  refine LCp.ListComp_P (F₀ := F') hclos hcell hkind hnames hx hx₂ hxx (hit _ (LCp.SrcLP.base hA F' N' hl' (by rw [List.size_toArray, hlen, sizeLine_eq]; omega) fun g' => ?_)) hs
  have key : ∀ (j i : Nat) (ys : List Value), i + j = vs.toArray.size → IntsAre ys ((ps.take i).map (·.1)) → LCp.CompRestP pg w A (gOf g tl) L m env (.Name x p1) x x₂ scope cl { s with heap := g' } (SrcAt (gOf g tl) ax vs.toArray) (fun i v => vs.toArray[i]? = some v) (FinE (gOf g tl) L m { s with heap := g' } Q) j i ys (tl ++ news) := by
    intro j
    induction j with
    | zero =>
      intro i ys hi hy
      refine LCp.CompRestP.zero ?_
      obtain rfl : i = vs.toArray.size := hi
      rw [List.size_toArray, hlen, List.take_length] at hy
      intro D h' tk2 FF NN o1
      have om := Off1.mem o1
      refine h D h' tk2 ys ⟨FF.ns, fun b o e => ?_, F.above⟩ (fun p hp => ?_) (fun p hp => om p (List.mem_append_right _ hp)) hy
      · by_cases q : b ∈ tl.map (·.1)
        · obtain ⟨p, hp, rfl⟩ := List.mem_map.mp q
          have h3 := (h1 p hp).1
          rw [e] at h3
          rw [Option.some.inj h3]
          exact (NN p (.tail _ (List.mem_append_left _ hp))).1
        · exact FF.keep b o (hideAll_get _ e q)
      · rcases List.mem_cons.mp hp with rfl | hp
        · have hD := NN (D, lst ys) (.head _)
          refine ⟨hD.1, hD.2.1, ?_⟩
          cases e : g.get? D with
          | none => rfl
          | some o =>
            by_cases q : D ∈ tl.map (·.1)
            · obtain ⟨p, hp, e2⟩ := List.mem_map.mp q
              exact absurd e2 (om p (List.mem_append_left _ hp))
            · have := hideAll_get _ e q
              rw [hD.2.2] at this; cases this
        · have z := NN p (.tail _ (List.mem_append_right _ hp))
          exact ⟨z.1, z.2.1, (N p hp).2.2⟩
    | succ j ih =>
      intro i ys hi hy
      refine LCp.CompRestP.succ fun v hv => ?_
      obtain ⟨t, ot, k, u, tk1, tu, n, rfl, hm, hc, hdat, hpi⟩ := h2 i v (by simpa using hv)
      refine ⟨t, ot, _, _, n, rfl, List.mem_append_left _ hm, hc, hdat, ?_⟩
      intro I oI C oC D m₂ h2 tk2 E' hC hx1 hx2 FF NN off ne
      refine LCgL.ld_own (s := { s with heap := h2, toks := tk2 }) NN (.tail _ (.head _)) hC hx1 ?_ (by show (relabel scope env).kind = _; exact hkind) (lookup_relabel_local hx) hd
      refine CompEnd.intro FF NN (tl ++ news) (fun p hp => hp) off (.inl hl') (ih (i + 1) _ (by omega) ?_)
      rw [List.take_add_one, hpi]
      simp only [Option.toList, List.map_append, List.map_cons, List.map_nil]
      exact IntsAre.append hy (.cons _ _ .nil)
  exact key _ 0 [] (by omega) .nil
end Mine
namespace Mine
def poolL : List Int := [7, 6, 25, 1, 69, 45, 5, 9, 1000, 1002, 1003, 1005, 1006, 1015, 1016, 47, 1047, 1049, 3333, 0]
theorem pool_item {w : World} {A : Around} {E : Value → Shared → Prop} {s : Shared} {value slice : Expr} {l : Addr} {vs : List Value} {r : Int} {u : Tok} {Q : Value → Shared → Prop} (hl : s.heap.IsList l vs.toArray) (hi : IntsAre vs (poolP.map (·.1) ++ [3333, 0]))
    (h0 : 0 ≤ r) (h1 : r < 20) (h : ∀ k t, k ∈ poolL → Q (.int k t) s)
    (hs : subscripted slice false (.ref l) (.int r u) = operate [.ref l, .int r u] (getItem (.ref l) (.int r u)) := by with_unfolding_all rfl) (hg : ∀ r, letTemporaryGo value (.ref l) r = pure () := by intro _; with_unfolding_all rfl) :
    wpAny (model pg w) A (subscriptTail value slice (.ref l) (.int r u)) Q E s := by
  refine item_list_ints hl hi h0 (by show r < ((poolL.length : Nat) : Int); rw [show poolL.length = 20 from rfl]; omega) (by omega) (fun t => h _ t ?_) hs hg
  have e : r.toNat < poolL.length := by rw [show poolL.length = 20 from rfl]; omega
  show poolL.getD r.toNat 0 ∈ poolL
  rw [List.getD_eq_getElem?_getD, List.getElem?_eq_getElem e]
  exact List.getElem_mem e
abbrev thirdOf {h₀ h : Heap} {L : Addr} {p q r : Addr × Obj} {l : List (Addr × Obj)} (_ : News h₀ L h (p :: q :: r :: l)) : Addr × Obj := r
abbrev fourthOf {h₀ h : Heap} {L : Addr} {p q r t : Addr × Obj} {l : List (Addr × Obj)} (_ : News h₀ L h (p :: q :: r :: t :: l)) : Addr × Obj := t
section
local macro_rules | `(tactic| walk_at "subscriptTail") => `(tactic| (k_here; (with_reducible show wpAny _ _ (subscriptTail _ _ (Value.ref _) (Value.int _ _)) _ _ _); k_dflt (refine' Mine.pool_item ?hl ?hi ?h0 ?h1 ?_ ?hs ?hg; (case hl => exact News.isList (by k_asm) (by k_mem)); (case hi | h0 | h1 => assumption); (case hs => with_unfolding_all rfl); (case hg => intro _; with_unfolding_all rfl)); intro k' t' hk'))
local macro_rules | `(tactic| walk_at "eval ListComp") => `(tactic| (k_here; refine Mine.Stop.out ?_))
local macro_rules | `(tactic| walk_at "eval Name") => `(tactic| walk_at "nmx")
theorem law_numbers_code {w : World} {s : Shared} {g : Heap} {mg mb : Str → Option Value} {R : Result → Shared → Prop} {d c : Addr} {oD : Obj} {vs : List Value} {n : Int}
    (T : TopAt w mg mb g) (P : Part g s.heap) (N : Has g s.heap [(d, oD)]) (hD : IsDeck w oD c n) (hl : g.IsList c vs.toArray) (hi : IsCells vs) (hn : 0 ≤ n) (hn' : n < 90000) (lo : (d == sysModules) = false)
    (hR : ∀ h' tk o' n' D us ns m, Part g h' → Has g h' [(D, listOf (List.toArray us) m), (d, o')] → (@Ne Nat D d) → IsDeck w o' c n' → n ≤ n' → n' ≤ n + 10 → IntsAre us ns → (∀ k ∈ ns, k ∈ poolL) → ns.length ≤ 3 → R (.ok (.ret (.ref D))) { s with heap := h', toks := tk }) :
    codeAny (model pg w) (lv 4) (.call (.ref 194) ⟨[.ref d], []⟩) R s := by
  have X := T.X
  have TT := T.T
  refine enter T P N (by decide) (f := 194) (by k_is) (by k_is) (BindsTo.of_eq rfl) (locs rfl) ?_
  intro L h₁ tk₁ F N' l1 l2
  try (k_lt l1)
  try dsimp only
  try k_fold
  obtain ⟨v163, h163, i163⟩ := t163 T
  k_steps
  show wpAny _ _ _ _ _ _
  refine' comp_pair (vs := v163) (ps := poolP) (ax := 163) F N' rfl h163 i163 ?hz ?hit ?_ ?hclos ?hcell ?hkind ?hnames ?hx ?hx2 ?hxx ?hd ?hs
  case hz => exact Nat.le_of_ble_eq_true rfl
  case hclos => with_unfolding_all rfl
  case hcell => decide
  case hkind => rfl
  case hnames => decide
  case hx => rfl
  case hx2 => rfl
  case hxx => decide
  case hd => decide
  case hs => intro _; rfl
  case hit => intro Q' hq'; k_steps; exact hq'
  intro D1 h1 tk1 us1 F1 N1 l3 iS1
  have l4 := l3 (d, oD) (.head _)
  k_steps
  show wpAny _ _ _ _ _ _
  rename IsRange _ _ _ _ _ _ _ _ => hr
  rename Fr _ _ _ _ => F2
  rename News _ _ _ _ => N2
  rename IsDeck _ _ _ _ => hD2
  rename IntsAre _ (_ ++ _) => iP
  rename_i _ _ _ Dp ws _ q2 Df _ q1 _ _ q0 _ _ _ _ _ oD2 r _ _ _ hr1 hr2 _ _ _ _ _ hk
  obtain ⟨k, hk1, hk2⟩ : ∃ k : Nat, 1 + r = k ∧ k ≤ 3 := ⟨(1 + r).toNat, by omega, by omega⟩
  refine iter_range_x (n := k) (news := [(Dp, listOf (List.toArray ws) 0), (d, oD2)]) (ext₀ := [(Df, listOf #[] 0)])
    (fun i m news ext => m (Str.ofString "deck") = some (.ref d) ∧ m (Str.ofString "pool") = some (.ref Dp) ∧ ∃ o' Df fs ns k, news = [(Dp, listOf (List.toArray ws) 0), (d, o')] ∧ ext = [(Df, listOf (List.toArray fs) k)] ∧ m (Str.ofString "found") = some (.ref Df) ∧ IsDeck w o' c (n + 1 + (i : Nat)) ∧ IntsAre fs ns ∧ ns.length ≤ i ∧ ∀ k ∈ ns, k ∈ poolL)
    rfl hr hk1 (by omega) F2 (fun p hp => N2 p ?_) ?_ ?_ ⟨rfl, rfl, oD2, Df, [], [], 0, rfl, rfl, rfl, by simpa using hD2, .nil, Nat.le_refl _, fun _ h => nomatch h⟩ ?_ ?_
  · rcases List.mem_cons.mp hp with rfl | hp
    · k_mem
    rcases List.mem_cons.mp hp with rfl | hp
    · k_mem
    rcases List.mem_cons.mp hp with rfl | hp
    · k_mem
    cases hp
  · refine ownOff_cons ?_ (fun _ h => nomatch h)
    refine List.forall_mem_cons.mpr ⟨Nat.ne_of_gt q1.1, List.forall_mem_cons.mpr ⟨Nat.ne_of_gt q1.2.2.2, List.forall_mem_nil _⟩⟩
  · exact List.forall_mem_cons.mpr ⟨type_ne rfl, List.forall_mem_nil _⟩
  · rintro i m₁ news₁ ext h tk own ti hi' ha ho hcl ⟨hm1, hm2, o', Df', fs, ns, kk, rfl, rfl, hm3, hD', iF, hlen, hpool⟩ F3 N3
    simp only [List.cons_append, List.nil_append] at N3
    simp only [List.map_cons, List.map_nil] at ho
    have e1 : (@Ne Nat Dp d) := Nat.ne_of_gt q2.2.2
    have e2 : (@Ne Nat Df' Dp) := ho _ (.head _) _ (.head _)
    have e3 : (@Ne Nat Df' d) := ho _ (.head _) _ (.tail _ (.head _))
    clear F2 N2
    k_steps
    · rename Fr _ _ _ _ => F6
      rename News _ _ _ _ => N6
      rename IsDeck _ _ _ _ => hD6
      rename IntsAre _ (_ ++ _) => iF6
      rename _ ∈ poolL => hk6
      rename _ ∧ _ ∧ _ ∧ _ ∧ AllLt _ _ => lt
      refine' InvEndX.intro (ext := [headOf N6]) (nx := [thirdOf N6, fourthOf N6]) F6 N6 ?hj ?ha ?hn ?he ?ho ?hoff ?hc
      case hj =>
        refine ⟨hm1, hm2, _, _, _, _, _, rfl, rfl, rfl, ?_, iF6, ?_, ?_⟩
        · rw [show n + 1 + ((i + 1 : Nat) : Int) = n + 1 + (i : Int) + 1 by omega]; exact hD6
        · simp only [List.length_append, List.length_cons, List.length_nil]; omega
        · intro q hq
          rcases List.mem_append.mp hq with hq | hq
          · exact hpool q hq
          · cases hq
      case ha => rfl
      case hn => k_allIn
      case he => exact List.forall_mem_cons.mpr ⟨.head _, List.forall_mem_nil _⟩
      case ho => walk_at "memext"
      case hoff =>
        refine ownOff_cons ?_ (fun _ h => nomatch h)
        exact List.forall_mem_cons.mpr ⟨Nat.ne_of_gt lt.2.1, List.forall_mem_cons.mpr ⟨Nat.ne_of_gt lt.2.2.1, List.forall_mem_nil _⟩⟩
      case hc => exact List.forall_mem_cons.mpr ⟨type_ne rfl, List.forall_mem_nil _⟩
    · rename Fr _ _ _ _ => F6
      rename News _ _ _ _ => N6
      rename IsDeck _ _ _ _ => hD6
      rename IntsAre _ (_ ++ _) => iF6
      rename _ ∈ poolL => hk6
      rename _ ∧ _ ∧ _ ∧ _ ∧ AllLt _ _ => lt
      refine' InvEndX.intro (ext := [headOf N6]) (nx := [thirdOf N6, fourthOf N6]) F6 N6 ?hj ?ha ?hn ?he ?ho ?hoff ?hc
      case hj =>
        refine ⟨hm1, hm2, _, _, _, _, _, rfl, rfl, rfl, ?_, iF6, ?_, ?_⟩
        · rw [show n + 1 + ((i + 1 : Nat) : Int) = n + 1 + (i : Int) + 1 by omega]; exact hD6
        · simp only [List.length_append, List.length_cons, List.length_nil]; omega
        · intro q hq
          rcases List.mem_append.mp hq with hq | hq
          · exact hpool q hq
          · rw [List.mem_singleton.mp hq]; exact hk6
      case ha => rfl
      case hn => k_allIn
      case he => exact List.forall_mem_cons.mpr ⟨.head _, List.forall_mem_nil _⟩
      case ho => walk_at "memext"
      case hoff =>
        refine ownOff_cons ?_ (fun _ h => nomatch h)
        exact List.forall_mem_cons.mpr ⟨Nat.ne_of_gt lt.2.1, List.forall_mem_cons.mpr ⟨Nat.ne_of_gt lt.2.2.1, List.forall_mem_nil _⟩⟩
      case hc => exact List.forall_mem_cons.mpr ⟨type_ne rfl, List.forall_mem_nil _⟩
  · rintro m₁ news₁ ext h tk ⟨hm1, hm2, o', Df', fs, ns, kk, rfl, rfl, hm3, hD', iF, hlen, hpool⟩ _ ho hcl F3 N3
    simp only [List.cons_append, List.nil_append] at N3
    have e3 : (@Ne Nat Df' d) := ho _ (.head _) _ (.tail _ (.head _))
    clear F2 N2
    k_steps
    rename Fr _ _ _ _ => F6
    rename News _ _ _ _ => N6
    exact hR _ _ _ _ _ _ _ _ (part_of F6) (has_of N6 (by k_allIn)) e3 hD' (by omega) (by omega) iF hpool (by omega)
end
section
variable {w : World} {A : Around} {E : Value → Shared → Prop} {s : Shared} {h₀ : Heap} {L : Addr} {m mg mb : Str → Option Value} {news : List (Addr × Obj)} {Q : Value → Shared → Prop}
theorem deck_list_off {d c b : Addr} {oD : Obj} {items : Array Value} {n : Int} {h : Heap} (hl : h.IsList b items) (hD : IsDeck w oD c n) (hm : h.get? d = some oD) : b ≠ d := by
  rintro rfl
  obtain ⟨oo, hoo, _, k, hk⟩ := hl
  obtain ⟨t, hD⟩ := hD
  rw [hoo] at hm
  rw [Option.some.inj hm] at hk
  exact isDict_no_seq hD _ _ hk
theorem numbers_K {G : Obj → List (Addr × Obj)} {d c : Addr} {oD : Obj} {vs : List Value} {n : Int} (hh : A.handled = none) (hd : A.depth ≤ 350) (hu : A.units ≤ 140)
    (F : Fr h₀ L s.heap m) (N : News h₀ L s.heap news) (T : TopAt w mg mb h₀) (U : UpdF d oD news G) (hD : IsDeck w oD c n) (hl : s.heap.IsList c vs.toArray) (hi : IsCells vs) (hn : 0 ≤ n) (hn' : n < 90000) (lo : (d == sysModules) = false)
    (h : ∀ h' tk o' n' D us ns mm, Fr h₀ L h' m → News h₀ L h' ((D, listOf (List.toArray us) mm) :: G o') → (∀ p ∈ news, @Ne Nat p.1 D) → IsDeck w o' c n' → n ≤ n' → n' ≤ n + 10 → IntsAre us ns → (∀ k ∈ ns, k ∈ poolL) → ns.length ≤ 3 → Q (.ref D) { s with heap := h', toks := tk }) : wpAny (model pg w) A (call (.ref 194) [.ref d]) Q E s := by
  have hmem : (d, oD) ∈ news := by obtain ⟨pre, post, rfl, _, _, _⟩ := U.split; exact List.mem_append_right _ (.head _)
  have hs : ∀ p ∈ [(d, oD)], p ∈ news := fun p hp => by rw [List.mem_singleton.mp hp]; exact hmem
  refine Under.wp (B := lv 4) (wpAny_call (law_numbers_code (via_top F N hs T) via_part (via_has N hs) hD (via_isList hl fun q => deck_list_off hl hD (N _ hmem).1 (List.mem_singleton.mp q)) hi hn hn' lo fun h' tk o' n' D us ns mm P H hne hD' h1 h2 hi' hp hz => ?_)) hh rfl rfl rfl hd hu
  have a1 := H (D, listOf (List.toArray us) mm) (.head _)
  have a2 := H (d, o') (.tail _ (.head _))
  exact h h' tk o' n' D us ns mm (via_fr F N hs P) (via_new F N hs (via_upd N hs U P (fun p hp hne => absurd (by rw [List.mem_singleton.mp hp]) hne) a2.1) a1.1 a1.2) (via_ne N a1.2 fun p hp => by rw [List.mem_singleton.mp hp]; exact Ne.symm hne) hD' h1 h2 hi' hp hz
end
end Mine
local macro_rules | `(tactic| walk_at "call ref") => `(tactic| (k_here; (with_reducible show wpAny _ _ (call (Value.ref 194) [Value.ref _]) _ _ _); (refine' Mine.numbers_K (by exact rfl) (by exact Nat.le_of_ble_eq_true rfl) (by exact Nat.le_of_ble_eq_true rfl) (by k_asm) (by k_asm) (by k_asm) (by k_updF) (by assumption) ?hl ?hi ?hn ?hn2 ?lo ?_; (case hl => first | exact News.isList (by k_asm) (by k_memK) | exact Mine.list_keeps (by assumption) (Fr.keep (by k_asm))); (case hi => assumption); (case hn | hn2 => omega); (case lo => assumption)); intro h' tk' o' n' D' us' ns' mm' F' N' l1 hD' hn1' hn2' iS' hp' hz'; (try dsimp only at N')))
namespace Mine
def Marker : Prop := True
theorem PairsIn.item {h : Heap} : ∀ {vs ps}, PairsIn h vs ps → ∀ i, i < ps.length → ∃ t k x tk tx, vs[i]? = some (.ref t) ∧ IsTup h t (List.toArray [.int k tk, .str x tx]) ∧ (k, x) ∈ ps
  | _, _, .nil, i, h => by simp at h
  | _, _, .cons (t := t) (k := k) (x := x) (tk := tk) (tx := tx) ht r, 0, h => ⟨t, k, x, tk, tx, rfl, ht, .head _⟩
  | _, _, .cons ht r, i + 1, h => by
    obtain ⟨t, k, x, tk, tx, a, b, c⟩ := r.item i (by simpa using h)
    exact ⟨t, k, x, tk, tx, a, b, .tail _ c⟩
theorem pair_item {w : World} {A : Around} {E : Value → Shared → Prop} {s : Shared} {g : Heap} {value slice : Expr} {l : Addr} {vs : List Value} {ps : List (Int × Str)} {r b : Int} {u : Tok} {Q : Value → Shared → Prop} (hl : s.heap.IsList l vs.toArray) (hp : PairsIn g vs ps)
    (h0 : 0 ≤ r) (h1 : r < b) (hb : b ≤ ps.length) (hb2 : b ≤ 1000) (h : ∀ t k x tk tx, IsTup g t (List.toArray [.int k tk, .str x tx]) → (k, x) ∈ ps → Q (.ref t) s)
    (hs : subscripted slice false (.ref l) (.int r u) = operate [.ref l, .int r u] (getItem (.ref l) (.int r u)) := by with_unfolding_all rfl) :
    wpAny (model pg w) A (subscriptTail value slice (.ref l) (.int r u)) Q E s := by
  obtain ⟨t, k, x, tk, tx, a, b', c⟩ := hp.item r.toNat (by omega)
  exact item_listR hl h0 (by omega) (by simpa using a) (h t k x tk tx b' c) hs
theorem mem_of_look {ws : List (Int × Str)} {n : Int} {x : Str} (h : look ws n = some x) : (n, x) ∈ ws := by
  unfold look at h
  obtain ⟨p, hp, e⟩ := Option.map_eq_some_iff.mp h
  have h1 : p.1 = n := by simpa using List.find?_some hp
  have h2 := List.mem_of_find?_eq_some hp
  rw [← h1, ← e]; exact h2
structure Known (b : Bool) (k : Int) (x : Str) : Prop where
  word : look (tabOf b) k = some x
  only : ∀ n' b', Found x n' b' → n' = k ∧ b' = b
theorem known_T {k : Int} {x : Str} (h : (k, x) ∈ poolP) : Known true k x := by
  have e1 : ∀ p ∈ poolP, look tabT p.1 = some p.2 := by decide +kernel
  have e2 : ∀ p ∈ poolP, ∀ q ∈ tabT, q.2 = p.2 → q.1 = p.1 := by decide +kernel
  have e3 : ∀ p ∈ poolP, ∀ q ∈ tabF, q.2 ≠ p.2 := by decide +kernel
  refine ⟨e1 _ h, fun n' b' hf => ?_⟩
  have hm := mem_of_look hf.1
  cases b' with
  | true => exact ⟨e2 _ h _ hm rfl, rfl⟩
  | false => exact (e3 (k, x) h (n', x) hm rfl).elim
theorem known_O {k : Int} {x : Str} (h : (k, x) ∈ poolO) : Known false k x := by
  have e1 : ∀ p ∈ poolO, look tabF p.1 = some p.2 := by decide +kernel
  have e2 : ∀ p ∈ poolO, ∀ q ∈ tabF, q.2 = p.2 → q.1 = p.1 := by decide +kernel
  refine ⟨e1 _ h, fun n' b' hf => ?_⟩
  have hm := mem_of_look hf.1
  cases b' with
  | true => exact absurd (e1 _ h) (hf.2 rfl k)
  | false => exact ⟨e2 _ h _ hm rfl, rfl⟩
def neverL : List Int := [1, 5, 7, 10, 11, 13, 16, 19]
theorem never_rep {st : List (Str × Bool)} {k : Int} (h : k ∈ neverL) : reportOf st k false = 4 := by
  have e : ∀ k ∈ neverL, look (tabOf false) k = none ∧ nFixed.any (· == k) = true := by decide +kernel
  unfold reportOf
  rw [(e k h).1, (e k h).2]; rfl
theorem none_rep {st : List (Str × Bool)} {b : Bool} : reportOf st 3333 b = 0 := by
  have e : ∀ b, look (tabOf b) 3333 = none := by decide +kernel
  have e2 : nFixed.any (· == 3333) = false := by decide +kernel
  unfold reportOf
  rw [e b, e2]
  simp
theorem known_rep {st : List (Str × Bool)} {ys : List Str} {k : Int} {x : Str} {b : Bool} (h : Known b k x) (hA : Agree st ys) : reportOf st k b = if ys.any (· == x) = true then 1 else 2 := by
  unfold reportOf
  rw [h.word]
  dsimp only
  rw [hA.1 x]
theorem known_rep1 {st : List (Str × Bool)} {ys : List Str} {k : Int} {x : Str} {b : Bool} (h : Known b k x) (hA : Agree st ys) (hy : ys.any (· == x) = true) : reportOf st k b = 1 := by rw [known_rep h hA, if_pos hy]
theorem known_rep2 {st : List (Str × Bool)} {ys : List Str} {k : Int} {x : Str} {b : Bool} (h : Known b k x) (hA : Agree st ys) (hy : ys.any (· == x) = false) : reportOf st k b = 2 := by rw [known_rep h hA, hy, if_neg Bool.false_ne_true]
theorem no_none : ∀ (n : Int) (b : Bool), look (tabOf b) n ≠ some (Str.ofString "none") := fun n b h => by
  have e : ∀ b, ∀ q ∈ tabOf b, q.2 ≠ Str.ofString "none" := by decide +kernel
  exact e b _ (mem_of_look h) rfl
section
variable {w : World} {A : Around} {E : Value → Shared → Prop} {s : Shared} {h₀ : Heap} {L : Addr} {m mg mb : Str → Option Value} {news : List (Addr × Obj)} {Q : Value → Shared → Prop}
theorem word_some_K {n : Int} {u : Tok} {b : Bool} {x : Str} (hh : A.handled = none) (hd : A.depth ≤ 380) (hu : A.units ≤ 230)
    (F : Fr h₀ L s.heap m) (N : News h₀ L s.heap news) (T : TopAt w mg mb h₀) (hw : Known b n x)
    (h : ∀ h' tk t, Fr h₀ L h' m → News h₀ L h' news → Q (.str x t) { s with heap := h', toks := tk }) : wpAny (model pg w) A (call (.ref 34) [.int n u, .bool b]) Q E s :=
  word_K hh hd hu F N T (fun h' tk x' t e F' N' => by rw [hw.word] at e; cases e; exact h h' tk t F' N') (fun h' tk e => by rw [hw.word] at e; cases e)
theorem word_none_K {u : Tok} {b : Bool} (hh : A.handled = none) (hd : A.depth ≤ 380) (hu : A.units ≤ 230)
    (F : Fr h₀ L s.heap m) (N : News h₀ L s.heap news) (T : TopAt w mg mb h₀)
    (h : ∀ h' tk, Fr h₀ L h' m → News h₀ L h' news → Q .none { s with heap := h', toks := tk }) : wpAny (model pg w) A (call (.ref 34) [.int 3333 u, .bool b]) Q E s := by
  have e0 : ∀ b, look (tabOf b) 3333 = none := by decide +kernel
  exact word_K hh hd hu F N T (fun h' tk x' t e F' N' => by rw [e0 b] at e; cases e) (fun h' tk e F' N' => h h' tk F' N')
theorem number_known_K {k : Str} {u : Tok} {n : Int} {b : Bool} (hh : A.handled = none) (hd : A.depth ≤ 380) (hu : A.units ≤ 230)
    (F : Fr h₀ L s.heap m) (N : News h₀ L s.heap news) (T : TopAt w mg mb h₀) (hw : Known b n k)
    (h : ∀ h' tk a t, Fr h₀ L h' m → News h₀ L h' ((a, { cls := .type "tuple", data := .seq #[.int n t, .bool b] }) :: news) → (∀ p ∈ news, @Ne Nat p.1 a) → Q (.ref a) { s with heap := h', toks := tk }) : wpAny (model pg w) A (call (.ref 41) [.str k u]) Q E s :=
  number_K hh hd hu F N T hw.only hw.word h
theorem in_known {a : Addr} {us : List Value} {ys : List Str} {x : Str} {t : Tok} {b : Bool} (hl : s.heap.IsList a us.toArray) (hi : StrsAre us ys) (hy : ys.any (· == x) = b) (h : Q (.bool b) s) : wpAny (model pg w) A (compareOp .In (.str x t) (.ref a)) Q E s := by
  subst hy
  exact in_list_strs hl hi h
theorem ne_str_same {x : Str} {t u : Tok} (h : Q (.bool false) s) : wpAny (model pg w) A (compareOp .NotEq (.str x t) (.str x u)) Q E s := by
  refine ne_str ?_
  rw [show (x != x) = false from bne_self_eq_false x]
  exact h
theorem tup_same {a : Addr} {o : Obj} {items : Array Value} {n : Nat} (N : News h₀ L s.heap news) (hm : (a, o) ∈ news) (hc : o.cls = .type "tuple") (hd : o.data = .seq items n) (h : Q (.ref a) s) : wpAny (model pg w) A (call (.type "tuple") [.ref a]) Q E s :=
  call_tuple_tup ⟨o, (N _ hm).1, hc, n, hd⟩ h
theorem ne_pair_same {a b : Addr} {oa ob : Obj} {n : Int} {t u : Tok} {q : Bool} {ka kb : Nat} (N : News h₀ L s.heap news) (hm : (a, oa) ∈ news) (hc : oa.cls = .type "tuple") (hd : oa.data = .seq (List.toArray [.int n t, .bool q]) ka)
    (hm2 : (b, ob) ∈ news) (hc2 : ob.cls = .type "tuple") (hd2 : ob.data = .seq (List.toArray [.int n u, .bool q]) kb) (hu : A.units + 64 < cLine) (h : Q (.bool false) s) : wpAny (model pg w) A (compareOp .NotEq (.ref a) (.ref b)) Q E s := by
  refine ne_dataH (.tuple (N _ hm).1 hc hd (.cons (.int _ _) (.cons (.bool _) .nil))) (.tuple (N _ hm2).1 hc2 hd2 (.cons (.int _ _) (.cons (.bool _) .nil))) rfl rfl hu ?_
  simp only [PyData.eqv, PyData.eqvAll, beq_self_eq_true, Bool.and_true, Bool.not_true]
  simpa using h
theorem never_item {value slice : Expr} {l : Addr} {vs : List Value} {r : Int} {u : Tok} (hl : s.heap.IsList l vs.toArray) (hi : IntsAre vs neverL)
    (h0 : 0 ≤ r) (h1 : r < 8) (h : ∀ k t, k ∈ neverL → Q (.int k t) s)
    (hs : subscripted slice false (.ref l) (.int r u) = operate [.ref l, .int r u] (getItem (.ref l) (.int r u)) := by with_unfolding_all rfl) :
    wpAny (model pg w) A (subscriptTail value slice (.ref l) (.int r u)) Q E s := by
  refine item_list_intsR hl hi h0 (by rw [show neverL.length = 8 from rfl]; omega) (by omega) (fun t => h _ t ?_) hs
  have e : r.toNat < neverL.length := by rw [show neverL.length = 8 from rfl]; omega
  rw [List.getD_eq_getElem?_getD, List.getElem?_eq_getElem e]
  exact List.getElem_mem e
end
section
local macro_rules | `(tactic| walk_at "subscriptTail") => `(tactic| (k_here; (with_reducible show wpAny _ _ (subscriptTail _ _ (Value.ref _) (Value.int _ _)) _ _ _); k_dflt (refine' Mine.pair_item ?hl ?hp ?h0 ?h1 ?hb ?hb2 ?_ ?hs; (case hl => exact Mine.list_keeps (by assumption) (Fr.keep (by k_asm))); (case hp | h0 | h1 => assumption); (case hb => decide +kernel); (case hb2 => decide); (case hs => with_unfolding_all rfl)); intro t' k' x' tk' tx' hT' hM'; refine Mine.Stop.out ?_))
local macro_rules | `(tactic| walk_at "compareOp Eq int int") => `(tactic| (k_here; (rename Mine.Marker => hmk); refine Mine.Stop.out ?_))
local macro_rules | `(tactic| walk_at "call ref") => `(tactic| (k_here; (with_reducible show wpAny _ _ (call (Value.ref 34) [Value.int _ _, Value.bool _]) _ _ _); (first
  | ((refine' Mine.word_none_K (by exact rfl) (by exact Nat.le_of_ble_eq_true rfl) (by exact Nat.le_of_ble_eq_true rfl) (by k_asm) (by k_asm) (by k_asm) ?_); intro h' tk' F' N')
  | ((refine' Mine.word_some_K (by exact rfl) (by exact Nat.le_of_ble_eq_true rfl) (by exact Nat.le_of_ble_eq_true rfl) (by k_asm) (by k_asm) (by k_asm) (by assumption) ?_); intro h' tk' t' F' N'))))
local macro_rules | `(tactic| walk_at "call ref") => `(tactic| (k_here; (with_reducible show wpAny _ _ (call (Value.ref 41) [Value.str _ _]) _ _ _); (first
  | ((refine' Mine.number_known_K (by exact rfl) (by exact Nat.le_of_ble_eq_true rfl) (by exact Nat.le_of_ble_eq_true rfl) (by k_asm) (by k_asm) (by k_asm) (by assumption) ?_); intro h' tk' a' t' F' N' l1; (simp only [List.forall_mem_cons, List.forall_mem_nil, and_true] at l1); (walk_at "splits"))
  | ((refine' Mine.number_none_K (by exact rfl) (by exact Nat.le_of_ble_eq_true rfl) (by exact Nat.le_of_ble_eq_true rfl) (by k_asm) (by k_asm) (by k_asm) ?hf ?_; (case hf => exact Mine.no_none)); intro h' tk' F' N'))))
local macro_rules | `(tactic| walk_at "call ref") => `(tactic| (k_here; (with_reducible show wpAny _ _ (call (Value.ref 90) [Value.ref _, Value.int _ _, Value.bool _]) _ _ _); (refine' Mine.report_K _ (by exact rfl) (by exact Nat.le_of_ble_eq_true rfl) (by exact Nat.le_of_ble_eq_true rfl) (by k_asm) (by k_asm) (by k_asm) (by k_allIn) (by k_asm) (by k_asm) ?hr ?_; (case hr => first | exact Mine.none_rep | exact Mine.never_rep (by assumption) | exact Mine.known_rep1 (by assumption) (by assumption) (by assumption) | exact Mine.known_rep2 (by assumption) (by assumption) (by assumption))); intro h' tk' t' F' N'))
local macro_rules | `(tactic| walk_at "compareOp In str ref") => `(tactic| (k_here; (with_reducible show wpAny _ _ (compareOp CmpOp.In (Value.str _ _) (Value.ref _)) _ _ _); k_dflt (refine' Mine.in_known ?hl ?hi ?hy ?_; (case hl => exact Mine.list_keeps (by assumption) (Fr.keep (by k_asm))); (case hi | hy => assumption))))
local macro_rules | `(tactic| walk_at "compareOp NotEq str str") => `(tactic| (k_here; refine Mine.ne_str_same ?_))
local macro_rules | `(tactic| walk_at "call type:tuple") => `(tactic| (k_here; k_dflt (refine' Mine.tup_same (by k_asm) (by k_mem) (by exact rfl) (by exact rfl) ?_)))
local macro_rules | `(tactic| walk_at "compareOp NotEq ref ref") => `(tactic| (k_here; k_dflt (refine' Mine.ne_pair_same (by k_asm) (by k_mem) (by exact rfl) (by exact rfl) (by k_mem) (by exact rfl) (by exact rfl) (by exact Nat.le_of_ble_eq_true rfl) ?_)))
local macro_rules | `(tactic| walk_at "subscriptTail") => `(tactic| (k_here; (with_reducible show wpAny _ _ (subscriptTail _ _ (Value.ref _) (Value.int _ _)) _ _ _); k_dflt (refine' Mine.never_item ?hl ?hi ?h0 ?h1 ?_ ?hs; (case hl => exact News.isList (by k_asm) (by k_mem)); (case hi => exact IntsAre.cons _ _ (.cons _ _ (.cons _ _ (.cons _ _ (.cons _ _ (.cons _ _ (.cons _ _ (.cons _ _ .nil)))))))); (case h0 | h1 => assumption); (case hs => with_unfolding_all rfl)); intro k' t' hM'))
local macro_rules | `(tactic| walk_at "ite") => `(tactic| first
  | ((with_reducible show ite (((1 : Int) != 1) = true) _ _); rw [if_neg (show ¬ (((1 : Int) != 1) = true) by decide)])
  | ((with_reducible show ite (((2 : Int) != 2) = true) _ _); rw [if_neg (show ¬ (((2 : Int) != 2) = true) by decide)]))
theorem reports_code {w : World} {s : Shared} {g : Heap} {mg mb : Str → Option Value} {R : Result → Shared → Prop} {x dx sd kd d c a : Addr} {oS oK oD : Obj} {st kp : List (Str × Bool)} {ta tb : Tok} {vs us : List Value} {n : Int} {ys : List Str}
    (T : TopAt w mg mb g) (P : Part g s.heap) (N : Has g s.heap ((d, oD) :: ledM w x dx sd kd ta tb oS oK)) (hne : ∀ p ∈ ledM w x dx sd kd ta tb oS oK, @Ne Nat p.1 d)
    (hS : IsSt w oS st) (hK : IsSt w oK kp) (ne : NeM x dx sd kd) (hD : IsDeck w oD c n) (hl : g.IsList c vs.toArray) (hi : IsCells vs) (hn : 0 ≤ n) (hn' : n < 90000) (lo : (d == sysModules) = false)
    (hla : g.IsList a us.toArray) (hia : StrsAre us ys) (hA : Agree st ys)
    (hR : ∀ h' tk o' n', Part g h' → Has g h' ((d, o') :: ledM w x dx sd kd ta tb oS oK) → IsDeck w o' c n' → n ≤ n' → n' ≤ n + 10 → R (.ok (.ret (.bool true))) { s with heap := h', toks := tk }) :
    codeAny (model pg w) (lv 3) (.call (.ref 211) ⟨[.ref d, .ref x, .ref a], []⟩) R s := by
  have X := T.X
  have TT := T.T
  have ⟨n1, n2, n3, n4, n5, n6, lo1, lo2⟩ := ne
  have q1 := hne (x, _) (.head _)
  have q2 := hne (dx, _) (.tail _ (.head _))
  have q3 := hne (sd, _) (.tail _ (.tail _ (.head _)))
  have q4 := hne (kd, _) (.tail _ (.tail _ (.tail _ (.head _))))
  have MK : Marker := True.intro
  obtain ⟨v163, h163, i163⟩ := t163 T
  obtain ⟨v168, h168, i168⟩ := t168 T
  refine enter T P N (by decide) (f := 211) (by k_is) (by k_is) (BindsTo.of_eq rfl) (locs rfl) ?_
  intro L h₁ tk₁ F N' l1 l2
  try (k_lt l1)
  dsimp only [ledM, mdict] at N'
  dsimp only [IsSt] at hS hK
  try dsimp only
  try k_fold
  k_steps
  show wpAny _ _ _ _ _ _
  rename Marker => MK
  clear MK
  rename _ < (2 : Int) => hr2
  rename (0 : Int) ≤ _ => hr1
  rename_i r _ _ _ _
  obtain hr | hr : r = 0 ∨ r = 1 := by omega
  · subst hr
    k_steps
    show wpAny _ _ _ _ _ _
    rename (_, _) ∈ poolP => hM
    have hKn := known_T hM
    rename_i x0 _ _ _
    cases hy : ys.any (· == x0) with
    | true =>
      k_steps
      rename Fr _ _ _ _ => F6
      rename News _ _ _ _ => N6
      rename IsDeck _ _ _ _ => hD6
      exact hR _ _ _ _ (part_of F6) (has_of N6 (by dsimp only [ledM, mdict]; k_allIn)) hD6 (by omega) (by omega)
    | false =>
      k_steps
      rename Fr _ _ _ _ => F6
      rename News _ _ _ _ => N6
      rename IsDeck _ _ _ _ => hD6
      exact hR _ _ _ _ (part_of F6) (has_of N6 (by dsimp only [ledM, mdict]; k_allIn)) hD6 (by omega) (by omega)
  · subst hr
    k_steps
    show wpAny _ _ _ _ _ _
    rename (_, _) ∈ poolO => hM
    have hKn := known_O hM
    rename_i x0 _ _ _
    cases hy : ys.any (· == x0) with
    | true =>
      k_steps
      rename Fr _ _ _ _ => F6
      rename News _ _ _ _ => N6
      rename IsDeck _ _ _ _ => hD6
      exact hR _ _ _ _ (part_of F6) (has_of N6 (by dsimp only [ledM, mdict]; k_allIn)) hD6 (by omega) (by omega)
    | false =>
      k_steps
      rename Fr _ _ _ _ => F6
      rename News _ _ _ _ => N6
      rename IsDeck _ _ _ _ => hD6
      exact hR _ _ _ _ (part_of F6) (has_of N6 (by dsimp only [ledM, mdict]; k_allIn)) hD6 (by omega) (by omega)
end
section
variable {w : World} {A : Around} {E : Value → Shared → Prop} {s : Shared} {h₀ : Heap} {L : Addr} {m mg mb : Str → Option Value} {news : List (Addr × Obj)} {Q : Value → Shared → Prop}
theorem reports_K {G : Obj → List (Addr × Obj)} {x dx sd kd d c a : Addr} {oS oK oD : Obj} {st kp : List (Str × Bool)} {ta tb : Tok} {vs us : List Value} {n : Int} {ys : List Str} (hh : A.handled = none) (hd : A.depth ≤ 340) (hu : A.units ≤ 110)
    (F : Fr h₀ L s.heap m) (N : News h₀ L s.heap news) (T : TopAt w mg mb h₀) (U : UpdF d oD news G) (hs1 : ∀ p ∈ ledM w x dx sd kd ta tb oS oK, p ∈ news) (hne : ∀ p ∈ ledM w x dx sd kd ta tb oS oK, @Ne Nat p.1 d)
    (hS : IsSt w oS st) (hK : IsSt w oK kp) (ne : NeM x dx sd kd) (hD : IsDeck w oD c n) (hl : s.heap.IsList c vs.toArray) (hi : IsCells vs) (hn : 0 ≤ n) (hn' : n < 90000) (lo : (d == sysModules) = false)
    (hla : s.heap.IsList a us.toArray) (hia : StrsAre us ys) (hA : Agree st ys)
    (h : ∀ h' tk o' n', Fr h₀ L h' m → News h₀ L h' (G o') → IsDeck w o' c n' → n ≤ n' → n' ≤ n + 10 → Q (.bool true) { s with heap := h', toks := tk }) : wpAny (model pg w) A (call (.ref 211) [.ref d, .ref x, .ref a]) Q E s := by
  have hmem : (d, oD) ∈ news := by obtain ⟨pre, post, rfl, _, _, _⟩ := U.split; exact List.mem_append_right _ (.head _)
  have hs : ∀ p ∈ (d, oD) :: ledM w x dx sd kd ta tb oS oK, p ∈ news := List.forall_mem_cons.mpr ⟨hmem, hs1⟩
  have off : ∀ b items, s.heap.IsList b items → (b ≠ d) → b ∉ ((d, oD) :: ledM w x dx sd kd ta tb oS oK).map (·.1) := fun b items hb hbd q => by
    rcases List.mem_cons.mp q with q | q
    · exact hbd q
    · exact ledM_list_off hb (fun p hp => (N p (hs1 p hp)).1) hS hK q
  refine Under.wp (B := lv 3) (wpAny_call (reports_code (via_top F N hs T) via_part (via_has N hs) hne hS hK ne hD (via_isList hl (off _ _ hl (deck_list_off hl hD (N _ hmem).1))) hi hn hn' lo (via_isList hla (off _ _ hla (deck_list_off hla hD (N _ hmem).1))) hia hA fun h' tk o' n' P H hD' h1 h2 => h h' tk o' n' (via_fr F N hs P)
    (via_upd N hs U P (fun p hp hne' => ?_) (H (d, o') (.head _)).1) hD' h1 h2)) hh rfl rfl rfl hd hu
  rcases List.mem_cons.mp hp with rfl | hp
  · exact absurd rfl hne'
  · exact (H p (.tail _ hp)).1
end
end Mine
local macro_rules | `(tactic| walk_at "call ref") => `(tactic| (k_here; (with_reducible show wpAny _ _ (call (Value.ref 211) [Value.ref _, Value.ref _, Value.ref _]) _ _ _); (refine' Mine.reports_K (by exact rfl) (by exact Nat.le_of_ble_eq_true rfl) (by exact Nat.le_of_ble_eq_true rfl) (by k_asm) (by k_asm) (by k_asm) (by k_updF) (by k_allIn) (by k_all) (by k_asm) (by k_asm) (by k_asm) (by assumption) ?hl ?hi ?hn ?hn2 ?lo ?hla ?hia ?hA ?_; (case hl => exact News.isList (by k_asm) (by k_memK)); (case hi => assumption); (case hn | hn2 => omega); (case lo => assumption); (case hla => exact News.isList (by k_asm) (by k_mem)); (case hia | hA => assumption)); intro h' tk' o' n' F' N' hD' hn1' hn2'; (try dsimp only at N')))
namespace Mine
section
variable {M : Model} {A : Around} {E : Value → Shared → Prop} {s : Shared} {K : Frag} {h₀ : Heap} {L C : Addr} {m mg mb : Str → Option Value} {scope : Scope} {cl : List (Str × Addr)} {env : Env} {p : Program} {loose : List Str} {x : Str} {pos : Pos} {v : Value} {Q : Value → Shared → Prop}
theorem comp_glob (F : Fr h₀ L s.heap m) (X : K.In h₀) (T : TopRead p loose mg mb h₀) (e : nsIn K mainGlobals x = some (some v)) (h : Q v s) (hg : env.globals = mainGlobals := by rfl)
    (hk : (compEnvC scope cl C env).scope.kind = .function := by rfl) (hx : (compEnvC scope cl C env).kindOf x = some .globalImplicit := by rfl) (hd : (x == ("__debug__" : Str)) = false := by decide) :
    wpAny M A (eval (.Name x pos) (compEnvC scope cl C env)) Q E s :=
  Name_function_global hk hx (loadGlobal_global (env := compEnvC scope cl C env) (show s.heap.Ns env.globals mg from hg ▸ T.g.keeps F.keep) (mg_of X T.g e) h) hd
theorem comp_built (F : Fr h₀ L s.heap m) (X : K.In h₀) (T : TopRead p loose mg mb h₀) (e : nsIn K mainGlobals x = some none) (hv : bootBuiltins x = some v) (hn : x ≠ "__name__") (h : Q v s) (hg : env.globals = mainGlobals := by rfl) (hb : env.builtins = builtinsNs := by rfl)
    (hk : (compEnvC scope cl C env).scope.kind = .function := by rfl) (hx : (compEnvC scope cl C env).kindOf x = some .globalImplicit := by rfl) (hd : (x == ("__debug__" : Str)) = false := by decide) :
    wpAny M A (eval (.Name x pos) (compEnvC scope cl C env)) Q E s :=
  Name_function_global hk hx (loadGlobal_builtin (env := compEnvC scope cl C env) (show s.heap.Ns env.globals mg from hg ▸ T.g.keeps F.keep) (mg_none_of X T.g e) (show s.heap.Ns env.builtins mb from hb ▸ T.b.keeps F.keep) ((T.builtins x hn).trans hv) h) hd
end
section
local macro_rules | `(tactic| walk_at "eval Name") => `(tactic| (k_here; (with_reducible show wpAny _ _ (eval (Expr.Name _ _) (compEnvC _ _ _ _)) _ _ _); k_dflt (first
  | refine Mine.comp_glob (by k_asm) (by k_asm) (by k_asm) (by k_is) ?_
  | refine Mine.comp_built (by k_asm) (by k_asm) (by k_asm) (by k_is) (by boot_by_name) (by decide) ?_)))
local macro_rules | `(tactic| walk_at "eval Dict") => `(tactic| (k_here; kdn_look; k_dflt (refine' kdn_str ?q ?F ?N ?b ?a ?l ?e ?n ?_; (case q => rfl); (case F => k_asm); (case N => first | k_asm | exact News.nil); (case b => exact TopRead.nolimit (by k_asm)); (case a | l => rfl); (case e => exact List.cons_ne_nil _ _); (case n => exact Nat.le_of_ble_eq_true rfl)); intro d' h' o' F' N' l1 lo' hd'; (try k_lt l1)))
theorem deck_code {w : World} {s : Shared} {g : Heap} {mg mb : Str → Option Value} {R : Result → Shared → Prop} {a : Addr} {vs : List Value} {ns : List Int}
    (T : TopAt w mg mb g) (P : Part g s.heap) (hl : g.IsList a vs.toArray) (hi : IntsAre vs ns) (hz : ns.length ≤ 63)
    (hR : ∀ h' tk d o c us k, Part g h' → Has g h' [(d, o), (c, listOf (List.toArray us) k)] → (@Ne Nat c d) → IsDeck w o c 0 → IsCells us → (d == sysModules) = false → R (.ok (.ret (.ref d))) { s with heap := h', toks := tk }) :
    codeAny (model pg w) (lv 4) (.call (.ref 177) ⟨[.ref a], []⟩) R s := by
  have X := T.X
  have TT := T.T
  have hlen := hi.length
  refine enter T P (news := []) (fun _ h => nomatch h) (by decide) (f := 177) (by k_is) (by k_is) (BindsTo.of_eq rfl) (locs rfl) ?_
  intro L h₁ tk₁ F N' l1 l2
  try dsimp only
  try k_fold
  k_steps
  show LCg.CompSrc _ _ _ _ _ _ _ _ _ _ _ _ _ _
  rename Fr _ _ _ _ => F2
  rename News _ _ _ _ => N2
  rename IntsAre _ (List.take 60 _) => iS
  rename Obj.IsDictOf _ _ _ => hd2
  rename_i d0 _ o0 lo0 _ D1 ws _ _ _ l3
  have hz2 : (List.take 60 ns).length ≤ 60 := by rw [List.length_take]; omega
  have hlen2 := iS.length
  refine LCg.CompSrc.ledger rfl F2 N2 (.head _) (by rw [List.size_toArray, sizeLine_eq]; omega) ?_
  intro g'
  refine rest_U (fun i ys nw => nw = [(D1, listOf (List.toArray ws) 0), (d0, o0)] ∧ ∃ cs, IntsAre ys cs ∧ cs.length = i) ⟨rfl, [], .nil, rfl⟩ ?_ ?_
  · rintro i v I oI C oC D m₂ ys nw h tk E' hi' hv ⟨rfl, cs, hy, hc⟩ hC hx F3 N3 off ne3
    obtain ⟨n, t, rfl, hn⟩ := intsAre_item iS i v (by simpa using hv)
    clear F2 N2
    k_steps
    walk_at "lcend"
    refine ⟨rfl, cs ++ [_], IntsAre.append hy (.cons _ _ .nil), by rw [List.length_append, hc]; rfl⟩
  · rintro ys nw ⟨rfl, cs, hy, hc⟩
    clear F2 N2
    k_steps
    rename Fr _ _ _ _ => F6
    rename News _ _ _ _ => N6
    rename Obj.IsDictOf _ _ _ => hd6
    rename _ ∧ _ => o1
    refine hR _ _ _ _ _ _ _ (part_of F6) (has_of N6 (by k_allIn)) ?_ ⟨_, hd6⟩ ⟨cs, hy, ?_⟩ lo0
    · exact Ne.symm o1.2
    · rw [hc, List.size_toArray]; omega
end
section
variable {w : World} {A : Around} {E : Value → Shared → Prop} {s : Shared} {h₀ : Heap} {L : Addr} {m mg mb : Str → Option Value} {news : List (Addr × Obj)} {Q : Value → Shared → Prop}
theorem deck_K {a : Addr} {vs : List Value} {ns : List Int} (hh : A.handled = none) (hd : A.depth ≤ 350) (hu : A.units ≤ 140)
    (F : Fr h₀ L s.heap m) (N : News h₀ L s.heap news) (T : TopAt w mg mb h₀) (hl : s.heap.IsList a vs.toArray) (hi : IntsAre vs ns) (hz : ns.length ≤ 63)
    (h : ∀ h' tk d o c us k, Fr h₀ L h' m → News h₀ L h' ((d, o) :: (c, listOf (List.toArray us) k) :: news) → (∀ p ∈ news, (@Ne Nat p.1 d) ∧ (@Ne Nat p.1 c)) → (@Ne Nat c d) → IsDeck w o c 0 → IsCells us → (d == sysModules) = false → Q (.ref d) { s with heap := h', toks := tk }) : wpAny (model pg w) A (call (.ref 177) [.ref a]) Q E s :=
  have hs : ∀ p ∈ ([] : List (Addr × Obj)), p ∈ news := fun _ h => nomatch h
  Under.wp (B := lv 4) (wpAny_call (deck_code (via_top F N hs T) via_part (via_isList0 hl) hi hz fun h' tk d o c us k P H hne e1 e2 e3 =>
    h h' tk d o c us k (via_fr F N hs P) (via_new F N hs (via_new F N hs (via_read N hs P fun _ h => nomatch h) (H _ (.tail _ (.head _))).1 (H _ (.tail _ (.head _))).2) (H _ (.head _)).1 (H _ (.head _)).2) (fun p hp => ⟨via_ne N (H (d, o) (.head _)).2 (fun _ h => nomatch h) p hp, via_ne N (H (c, listOf (List.toArray us) k) (.tail _ (.head _))).2 (fun _ h => nomatch h) p hp⟩) hne e1 e2 e3)) hh rfl rfl rfl hd hu
end
end Mine
local macro_rules | `(tactic| walk_at "eval Name") => `(tactic| (k_here; (with_reducible show wpAny _ _ (eval (Expr.Name _ _) (compEnvC _ _ _ _)) _ _ _); k_dflt (first
  | refine Mine.comp_glob (by k_asm) (by k_asm) (by k_asm) (by k_is) ?_
  | refine Mine.comp_built (by k_asm) (by k_asm) (by k_asm) (by k_is) (by boot_by_name) (by decide) ?_)))
local macro_rules | `(tactic| walk_at "call ref") => `(tactic| (k_here; (with_reducible show wpAny _ _ (call (Value.ref 177) [Value.ref _]) _ _ _); (refine' Mine.deck_K (by exact rfl) (by exact Nat.le_of_ble_eq_true rfl) (by exact Nat.le_of_ble_eq_true rfl) (by k_asm) (by k_asm) (by k_asm) ?hl ?hi ?hz ?_; (case hl => exact Mine.list_keeps (by assumption) (Fr.keep (by k_asm))); (case hi => assumption); (case hz => omega)); intro h' tk' d' o' c' us' k' F' N' l1 l2 hD' hC' lo'; (try simp only [List.forall_mem_cons, List.forall_mem_nil, and_true] at l1); (walk_at "splits")))
namespace Mine
section plain
def leS (a b : Str) : Prop := ltCps b.cps.toList a.cps.toList = false
theorem leS_iff {a b : Str} : leS a b ↔ ¬ b.cps.toList < a.cps.toList := by
  unfold leS; rw [ltCps_eq]; simp
theorem leS_trans {a b c : Str} (h1 : leS a b) (h2 : leS b c) : leS a c := by
  rw [leS_iff, List.not_lt] at *
  exact List.le_trans h1 h2
theorem leS_anti {a b : Str} (h1 : leS a b) (h2 : leS b a) : a = b := by
  rw [leS_iff, List.not_lt] at *
  have e : a.cps.toList = b.cps.toList := List.le_antisymm h1 h2
  cases a; cases b
  simp only [Str.mk.injEq] at *
  exact Array.toList_inj.mp e
theorem rising_pair : ∀ {l : List Str} {p : Str}, risingS p l = true → (∀ x ∈ l, leS p x) ∧ l.Pairwise leS
  | [], _, _ => ⟨(fun _ h => nomatch h), .nil⟩
  | x :: r, p, h => by
    simp only [risingS, Bool.and_eq_true, Bool.not_eq_true'] at h
    obtain ⟨h1, h2⟩ := rising_pair h.2
    refine ⟨fun y hy => ?_, List.pairwise_cons.mpr ⟨h1, h2⟩⟩
    rcases List.mem_cons.mp hy with rfl | hy
    · exact h.1
    · exact leS_trans h.1 (h1 y hy)
theorem sorted_pair {l : List Str} (h : sortedS l = true) : l.Pairwise leS := by
  cases l with
  | nil => exact .nil
  | cons x r => obtain ⟨h1, h2⟩ := rising_pair h; exact List.pairwise_cons.mpr ⟨h1, h2⟩
theorem sorted_of_pair {l : List Str} (h : l.Pairwise leS) : sortedS l = true := sortedS_of_pairwise l h
theorem sorted_filter {l : List Str} (p : Str → Bool) (h : sortedS l = true) : sortedS (l.filter p) = true := sorted_of_pair ((sorted_pair h).filter p)
/-- what the law's list `on` is, beside the states -/
structure Inv (st : List (Str × Bool)) (ys : List Str) : Prop where
  sorted : sortedS ys = true
  nodup : ys.Nodup
  mem : ∀ k, k ∈ ys ↔ (get st k).getD false = true
theorem get_mem {st : List (Str × Bool)} {k : Str} (h : (get st k).getD false = true) : k ∈ st.map (·.1) := by
  unfold get at h
  cases e : st.find? fun p => decide (p.1 = k) with
  | none => rw [e] at h; cases h
  | some p =>
    have h1 : p.1 = k := by simpa using List.find?_some e
    exact List.mem_map.mpr ⟨p, List.mem_of_find?_eq_some e, h1⟩
theorem Inv.agree {st : List (Str × Bool)} {ys : List Str} (h : Inv st ys) (hn : (st.map (·.1)).Nodup) : Agree st ys := by
  refine ⟨fun k => ?_, fun zs hz => ?_⟩
  · cases hk : (get st k).getD false with
    | true =>
      have := (h.mem k).mpr hk
      have e : (ys.any fun x => x == k) = true := List.any_eq_true.mpr ⟨k, this, beq_self_eq_true k⟩
      exact e.symm
    | false =>
      cases ha : ys.any (· == k) with
      | false => rfl
      | true =>
        obtain ⟨x, hx, he⟩ := List.any_eq_true.mp ha
        rw [eq_of_beq he, h.mem k, hk] at hx
        cases hx
  · obtain ⟨ns, hp, hs, rfl⟩ := hz
    have hnn : (ns.filter fun k => (get st k).getD false).Nodup := (hp.symm.nodup hn).filter _
    refine List.Perm.eq_of_pairwise (le := leS) (fun a b _ _ => leS_anti) (sorted_pair (sorted_filter _ hs)) (sorted_pair h.sorted) ((List.perm_ext_iff_of_nodup hnn h.nodup).mpr fun k => ?_)
    rw [List.mem_filter, h.mem k]
    exact ⟨fun x => x.2, fun x => ⟨hp.mem_iff.mpr (get_mem x), x⟩⟩
theorem get_offs (ws : List Str) : ∀ (st : List (Str × Bool)) (x : Str), get (offs st ws) x = if x ∈ ws then some false else get st x := by
  induction ws with
  | nil => intro st x; rfl
  | cons k r ih =>
    intro st x
    show get (offs (put st k false) r) x = _
    rw [ih, get_put]
    by_cases h1 : x ∈ r
    · rw [if_pos h1, if_pos (List.mem_cons_of_mem _ h1)]
    · by_cases h2 : x = k
      · rw [if_neg h1, if_pos h2, if_pos (by rw [h2]; exact List.mem_cons_self)]
      · rw [if_neg h1, if_neg h2, if_neg (by simp [h1, h2])]
theorem get_setM (st : List (Str × Bool)) (k : Str) (b : Bool) (x : Str) : (get (setM st k b) x).getD false = if x = k then b else if b = true ∧ x ∈ groupOf k then false else (get st x).getD false := by
  unfold setM
  rw [get_put]
  by_cases h : x = k
  · rw [if_pos h, if_pos h]; rfl
  · rw [if_neg h, if_neg h]
    cases b with
    | false => simp
    | true =>
      rw [if_pos rfl, get_offs]
      by_cases hg : x ∈ groupOf k
      · rw [if_pos hg, if_pos ⟨rfl, hg⟩]; rfl
      · rw [if_neg hg, if_neg (fun q => hg q.2)]
theorem mem_grp {k x : Str} : x ∈ grpL k ↔ x = k ∨ x ∈ groupOf k := by
  unfold grpL groupOf
  by_cases h1 : wMouse.any (· == k) = true
  · rw [if_pos h1, if_pos h1]
    refine ⟨.inr, fun h => h.elim (fun e => ?_) id⟩
    obtain ⟨y, hy, he⟩ := List.any_eq_true.mp h1
    rw [e, ← eq_of_beq he]; exact hy
  · rw [if_neg h1, if_neg h1]
    by_cases h2 : wCod.any (· == k) = true
    · rw [if_pos h2, if_pos h2]
      refine ⟨.inr, fun h => h.elim (fun e => ?_) id⟩
      obtain ⟨y, hy, he⟩ := List.any_eq_true.mp h2
      rw [e, ← eq_of_beq he]; exact hy
    · rw [if_neg h2, if_neg h2]
      simp
theorem any_mem {l : List Str} {x : Str} : (l.any (· == x)) = true ↔ x ∈ l := by
  rw [List.any_eq_true]
  exact ⟨fun ⟨y, hy, he⟩ => eq_of_beq he ▸ hy, fun h => ⟨x, h, beq_self_eq_true x⟩⟩
theorem any_not {l : List Str} {x : Str} : (!(l.any (· == x))) = true ↔ x ∉ l := by
  rw [Bool.not_eq_true', ← Bool.not_eq_true, any_mem]
theorem Inv.set {st : List (Str × Bool)} {ys zs : List Str} {k : Str} {b : Bool} (h : Inv st ys) (hz : SetL ys k b zs) : Inv (setM st k b) zs := by
  unfold SetL at hz
  cases b with
  | false =>
    rw [if_neg Bool.false_ne_true] at hz
    subst hz
    refine ⟨sorted_filter _ h.sorted, h.nodup.filter _, fun x => ?_⟩
    rw [List.mem_filter, get_setM, h.mem x]
    by_cases hx : x = k
    · subst hx; simp
    · rw [if_neg hx, if_neg (fun q => Bool.false_ne_true q.1)]
      simp [hx]
  | true =>
    rw [if_pos rfl] at hz
    obtain ⟨hs, hp⟩ := hz
    have hk : k ∉ ys.filter (fun y => !(grpL k).any (· == y)) := fun hm => by
      have := (List.mem_filter.mp hm).2
      rw [any_not] at this
      exact this (mem_grp.mpr (.inl rfl))
    have hnd : (ys.filter (fun y => !(grpL k).any (· == y)) ++ [k]).Nodup := by
      rw [List.nodup_append]
      refine ⟨h.nodup.filter _, by simp, fun a ha c hc e => ?_⟩
      rw [List.mem_singleton] at hc
      have e2 : a = k := e.trans hc
      exact hk (e2 ▸ ha)
    refine ⟨hs, hp.symm.nodup hnd, fun x => ?_⟩
    rw [hp.mem_iff, List.mem_append, List.mem_filter, List.mem_singleton, get_setM, h.mem x, any_not, mem_grp]
    by_cases hx : x = k
    · rw [if_pos hx]; simp [hx]
    · rw [if_neg hx]
      by_cases hg : x ∈ groupOf k
      · rw [if_pos ⟨rfl, hg⟩]; simp [hx, hg]
      · rw [if_neg (fun q => hg q.2)]; simp [hx, hg]
/-- the words of modes -/
def allW : List Str := wFirstOn ++ wSoftOff ++ wSoftFirst ++ wMouse ++ wCod ++ poolP.map (·.2) ++ poolO.map (·.2)
structure Wf (st : List (Str × Bool)) : Prop where
  nodup : (st.map (·.1)).Nodup
  sub : ∀ k ∈ st.map (·.1), k ∈ allW
theorem put_keys (st : List (Str × Bool)) (k : Str) (b : Bool) (x : Str) : x ∈ (put st k b).map (·.1) ↔ x = k ∨ x ∈ st.map (·.1) := by
  have e : ∀ (st : List (Str × Bool)) (x : Str), x ∈ st.map (·.1) ↔ (get st x).isSome = true := fun st x => by
    refine ⟨get_isSome, fun h => ?_⟩
    unfold get at h
    cases e : st.find? fun p => decide (p.1 = x) with
    | none => rw [e] at h; cases h
    | some p => exact List.mem_map.mpr ⟨p, List.mem_of_find?_eq_some e, by simpa using List.find?_some e⟩
  rw [e, e, get_put]
  by_cases h : x = k
  · rw [if_pos h]; simp [h]
  · rw [if_neg h]; simp [h]
theorem put_nodup {st : List (Str × Bool)} (k : Str) (b : Bool) (h : (st.map (·.1)).Nodup) : ((put st k b).map (·.1)).Nodup := by
  unfold put
  by_cases e : st.any (fun p => p.1 = k) = true
  · rw [if_pos e, List.map_map]
    have e2 : ((fun x : Str × Bool => x.1) ∘ fun p => if p.1 = k then (p.1, b) else p) = fun x => x.1 := by
      funext p; simp only [Function.comp]; split <;> rfl
    rw [e2]; exact h
  · rw [if_neg e, List.map_append, List.nodup_append]
    refine ⟨h, by simp, fun a ha c hc q => e ?_⟩
    obtain ⟨p, hp, rfl⟩ := List.mem_map.mp ha
    have hc' : c = k := by simpa using hc
    exact List.any_eq_true.mpr ⟨p, hp, by simp [q, hc']⟩
theorem Wf.put {st : List (Str × Bool)} {k : Str} (h : Wf st) (hk : k ∈ allW) (b : Bool) : Wf (Mine.put st k b) := by
  refine ⟨put_nodup k b h.nodup, fun x hx => ?_⟩
  rcases (put_keys st k b x).mp hx with rfl | hx
  · exact hk
  · exact h.sub x hx
theorem Wf.offs {ws : List Str} : ∀ {st : List (Str × Bool)}, Wf st → (∀ k ∈ ws, k ∈ allW) → Wf (Mine.offs st ws) := by
  induction ws with
  | nil => intro st h _; exact h
  | cons k r ih => intro st h hw; exact ih (h.put (hw k List.mem_cons_self) false) fun x hx => hw x (List.mem_cons_of_mem _ hx)
theorem group_sub (k : Str) : ∀ x ∈ groupOf k, x ∈ allW := by
  have e1 : ∀ x ∈ wMouse, x ∈ allW := by decide +kernel
  have e2 : ∀ x ∈ wCod, x ∈ allW := by decide +kernel
  intro x hx
  unfold groupOf at hx
  split at hx
  · exact e1 x hx
  · split at hx
    · exact e2 x hx
    · cases hx
theorem Wf.setM {st : List (Str × Bool)} {k : Str} (h : Wf st) (hk : k ∈ allW) (b : Bool) : Wf (Mine.setM st k b) := by
  unfold Mine.setM
  refine Wf.put ?_ hk b
  split
  · exact h.offs (group_sub k)
  · exact h
theorem Wf.setAll {f : Str → Bool} {ws : List Str} : ∀ {st : List (Str × Bool)}, Wf st → (∀ k ∈ ws, k ∈ allW) → Wf (Mine.setAll f st ws) := by
  induction ws with
  | nil => intro st h _; exact h
  | cons k r ih => intro st h hw; exact ih (h.setM (hw k List.mem_cons_self) (f k)) fun x hx => hw x (List.mem_cons_of_mem _ hx)
theorem Wf.soft {st : List (Str × Bool)} (h : Wf st) : Wf (softF st) := by
  have e1 : ∀ x ∈ wSoftOff, x ∈ allW := by decide +kernel
  have e2 : ∀ x ∈ wSoftFirst, x ∈ allW := by decide +kernel
  have e3 : Str.ofString "show_cursor" ∈ allW := by decide +kernel
  exact ((h.setAll e1).setAll e2).setM e3 true
theorem Wf.first : Wf (stOf wFirstOn) := ⟨by decide +kernel, by decide +kernel⟩
theorem len_sub : ∀ (l m : List Str), l.Nodup → (∀ x ∈ l, x ∈ m) → l.length ≤ m.length
  | [], _, _, _ => Nat.zero_le _
  | a :: r, m, hn, hs => by
    have ha := hs a List.mem_cons_self
    have h1 := List.length_erase_of_mem ha
    have h2 := List.length_pos_of_mem ha
    have h3 := len_sub r (m.erase a) (List.nodup_cons.mp hn).2 fun x hx => (List.mem_erase_of_ne (show x ≠ a from fun e => (List.nodup_cons.mp hn).1 (by rw [← e]; exact hx))).mpr (hs x (List.mem_cons_of_mem _ hx))
    rw [List.length_cons]
    omega
theorem Wf.length {st : List (Str × Bool)} (h : Wf st) : st.length < 64 := by
  have h1 : (st.map (·.1)).length ≤ allW.length := len_sub _ _ h.nodup fun k hk => h.sub k hk
  have h2 : allW.length = 44 := by decide +kernel
  rw [List.length_map] at h1
  omega
theorem Wf.ok {st : List (Str × Bool)} (h : Wf st) : OkM st := by
  have e : ∀ x ∈ allW, PyData.strOk x = true := by decide +kernel
  exact List.all_eq_true.mpr fun k hk => e k (h.sub k hk)
def wSoftOn : List Str := [Str.ofString "autowrap", Str.ofString "show_cursor"]
theorem get_setAll_off (ws : List Str) : ∀ (st : List (Str × Bool)) (x : Str), (get (setAll (fun _ => false) st ws) x).getD false = if x ∈ ws then false else (get st x).getD false := by
  induction ws with
  | nil => intro st x; rfl
  | cons k r ih =>
    intro st x
    show (get (setAll (fun _ => false) (setM st k false) r) x).getD false = _
    rw [ih, get_setM]
    by_cases h1 : x ∈ r
    · rw [if_pos h1, if_pos (List.mem_cons_of_mem _ h1)]
    · by_cases h2 : x = k
      · rw [if_neg h1, if_pos h2, if_pos (by rw [h2]; exact List.mem_cons_self)]
      · rw [if_neg h1, if_neg h2, if_neg (fun q => Bool.false_ne_true q.1), if_neg (by simp [h1, h2])]
theorem get_soft (st : List (Str × Bool)) (x : Str) : (get (softF st) x).getD false = if x ∈ wSoftOn then true else if x ∈ wOut then false else (get st x).getD false := by
  have g1 : groupOf (Str.ofString "autowrap") = [] := by decide +kernel
  have g2 : groupOf (Str.ofString "reverse_wrap") = [] := by decide +kernel
  have g3 : groupOf (Str.ofString "reverse_wrap_far") = [] := by decide +kernel
  have g4 : groupOf (Str.ofString "show_cursor") = [] := by decide +kernel
  have f1 : wFirstOn.any (· == Str.ofString "autowrap") = true := by decide +kernel
  have f2 : wFirstOn.any (· == Str.ofString "reverse_wrap") = false := by decide +kernel
  have f3 : wFirstOn.any (· == Str.ofString "reverse_wrap_far") = false := by decide +kernel
  have n1 : Str.ofString "autowrap" ≠ Str.ofString "reverse_wrap" := by decide +kernel
  have n2 : Str.ofString "autowrap" ≠ Str.ofString "reverse_wrap_far" := by decide +kernel
  have e0 : softF st = setM (setM (setM (setM (setAll (fun _ => false) st wSoftOff) (Str.ofString "autowrap") (wFirstOn.any (· == Str.ofString "autowrap"))) (Str.ofString "reverse_wrap") (wFirstOn.any (· == Str.ofString "reverse_wrap"))) (Str.ofString "reverse_wrap_far") (wFirstOn.any (· == Str.ofString "reverse_wrap_far"))) (Str.ofString "show_cursor") true := rfl
  rw [e0, f1, f2, f3, get_setM, get_setM, get_setM, get_setM, get_setAll_off, g1, g2, g3, g4]
  have o : x ∈ wOut ↔ x ∈ wSoftOff ∨ x = Str.ofString "reverse_wrap" ∨ x = Str.ofString "reverse_wrap_far" := by
    show x ∈ wSoftOff ++ [Str.ofString "reverse_wrap", Str.ofString "reverse_wrap_far"] ↔ _
    simp
  have p : x ∈ wSoftOn ↔ x = Str.ofString "autowrap" ∨ x = Str.ofString "show_cursor" := by
    unfold wSoftOn; simp
  by_cases h1 : x = Str.ofString "show_cursor"
  · rw [if_pos h1, if_pos (p.mpr (.inr h1))]
  · rw [if_neg h1, if_neg (by simp)]
    by_cases h2 : x = Str.ofString "reverse_wrap_far"
    · rw [if_pos h2, if_neg (fun q => (p.mp q).elim (fun e => n2 (e.symm.trans h2)) h1), if_pos (o.mpr (.inr (.inr h2)))]
    · rw [if_neg h2, if_neg (by simp)]
      by_cases h3 : x = Str.ofString "reverse_wrap"
      · rw [if_pos h3, if_neg (fun q => (p.mp q).elim (fun e => n1 (e.symm.trans h3)) h1), if_pos (o.mpr (.inr (.inl h3)))]
      · rw [if_neg h3, if_neg (by simp)]
        by_cases h4 : x = Str.ofString "autowrap"
        · rw [if_pos h4, if_pos (p.mpr (.inl h4))]
        · rw [if_neg h4, if_neg (by simp), if_neg (fun q => (p.mp q).elim h4 h1)]
          by_cases h5 : x ∈ wSoftOff
          · rw [if_pos h5, if_pos (o.mpr (.inl h5))]
          · rw [if_neg h5, if_neg (fun q => (o.mp q).elim h5 (fun r => r.elim h3 h2))]
/-- what the law makes of `on` after a soft reset -/
def SoftL (ys zs : List Str) : Prop := sortedS zs = true ∧ zs.Perm (ys.filter (fun y => !(wOut ++ wSoftOn).any (· == y)) ++ wSoftOn)
theorem Inv.soft {st : List (Str × Bool)} {ys zs : List Str} (h : Inv st ys) (hz : SoftL ys zs) : Inv (softF st) zs := by
  obtain ⟨hs, hp⟩ := hz
  have hnd : (ys.filter (fun y => !(wOut ++ wSoftOn).any (· == y)) ++ wSoftOn).Nodup := by
    rw [List.nodup_append]
    refine ⟨h.nodup.filter _, by decide +kernel, fun a ha c hc e => ?_⟩
    have := (List.mem_filter.mp ha).2
    rw [any_not] at this
    exact this (List.mem_append_right _ (e ▸ hc))
  refine ⟨hs, hp.symm.nodup hnd, fun x => ?_⟩
  rw [hp.mem_iff, List.mem_append, List.mem_filter, any_not, List.mem_append, get_soft, h.mem x]
  by_cases h1 : x ∈ wSoftOn
  · rw [if_pos h1]; simp [h1]
  · rw [if_neg h1]
    by_cases h2 : x ∈ wOut
    · rw [if_pos h2]; simp [h1, h2]
    · rw [if_neg h2]; simp [h1, h2]
theorem Inv.first : Inv (stOf wFirstOn) wFirst := by
  refine ⟨by decide +kernel, by decide +kernel, fun k => ?_⟩
  have e : ∀ (ws : List Str) (a : List (Str × Bool)) (k : Str), (get (ws.foldl (fun a k => put a k true) a) k).getD false = if k ∈ ws then true else (get a k).getD false := by
    intro ws
    induction ws with
    | nil => intro a k; rfl
    | cons w r ih =>
      intro a k
      rw [List.foldl_cons, ih, get_put]
      by_cases h1 : k ∈ r
      · rw [if_pos h1, if_pos (List.mem_cons_of_mem _ h1)]
      · by_cases h2 : k = w
        · rw [if_neg h1, if_pos h2, if_pos (by rw [h2]; exact List.mem_cons_self)]; rfl
        · rw [if_neg h1, if_neg h2, if_neg (by simp [h1, h2])]
  have m : ∀ k, k ∈ wFirst ↔ k ∈ wFirstOn := by
    have m1 : ∀ k ∈ wFirst, k ∈ wFirstOn := by decide +kernel
    have m2 : ∀ k ∈ wFirstOn, k ∈ wFirst := by decide +kernel
    exact fun k => ⟨m1 k, m2 k⟩
  unfold stOf
  rw [e, m]
  by_cases h : k ∈ wFirstOn
  · rw [if_pos h]; simp [h]
  · rw [if_neg h]
    have : (get ([] : List (Str × Bool)) k).getD false = false := rfl
    rw [this]; simp [h]
theorem look_pool {n : Int} (h : n ∈ poolL) : look tabT n = look poolP n := by
  have e : ∀ n ∈ poolL, look tabT n = look poolP n := by decide +kernel
  exact e n h
theorem pool_inj {m n : Int} {x : Str} (h1 : look poolP m = some x) (h2 : look poolP n = some x) : m = n := by
  have e : ∀ p ∈ poolP, ∀ q ∈ poolP, p.2 = q.2 → p.1 = q.1 := by decide +kernel
  have a := mem_of_look h1
  have b := mem_of_look h2
  exact e _ a _ b rfl
def KeptRel (kp : List (Str × Bool)) (kq : List (Int × Bool)) : Prop := ∀ n, get kq n = (look poolP n).bind fun x => get kp x
def keepF (ys : List Str) (kq : List (Int × Bool)) (ns : List Int) : List (Int × Bool) := ns.foldl (fun a n => match look poolP n with | some x => put a n (ys.any (· == x)) | none => a) kq
theorem keepF_take {ys : List Str} {kq : List (Int × Bool)} {ns : List Int} {i : Nat} {n : Int} (h : ns[i]? = some n) : keepF ys kq (ns.take (i + 1)) = match look poolP n with | some x => put (keepF ys kq (ns.take i)) n (ys.any (· == x)) | none => keepF ys kq (ns.take i) := by
  unfold keepF
  rw [List.take_add_one, h]; simp
theorem keepF_length (ys : List Str) (kq : List (Int × Bool)) (ns : List Int) : (keepF ys kq ns).length ≤ kq.length + ns.length := by
  induction ns generalizing kq with
  | nil => exact Nat.le_refl _
  | cons n r ih =>
    unfold keepF at *
    simp only [List.foldl_cons, List.length_cons]
    cases look poolP n with
    | none => have := ih kq; dsimp only; omega
    | some x => have := ih (put kq n (ys.any (· == x))); have := put_length kq n (ys.any (· == x)); dsimp only; omega
theorem KeptRel.nil : KeptRel [] [] := fun n => by cases look poolP n <;> rfl
theorem KeptRel.save {st : List (Str × Bool)} {ys : List Str} (hA : Agree st ys) : ∀ {ns : List Int} {kp : List (Str × Bool)} {kq : List (Int × Bool)}, KeptRel kp kq → (∀ n ∈ ns, n ∈ poolL) → KeptRel (saveF st kp ns) (keepF ys kq ns) := by
  intro ns
  induction ns with
  | nil => intro kp kq h _; exact h
  | cons n r ih =>
    intro kp kq h hn
    have hr : ∀ m ∈ r, m ∈ poolL := fun m hm => hn m (List.mem_cons_of_mem _ hm)
    have e := look_pool (hn n List.mem_cons_self)
    unfold saveF keepF at *
    simp only [List.foldl_cons]
    rw [e]
    cases hx : look poolP n with
    | none => exact ih h hr
    | some x =>
      refine ih (fun m => ?_) hr
      dsimp only
      rw [get_put, hA.look x]
      by_cases hm : m = n
      · rw [if_pos hm, hm, hx, Option.bind_some, get_put, if_pos rfl]
      · rw [if_neg hm, h m]
        cases hy : look poolP m with
        | none => rfl
        | some y =>
          rw [Option.bind_some, Option.bind_some, get_put, if_neg]
          intro exy
          exact hm (pool_inj (hy.trans (by rw [exy])) hx)
theorem filterMap_same {α β : Type} {f g : α → Option β} : ∀ {l : List α}, (∀ x ∈ l, f x = g x) → l.filterMap f = l.filterMap g
  | [], _ => rfl
  | a :: r, h => by
    rw [List.filterMap_cons, List.filterMap_cons, h a List.mem_cons_self, filterMap_same fun x hx => h x (List.mem_cons_of_mem _ hx)]
def dueF (kq : List (Int × Bool)) (ns : List Int) : List (Str × Bool) := ns.filterMap fun n => (get kq n).bind fun b => (look poolP n).map fun x => (x, b)
theorem KeptRel.due {kp : List (Str × Bool)} {kq : List (Int × Bool)} (h : KeptRel kp kq) {ns : List Int} (hn : ∀ n ∈ ns, n ∈ poolL) : dueF kq ns = savedF kp ns := by
  unfold dueF savedF
  refine filterMap_same fun n hm => ?_
  rw [h n, look_pool (hn n hm)]
  cases look poolP n with
  | none => rfl
  | some x =>
    rw [Option.bind_some, Option.bind_some]
    cases get kp x <;> rfl
/-- the states after `told` was put back, one by one, and the list beside them -/
def tellM (st : List (Str × Bool)) (ps : List (Str × Bool)) : List (Str × Bool) := ps.foldl (fun a p => setM a p.1 p.2) st
theorem tellM_take {st ps : List (Str × Bool)} {i : Nat} {p : Str × Bool} (h : ps[i]? = some p) : tellM st (ps.take (i + 1)) = setM (tellM st (ps.take i)) p.1 p.2 := by
  unfold tellM; rw [List.take_add_one, h]; simp
theorem savedF_words {kp : List (Str × Bool)} {ns : List Int} (hn : ∀ n ∈ ns, n ∈ poolL) : ∀ p ∈ savedF kp ns, p.1 ∈ allW := by
  intro p hp
  unfold savedF at hp
  obtain ⟨n, hm, e⟩ := List.mem_filterMap.mp hp
  rw [look_pool (hn n hm)] at e
  cases hx : look poolP n with
  | none => rw [hx] at e; cases e
  | some x =>
    rw [hx, Option.bind_some] at e
    have e2 : ∀ q ∈ poolP, q.2 ∈ allW := by decide +kernel
    cases hg : get kp x with
    | none => rw [hg] at e; cases e
    | some b =>
      rw [hg] at e
      cases e
      exact e2 _ (mem_of_look hx)
end plain
end Mine
namespace Mine
section dictpairs
variable {w : World} {A : Around} {E : Value → Shared → Prop}
theorem entry_dul : entryFor table "dict.update.loop" = some Builtin.«dict.update.loop» := entryFor_of_tree (by kernel_rfl)
theorem plain_dul : plainId "dict.update.loop" = true := by decide +kernel
theorem keys_miss : typeLookup (.type "list") "keys" = pure none := am_miss_of_fast (by decide +kernel)
theorem getAttr_keys {s : Shared} {a : Addr} {o : Obj} {xs : Array Value} {k : Nat} {Q : Option Value → Shared → Prop}
    (hx : s.heap.get? a = some o) (hc : o.cls = .type "list") (hdat : o.data = .seq xs k) (hd : o.dict = none) (hA : A.handled = none)
    (h : ∀ h' tk, (∀ b o, s.heap.get? b = some o → h'.get? b = some o) → Q none { s with heap := h', toks := tk }) :
    wpAny (model pg w) A (getAttr? (.ref a) "keys") Q E s := by
  obtain ⟨c, dct, dat, sl⟩ := o
  simp only at hc hdat hd
  subst hc hdat hd
  have hmiss := keys_miss
  have hname : (["__module__", "__name__", "__qualname__", "__doc__", "__annotations__"] : List Str).contains "keys" = false := by decide +kernel
  have hsz : (Str.ofString "keys").length + 100 ≤ sizeLine := by rw [sizeLine_eq]; decide +kernel
  obtain ⟨hp, g, d, tk, os⟩ := s
  have hT : ∀ tk', (⟨hp, g, d, tk', os⟩ : Shared).TypeIs (.ref a) "list" := fun _ => ⟨_, hx, rfl⟩
  have f1 := sub_AttributeError
  have f3 := F.slot_list_getattribute.lookup
  have f4 := F.slot_list_getattribute.bind (.ref a)
  have f5 := am_list_getattr_none
  unfold getAttr? getAttrBy? getAttrBy
  repeat (any_goals (first | assumption | exact hT _ | ((with_reducible show wpAny _ _ (call (Value.builtin "list.__getattribute__") _ _) _ _ _); refine call_meets F.slot_list_getattribute (hT _) am_entry_list_getattribute (F.args_list_getattribute_2 _ _) (meets_getattribute_miss_list a xs k sl "keys" _ hmiss hname hsz) ⟨hx, hA, fun h' tk' e hx' => ?_⟩) | wp_step))
  obtain ⟨t', u', he⟩ := hx'.there
  show wpAny _ _ (getattributeRaised _ _ _ _ _ _ _) _ _ _
  unfold getattributeRaised
  repeat (any_goals (first | assumption | wp_step))
  exact h _ _ hx'.keeps
theorem tab_stored {acc : List (Int × Value)} {ps : List (Int × Str)} {i : Nat} {k : Int} {x : Str} {t : Tok} (ht : TabIs acc (ps.take i)) (hi : ps[i]? = some (k, x)) (hnd : (ps.map (·.1)).Nodup) : TabIs (stored acc k (.str x t)) (ps.take (i + 1)) := by
  have hk : k ∉ acc.map (·.1) := by
    rw [ht.keys]
    intro hm
    obtain ⟨p, hp, e⟩ := List.mem_map.mp hm
    obtain ⟨j, hj⟩ := List.mem_iff_getElem?.mp hp
    have hj2 : j < i := by
      have := (List.getElem?_eq_some_iff.mp hj).1
      rw [List.length_take] at this; omega
    rw [List.getElem?_take_of_lt hj2] at hj
    have e1 : (ps.map (·.1))[j]? = some k := by rw [List.getElem?_map, hj, ← e]; rfl
    have e2 : (ps.map (·.1))[i]? = some k := by rw [List.getElem?_map, hi]; rfl
    obtain ⟨q1, r1⟩ := List.getElem?_eq_some_iff.mp e1
    obtain ⟨q2, r2⟩ := List.getElem?_eq_some_iff.mp e2
    exact List.pairwise_iff_getElem.mp hnd j i q1 q2 hj2 (r1.trans r2.symm)
  have e : stored acc k (.str x t) = acc ++ [(k, .str x t)] := by
    unfold stored
    rw [if_neg]
    intro h
    obtain ⟨p, hp, e⟩ := List.any_eq_true.mp h
    exact hk (List.mem_map.mpr ⟨p, hp, by simpa using e⟩)
  rw [e, List.take_add_one, hi]
  exact ht.append (.cons k x t .nil)
theorem pairItems_tup {s : Shared} {t : Addr} {xs : List Value} {Q : List Value → Shared → Prop} (ht : IsTup s.heap t xs.toArray) (h : Q xs s) : wpAny (model pg w) A (Builtin.Dict.pairItems (.ref t)) Q E s := by
  obtain ⟨o, ho, hc, n, hd⟩ := ht
  obtain ⟨c, dct, dat, sl⟩ := o
  simp only at hc hd
  subst hc hd
  have hT : s.TypeIs (.ref t) "tuple" := ⟨_, ho, rfl⟩
  unfold Builtin.Dict.pairItems
  refine wpAny_bind (wpAny_typeOf hT ?_)
  rw [if_pos (by decide)]
  unfold seqItems?
  wp_walk
  exact h
theorem dul_loop {R : Result → Shared → Prop} {I d : Addr} {fp : List Addr} {n : Nat} {St : Nat → Heap → Prop} {g : Heap} {vs : List Value} {ps : List (Int × Str)} (W : Walks pg w A.in1 I fp [I] n (fun i v => vs[i]? = some v) St) (hdf : d ∉ fp)
    (hp : PairsIn g vs ps) (hn : n = ps.length) (hnd : (ps.map (·.1)).Nodup) (hz : ps.length ≤ 1000) (gd : g.get? d = none) (gI : g.get? I = none) :
    ∀ (k i : Nat) (s : Shared) (acc : List (Int × Value)) (u : Tok), n - i = k → i ≤ n → St i s.heap → (∀ b o, g.get? b = some o → s.heap.get? b = some o) →
      s.heap.DictOf (PySem.intKind pg w) d acc → TabIs acc (ps.take i) →
      (∀ h' tk kvs, TabIs kvs ps → h'.DictOf (PySem.intKind pg w) d kvs → (∀ b o, b ≠ d → b ≠ I → s.heap.get? b = some o → h'.get? b = some o) → R (.ok (.ret .none)) { s with heap := h', toks := tk }) →
      codeAny (model pg w) A (.builtin "dict.update.loop" ⟨[.ref d, .ref I, .int i u, .none], []⟩) R s := by
  have hIf : I ∈ fp := W.sub _ (.head _)
  have hdI : d ≠ I := fun e => hdf (e ▸ hIf)
  have nI : ∀ b, b ≠ I → b ∉ [I] := fun b hb h => hb (List.mem_singleton.mp h)
  have gbI : ∀ b o, g.get? b = some o → b ≠ I := fun b o e q => by rw [q, gI] at e; cases e
  have gbd : ∀ b o, g.get? b = some o → b ≠ d := fun b o e q => by rw [q, gd] at e; cases e
  have dk : ∀ {h h' : Heap} {acc}, h.DictOf (PySem.intKind pg w) d acc → (∀ o, h.get? d = some o → h'.get? d = some o) → h'.DictOf (PySem.intKind pg w) d acc := fun hD hk => by
    obtain ⟨o, es, ep, ho, r⟩ := hD
    exact ⟨o, es, ep, hk _ ho, r⟩
  intro k
  induction k with
  | zero =>
    intro i s acc u hk hi hst hg hD hT hR
    have hin : i = n := by omega
    subst hin
    refine codeAny_builtin entry_dul ?_
    rw [Around.under_plainId plain_dul _]
    show wpAny _ A.in1 (pyNext (.ref I) >>= _) _ _ s
    refine wpAny_bind (W.done s _ _ hst fun h' tk hm => ?_)
    show wpAny _ A.in1 (Builtin.Dict.addKeywords d [] >>= _) _ _ _
    refine wpAny_bind (wpAny_pure ?_)
    show wpAny _ A.in1 (ret Value.none) _ _ _
    refine wpAny_pure (hR h' tk acc ?_ (dk hD fun o e => hm d o (nI d hdI) e) fun b o _ hbI e => hm b o (nI b hbI) e)
    rw [hn, List.take_length] at hT
    exact hT
  | succ k ih =>
    intro i s acc u hk hi hst hg hD hT hR
    have hlt : i < n := by omega
    refine codeAny_builtin entry_dul ?_
    rw [Around.under_plainId plain_dul _]
    show wpAny _ A.in1 (pyNext (.ref I) >>= _) _ _ s
    refine wpAny_bind (W.item i s _ _ hlt hst fun v h₁ tk₁ hP hst₁ hm₁ => ?_)
    obtain ⟨t, k₁, x, tk, tx, e1, ht, e2⟩ : ∃ t k x tk tx, v = .ref t ∧ IsTup g t (List.toArray [.int k tk, .str x tx]) ∧ ps[i]? = some (k, x) := by
      clear ih hR hT hD hst hst₁ hlt hi hk hm₁ W hn hnd hz
      induction hp generalizing i with
      | nil => simp at hP
      | cons ht hr ihp =>
        cases i with
        | zero => cases hP; exact ⟨_, _, _, _, _, rfl, ht, rfl⟩
        | succ i => exact ihp i hP
    subst e1
    have hg₁ : ∀ b o, g.get? b = some o → h₁.get? b = some o := fun b o e => hm₁ b o (nI b (gbI b o e)) (hg b o e)
    have hD₁ : h₁.DictOf (PySem.intKind pg w) d acc := dk hD fun o e => hm₁ d o (nI d hdI) e
    have hz2 : acc.length ≤ 1000 := by
      have := hT.length
      rw [List.length_take] at this; omega
    show wpAny _ A.in1 (holding [Value.ref t] _ >>= _) _ _ _
    refine wpAny_bind (wpAny_holding (wpAny_bind (wpAny_tryCatch (pairItems_tup (ht.keeps hg₁) ?_))))
    refine wpAny_holding (wpAny_dictSet_pairs (knd := PySem.intKind pg w) (k := k₁) (hsz := by rw [sizeLine_eq]; omega) (intKind_is _ _ _ _) hD₁ fun h₂ hD₂ hs₂ => ?_)
    have up : ∀ b o, b ≠ d → b ≠ I → s.heap.get? b = some o → h₂.get? b = some o := fun b o hbd hbI e => (hs₂.2 b hbd).trans (hm₁ b o (nI b hbI) e)
    refine wpAny_pure ⟨plainId_quiet plain_dul _, ih (i + 1) _ (stored acc k₁ (.str x tx)) 0 (by omega) hlt (W.frame _ _ _ hst₁ fun b hb o e => ?_) (fun b o e => (hs₂.2 b (gbd b o e)).trans (hg₁ b o e)) hD₂ (tab_stored hT e2 hnd) fun h' tk' kvs ht' hD' hk' => ?_⟩
    · exact (hs₂.2 b (fun q => hdf (q ▸ hb))).trans e
    · exact hR h' tk' kvs ht' hD' fun b o hbd hbI e => hk' b o hbd hbI (up b o hbd hbI e)
theorem dict_pairs_K {s : Shared} {h₀ : Heap} {L a : Addr} {m : Str → Option Value} {news : List (Addr × Obj)} {o : Obj} {n : Nat} {xs : List Value} {ps : List (Int × Str)} {Q : Value → Shared → Prop} (hh : A.handled = none) (F : Fr h₀ L s.heap m) (N : News h₀ L s.heap news) (hbig : h₀.NoLimit)
    (hx : h₀.get? a = some o) (hc : o.cls = .type "list") (hdat : o.data = .seq xs.toArray n) (hd : o.dict = none) (hp : PairsIn h₀ xs ps) (hnd : (ps.map (·.1)).Nodup) (hz : ps.length ≤ 1000)
    (h : ∀ D h' tk o' kvs, Fr h₀ L h' m → News h₀ L h' ((D, o') :: news) → (∀ p ∈ news, p.1 < D) → (D == sysModules) = false → o'.IsDictOf (PySem.intKind pg w) kvs → TabIs kvs ps → Q (.ref D) { s with heap := h', toks := tk }) :
    wpAny (model pg w) A (call (.type "dict") [.ref a]) Q E s := by
  have hL : L < s.heap.objs.size := by obtain ⟨oL, _, _, hL, _⟩ := F.ns; exact Heap.lt_size hL
  refine callType_codes (Q₁ := fun obj s₁ => obj = .ref s.heap.objs.size ∧ s₁ = { s with heap := s.heap.push { cls := .type "dict", data := .dict #[] } }) PySem.F.kt_called_dict (PySem.F.kt_typeCall_dict_1 _) PySem.F.entry_dict_init (kt_code_dict_new _ ⟨rfl, rfl⟩) ?_
  rintro obj s₁ ⟨rfl, rfl⟩
  have hnew : (s.heap.push { cls := .type "dict", data := .dict #[] }).DictOf (PySem.intKind pg w) s.heap.objs.size [] := Heap.DictOf.new s.heap
  have hpush : ∀ b o, s.heap.get? b = some o → (s.heap.push { cls := .type "dict", data := .dict #[] }).get? b = some o := fun b o e => Heap.get?_push_of_some _ e
  have hxs : (s.heap.push { cls := .type "dict", data := .dict #[] }).get? a = some o := hpush _ _ (F.keep _ _ hx)
  refine ⟨hnew.typeIs, PySem.F.args_dict_init_2 _ _, ?_⟩
  unfold Builtin.«dict.__init__»
  refine wpAny_bind ?_
  unfold Builtin.Dict.selfAndRest
  refine wpAny_bind (wpAny_notOrdered_dict hnew.typeIs ?_)
  show wpAny _ _ (pure (s.heap.objs.size, [Value.ref a])) _ _ _
  refine wpAny_pure ?_
  show wpAny _ _ (Builtin.Dict.updateFrom "dict.__init__" s.heap.objs.size (.ref a) [] .none) _ _ _
  unfold Builtin.Dict.updateFrom
  refine wpAny_bind (wpAny_typeOf (T := "list") ⟨_, hxs, hc⟩ ?_)
  rw [if_pos (by decide)]
  refine wpAny_bind (getAttr_keys (k := n) (xs := xs.toArray) hxs hc hdat hd (by simp [hh]) fun h₁ tk₁ hk₁ => ?_)
  simp only [Option.isNone_none, if_true]
  have k1 : ∀ b o, s.heap.get? b = some o → h₁.get? b = some o := fun b o e => hk₁ _ _ (hpush _ _ e)
  have hl₁ : h₁.IsList a xs.toArray := ⟨o, hk₁ _ _ hxs, hc, n, hdat⟩
  refine wpAny_bind (wpAny_rule ?_)
  refine wpAny_bind (wpAny_pyIter_list hl₁ ?_)
  have hD₁ : h₁.DictOf (PySem.intKind pg w) s.heap.objs.size [] := by
    obtain ⟨o, es, ep, ho, r⟩ := hnew
    exact ⟨o, es, ep, hk₁ _ _ ho, r⟩
  have hDlt : s.heap.objs.size < h₁.objs.size := by obtain ⟨o, es, ep, ho, r⟩ := hD₁; exact Heap.lt_size ho
  have halt : a < s.heap.objs.size := Heap.lt_size (F.keep _ _ hx)
  have hne : a ≠ h₁.objs.size := Nat.ne_of_lt (Nat.lt_trans halt hDlt)
  have hh3 : A.in1.in1.handled = none := by simp [hh]
  have W := Walks.list (prog := pg) (w := w) hh3 h₁.objs.size a hne xs.toArray
  rw [show xs.toArray.size = xs.length from by simp] at W
  have push2 : ∀ b o, h₁.get? b = some o → (h₁.push { cls := .type "list_iterator", data := .fields #[.ref a, .int 0 0] }).get? b = some o := fun b o e => Heap.get?_push_of_some _ e
  have W' : Walks pg w A.in1.in1 h₁.objs.size [h₁.objs.size, a] [h₁.objs.size] xs.length (fun i v => xs[i]? = some v) (fun i h => h.IsListIter h₁.objs.size a i ∧ h.IsList a xs.toArray) := by simpa using W
  refine wpAny_pure ⟨plainId_quiet plain_dul _, dul_loop W' ?_ hp hp.length hnd hz (fr_new F) ?_ xs.length 0 _ [] 0 (by omega) (Nat.zero_le _) ⟨⟨_, Heap.get?_push_size _ rfl, rfl, rfl⟩, hl₁.at fun o e => push2 _ _ e⟩ (fun b o e => push2 _ _ (k1 _ _ (F.keep _ _ e))) ?_ .nil fun h' tk kvs ht hD' hk' => ⟨rfl, ?_⟩⟩
  · simp only [List.mem_cons, List.not_mem_nil, or_false, not_or]
    exact ⟨Nat.ne_of_lt hDlt, Nat.ne_of_gt halt⟩
  · cases q : h₀.get? h₁.objs.size with
    | none => rfl
    | some o' => exact absurd (Heap.lt_size (k1 _ _ (F.keep _ _ q))) (Nat.lt_irrefl _)
  · obtain ⟨o, es, ep, ho, r⟩ := hD₁
    exact ⟨o, es, ep, push2 _ _ ho, r⟩
  · obtain ⟨o', ho', hd'⟩ := Heap.dictOf_iff.mp hD'
    have up : ∀ b o, s.heap.get? b = some o → h'.get? b = some o := fun b o e => hk' b o (Nat.ne_of_lt (Heap.lt_size e)) (Nat.ne_of_lt (Nat.lt_trans (Heap.lt_size e) hDlt)) (push2 _ _ (k1 _ _ e))
    refine h _ h' tk o' kvs ⟨F.ns.at' fun o e => up _ _ e, fun b o e => up _ _ (F.keep b o e), F.above⟩ (fun p hp => ?_) (fun p hp => Heap.lt_size (N p hp).1) (F.notModules (modules_low hbig)) hd' ht
    rcases List.mem_cons.mp hp with rfl | hp
    · exact ⟨ho', Nat.ne_of_gt hL, fr_new F⟩
    · exact ⟨up _ _ (N p hp).1, (N p hp).2⟩
end dictpairs
end Mine
namespace Mine
def stBody : Stmt → List Stmt
  | .FunctionDef _ _ b _ _ _ _ _ _ _ => b
  | .For _ _ b _ _ => b
  | .If _ b _ _ => b
  | _ => []
def stElse : Stmt → List Stmt
  | .If _ _ e _ => e
  | _ => []
def stScope : Stmt → Scope
  | .FunctionDef _ _ _ _ _ _ s _ _ _ => s
  | _ => { kind := .function, names := [], isGenerator := false, isCoroutine := false, more := [] }
def nthS : List Stmt → Nat → List Stmt
  | [], _ => []
  | a :: _, 0 => [a]
  | _ :: r, n + 1 => nthS r n
def hdB (l : List Stmt) : List Stmt := match l with | a :: _ => stBody a | [] => []
def hdE (l : List Stmt) : List Stmt := match l with | a :: _ => stElse a | [] => []
noncomputable def lawL : List Stmt := nthS PySem.Challenge.pw_og0234_01.main.body 39
noncomputable def lawScope : Scope := match lawL with | a :: _ => stScope a | [] => stScope (.Pass ⟨0, 0, 0, 0⟩)
noncomputable def lawB : List Stmt := hdB lawL
noncomputable def turnB : List Stmt := hdB (nthS lawB 2)
noncomputable def if0 : List Stmt := nthS turnB 1
noncomputable def if4 : List Stmt := hdE if0
noncomputable def if5 : List Stmt := hdE if4
noncomputable def if6 : List Stmt := hdE if5
noncomputable def if7 : List Stmt := hdE if6
noncomputable def if8 : List Stmt := hdE if7
noncomputable def w0B : List Stmt := hdB if0
noncomputable def w4B : List Stmt := hdB if4
noncomputable def w5B : List Stmt := hdB if5
noncomputable def w6B : List Stmt := hdB if6
noncomputable def w7B : List Stmt := hdB if7
theorem PairsIn.keeps {h h' : Heap} (k : ∀ b o, h.get? b = some o → h'.get? b = some o) : ∀ {vs ps}, PairsIn h vs ps → PairsIn h' vs ps
  | _, _, .nil => .nil
  | _, _, .cons t r => .cons (t.keeps k) (r.keeps k)
theorem PairsIn.append {h : Heap} : ∀ {vs ps us qs}, PairsIn h vs ps → PairsIn h us qs → PairsIn h (vs ++ us) (ps ++ qs)
  | _, _, _, _, .nil, x => x
  | _, _, _, _, .cons t r, x => .cons t (r.append x)
theorem Inv.length {st : List (Str × Bool)} {ys : List Str} (h : Inv st ys) (hw : Wf st) : ys.length ≤ 44 := by
  have h1 : ys.length ≤ allW.length := len_sub _ _ h.nodup fun k hk => hw.sub k (get_mem ((h.mem k).mp hk))
  have h2 : allW.length = 44 := by decide +kernel
  omega
theorem Inv.ok {st : List (Str × Bool)} {ys : List Str} (h : Inv st ys) (hw : Wf st) : OkS ys := by
  have e : ∀ x ∈ allW, PyData.strOk x = true := by decide +kernel
  exact List.all_eq_true.mpr fun k hk => e k (hw.sub k (get_mem ((h.mem k).mp hk)))
theorem pool_words : ∀ p ∈ poolP ++ poolO, p.2 ∈ allW := by decide +kernel
/-- two addresses that are not the same; a word of its own, that arithmetic does not look at -/
def Dif (a b : Addr) : Prop := @Ne Nat a b
theorem Dif.out {a b : Addr} (h : Dif a b) : @Ne Nat a b := h
theorem Dif.out' {a b : Addr} (h : Dif b a) : @Ne Nat a b := fun e => h (Eq.symm e)
/-- the same facts for the whole of the law -/
structure Fix (w : World) (d x dx sd kd c : Addr) (us : List Value) : Prop where
  nm : NeM x dx sd kd
  dx_ : Dif d x
  ddx : Dif d dx
  dsd : Dif d sd
  dkd : Dif d kd
  lo : (d == sysModules) = false
  hi : IsCells us
/-- what stands between two deeds -/
structure Sta (w : World) (g : Heap) (L d x dx sd kd c D : Addr) (ta tb : Tok) (us vs : List Value) (kc nn : Nat) (oD oS oK : Obj) (n : Int) (st kp : List (Str × Bool)) (ys : List Str) (h : Heap) (m : Str → Option Value) (rest : List (Addr × Obj)) : Prop where
  F : Fr g L h m
  N : News g L h ((d, oD) :: (x, instObj 79 dx) :: (dx, dictOf [⟨PyData.keyHash w.params (Str.ofString "states"), .str (Str.ofString "states") ta, .ref sd⟩, ⟨PyData.keyHash w.params (Str.ofString "kept"), .str (Str.ofString "kept") tb, .ref kd⟩] 2) :: (sd, oS) :: (kd, oK) :: (c, listOf (List.toArray us) kc) :: (D, listOf (List.toArray vs) nn) :: rest)
  mdeck : m (Str.ofString "deck") = some (.ref d)
  mmodes : m (Str.ofString "modes") = some (.ref x)
  mon : m (Str.ofString "on") = some (.ref D)
  hD : IsDeck w oD c n
  hS : Obj.IsDictOf (PySem.strKind pg w) oS (bk st)
  hK : Obj.IsDictOf (PySem.strKind pg w) oK (bk kp)
  iS : StrsAre vs ys
  off : OwnOff ((c, listOf (List.toArray us) kc) :: (D, listOf (List.toArray vs) nn) :: rest) [d, x, dx, sd, kd]
  wf : Wf st
  inv : Inv st ys
/-- the names that a deed leaves -/
structure Kept (m m' : Str → Option Value) : Prop where
  mate : m' (Str.ofString "mate") = m (Str.ofString "mate")
  was : m' (Str.ofString "was") = m (Str.ofString "was")
end Mine
namespace Mine
section
variable {w : World} {A : Around} {E : Value → Shared → Prop} {s : Shared} {h₀ : Heap} {L a b : Addr} {m : Str → Option Value} {news : List (Addr × Obj)} {Q : Value → Shared → Prop}
theorem add_pairs {g : Heap} {vs us : List Value} {ps qs : List (Int × Str)} (F : Fr h₀ L s.heap m) (N : News h₀ L s.heap news) (ha : s.heap.IsList a vs.toArray) (hb : s.heap.IsList b us.toArray) (hp : PairsIn g vs ps) (hq : PairsIn g us qs)
    (h : ∀ D h', Fr h₀ L h' m → News h₀ L h' ((D, listOf (List.toArray (vs ++ us)) 0) :: news) → (∀ p ∈ news, p.1 < D) → PairsIn g (vs ++ us) (ps ++ qs) → Q (.ref D) { s with heap := h' })
    (hz : ps.length + qs.length ≤ 1000) : wpAny (model pg w) A (binaryOp .Add (.ref a) (.ref b)) Q E s :=
  kmk_add_lit F N ha hb rfl (fun D h' F' N' l => h D h' F' N' l (hp.append hq)) (by rw [List.toList_toArray, List.toList_toArray, hp.length, hq.length, sizeLine_eq]; omega)
end
theorem off_new {c D D' : Addr} {oc oD oD' : Obj} {rest : List (Addr × Obj)} {adr : List Addr} (h : OwnOff ((c, oc) :: (D, oD) :: rest) adr) (h' : ∀ b ∈ adr, @Ne Nat b D') : OwnOff ((c, oc) :: (D', oD') :: rest) adr :=
  ownOff_cons (fun b hb => h _ (.head _) b hb) (ownOff_cons (fun b hb => Ne.symm (h' b hb)) fun p hp => h p (.tail _ (.tail _ hp)))
theorem off_mate {w : World} {c D d x dx sd kd y dy se ke : Addr} {oc oD pS pK : Obj} {tc td : Tok} {rest : List (Addr × Obj)} (h : OwnOff ((c, oc) :: (D, oD) :: rest) [d, x, dx, sd, kd]) (l : ∀ b ∈ [d, x, dx, sd, kd], (@Ne Nat b y) ∧ (@Ne Nat b dy) ∧ (@Ne Nat b se) ∧ (@Ne Nat b ke)) :
    OwnOff ((c, oc) :: (D, oD) :: (ledM w y dy se ke tc td pS pK ++ (D, oD) :: rest)) [d, x, dx, sd, kd] := by
  refine ownOff_cons (fun b hb => h _ (.head _) b hb) (ownOff_cons (fun b hb => h _ (.tail _ (.head _)) b hb) fun p hp b hb => ?_)
  rcases List.mem_append.mp hp with hp | hp
  · have q := l b hb
    rcases List.mem_cons.mp hp with rfl | hp
    · exact Ne.symm q.1
    rcases List.mem_cons.mp hp with rfl | hp
    · exact Ne.symm q.2.1
    rcases List.mem_cons.mp hp with rfl | hp
    · exact Ne.symm q.2.2.1
    rcases List.mem_cons.mp hp with rfl | hp
    · exact Ne.symm q.2.2.2
    cases hp
  · exact h p (.tail _ hp) b hb
theorem ne5m {news : List (Addr × Obj)} {P : Addr → Prop} {d x dx sd kd : Addr} {o1 o2 o3 o4 o5 : Obj} (l : ∀ p ∈ news, P p.1) (h1 : (d, o1) ∈ news) (h2 : (x, o2) ∈ news) (h3 : (dx, o3) ∈ news) (h4 : (sd, o4) ∈ news) (h5 : (kd, o5) ∈ news) : ∀ b ∈ [d, x, dx, sd, kd], P b :=
  List.forall_mem_cons.mpr ⟨l _ h1, List.forall_mem_cons.mpr ⟨l _ h2, List.forall_mem_cons.mpr ⟨l _ h3, List.forall_mem_cons.mpr ⟨l _ h4, List.forall_mem_cons.mpr ⟨l _ h5, List.forall_mem_nil _⟩⟩⟩⟩⟩
theorem News.of {g h : Heap} {L : Addr} {news news' : List (Addr × Obj)} (N : News g L h news) (hs : ∀ p ∈ news', p ∈ news) : News g L h news' := fun p hp => N p (hs p hp)
theorem ne5 {news : List (Addr × Obj)} {D d x dx sd kd : Addr} {o1 o2 o3 o4 o5 : Obj} (l : ∀ p ∈ news, @Ne Nat p.1 D) (h1 : (d, o1) ∈ news) (h2 : (x, o2) ∈ news) (h3 : (dx, o3) ∈ news) (h4 : (sd, o4) ∈ news) (h5 : (kd, o5) ∈ news) : ∀ b ∈ [d, x, dx, sd, kd], @Ne Nat b D :=
  List.forall_mem_cons.mpr ⟨l _ h1, List.forall_mem_cons.mpr ⟨l _ h2, List.forall_mem_cons.mpr ⟨l _ h3, List.forall_mem_cons.mpr ⟨l _ h4, List.forall_mem_cons.mpr ⟨l _ h5, List.forall_mem_nil _⟩⟩⟩⟩⟩
theorem law_there : lawB.length = 4 ∧ turnB.length = 3 ∧ w7B.length = 2 ∧ if8.length = 1 := by decide +kernel
end Mine
local macro_rules | `(tactic| k_ne) => `(tactic| (refine neN ?_; (try dsimp only); first | with_reducible assumption | (refine Ne.symm ?_; with_reducible assumption) | exact Mine.Dif.out (by with_reducible assumption) | exact Mine.Dif.out' (by with_reducible assumption) | (refine Nat.ne_of_lt ?_; with_reducible assumption) | (refine Nat.ne_of_gt ?_; with_reducible assumption)))
local macro_rules | `(tactic| walk_at "ledin") => `(tactic| ((repeat (refine List.forall_mem_cons.mpr ⟨by k_memK, ?_⟩)); walk_at "memext"))
local macro_rules | `(tactic| walk_at "FEnd") => `(tactic| (k_here; k_dflt (refine' Mine.FEnd.intro ?F ?N ?hs ?e); (case F | N => k_asm); (case hs => walk_at "ledin")))
namespace Mine
section
variable {w : World} {A : Around} {E : Value → Shared → Prop} {s : Shared} {h₀ : Heap} {L d : Addr} {m : Str → Option Value} {news : List (Addr × Obj)} {o : Obj} {n : Int} {t : Tok} {Q : Value → Shared → Prop} {kvs : List (Int × Value)} {ps : List (Int × Str)} {kq : List (Int × Bool)}
theorem in_tab (N : News h₀ L s.heap news) (hp : (d, o) ∈ news) (hd : o.IsDictOf (PySem.intKind pg w) kvs) (ht : TabIs kvs ps) (lo : (d == sysModules) = false) (h : Q (.bool (look ps n).isSome) { s with toks := s.toks + 1 }) :
    wpAny (model pg w) A (compareOp .In (.int n t) (.ref d)) Q E s := by
  obtain ⟨u, e⟩ := ht.valueAt n
  exact kda_in (knd := PySem.intKind _ _) N hp hd lo (intKind_is _ _ _ _) (look ps n).isSome (by rw [e, Option.isSome_map]) h
theorem in_ints (N : News h₀ L s.heap news) (hp : (d, o) ∈ news) (hd : o.IsDictOf (PySem.intKind pg w) (bk kq)) (lo : (d == sysModules) = false) (h : Q (.bool (get kq n).isSome) { s with toks := s.toks + 1 }) :
    wpAny (model pg w) A (compareOp .In (.int n t) (.ref d)) Q E s :=
  kda_in (knd := PySem.intKind _ _) N hp hd lo (intKind_is _ _ _ _) (get kq n).isSome (by rw [valueAt_bk, Option.isSome_map]) h
theorem item_tab {value slice : PySem.Expr} (N : News h₀ L s.heap news) (hp : (d, o) ∈ news) (hd : o.IsDictOf (PySem.intKind pg w) kvs) (ht : TabIs kvs ps) (hs : (look ps n).isSome = true) (h : ∀ x u, look ps n = some x → Q (.str x u) { s with toks := s.toks + 1 })
    (h1 : subscripted slice false (.ref d) (.int n t) = operate [.ref d, .int n t] (getItem (.ref d) (.int n t)) := by with_unfolding_all rfl) (h2 : ∀ r, letTemporaryGo value (.ref d) r = pure () := by intro _; with_unfolding_all rfl) :
    wpAny (model pg w) A (subscriptTail value slice (.ref d) (.int n t)) Q E s := by
  obtain ⟨x, hx⟩ := Option.isSome_iff_exists.mp hs
  obtain ⟨u, e⟩ := ht.valueAt n
  exact kda_item (knd := PySem.intKind _ _) (v := .str x u) N hp hd (intKind_is _ _ _ _) (by rw [e, hx]; rfl) (h x u hx) h1 h2
theorem getItem_tab (N : News h₀ L s.heap news) (hp : (d, o) ∈ news) (hd : o.IsDictOf (PySem.intKind pg w) kvs) (ht : TabIs kvs ps) (hs : (look ps n).isSome = true) (h : ∀ x u, look ps n = some x → Q (.str x u) { s with toks := s.toks + 1 }) :
    wpAny (model pg w) A (getItem (.ref d) (.int n t)) Q E s := by
  obtain ⟨x, hx⟩ := Option.isSome_iff_exists.mp hs
  obtain ⟨u, e⟩ := ht.valueAt n
  exact wpAny_getItem_of (knd := PySem.intKind _ _) (v := .str x u) (intKind_is _ _ _ _) (kda_dict N hp hd).mapOf (by rw [e, hx]; rfl) (h x u hx)
theorem item_ints {value slice : PySem.Expr} (N : News h₀ L s.heap news) (hp : (d, o) ∈ news) (hd : o.IsDictOf (PySem.intKind pg w) (bk kq)) (hs : (get kq n).isSome = true) (h : ∀ b, get kq n = some b → Q (.bool b) { s with toks := s.toks + 1 })
    (h1 : subscripted slice false (.ref d) (.int n t) = operate [.ref d, .int n t] (getItem (.ref d) (.int n t)) := by with_unfolding_all rfl) (h2 : ∀ r, letTemporaryGo value (.ref d) r = pure () := by intro _; with_unfolding_all rfl) :
    wpAny (model pg w) A (subscriptTail value slice (.ref d) (.int n t)) Q E s := by
  obtain ⟨b, hb⟩ := Option.isSome_iff_exists.mp hs
  exact kda_item (knd := PySem.intKind _ _) (v := .bool b) N hp hd (intKind_is _ _ _ _) (by rw [valueAt_bk, hb]; rfl) (h b hb) h1 h2
theorem getItem_ints (N : News h₀ L s.heap news) (hp : (d, o) ∈ news) (hd : o.IsDictOf (PySem.intKind pg w) (bk kq)) (hs : (get kq n).isSome = true) (h : ∀ b, get kq n = some b → Q (.bool b) { s with toks := s.toks + 1 }) :
    wpAny (model pg w) A (getItem (.ref d) (.int n t)) Q E s := by
  obtain ⟨b, hb⟩ := Option.isSome_iff_exists.mp hs
  exact wpAny_getItem_of (knd := PySem.intKind _ _) (v := .bool b) (intKind_is _ _ _ _) (kda_dict N hp hd).mapOf (by rw [valueAt_bk, hb]; rfl) (h b hb)
theorem set_int {g : Obj → List (Addr × Obj)} {b : Bool} {Q : Unit → Shared → Prop} (F : Fr h₀ L s.heap m) (N : News h₀ L s.heap news) (U : UpdF d o news g) (hd : o.IsDictOf (PySem.intKind pg w) (bk kq)) (hsz : kq.length ≤ 1000)
    (h : ∀ h' o', Fr h₀ L h' m → News h₀ L h' (g o') → o'.IsDictOf (PySem.intKind pg w) (bk (put kq n b)) → Q () { s with heap := h', toks := s.toks + 1 }) :
    wpAny (model pg w) A (setItem (.ref d) (.int n t) (.bool b)) Q E s :=
  kda_set (knd := PySem.intKind _ _) F N U hd (intKind_is _ _ _ _) (by rw [bk_length, sizeLine_eq]; omega) fun h' o' F' N' hd' => h h' o' F' N' (by rw [stored_bk] at hd'; exact hd')
end
/-- what the law keeps beside the modes: kept, known, and their cells -/
structure KSt (w : World) (L K kn : Addr) (oQ oN ocN ocK : Obj) (kvs : List (Int × Value)) (kq : List (Int × Bool)) (rest : List (Addr × Obj)) : Prop where
  hQ : Obj.IsDictOf (PySem.intKind pg w) oQ (bk kq)
  hN : Obj.IsDictOf (PySem.intKind pg w) oN kvs
  tN : TabIs kvs poolP
  dN : Obj.data ocN = Data.cell (some (.ref kn))
  dK : Obj.data ocK = Data.cell (some (.ref K))
  loK : (K == sysModules) = false
  loN : (kn == sysModules) = false
  nk : Dif K kn
  off : OwnOff rest [K]
theorem data_ne {g h : Heap} {L a b : Addr} {oa ob : Obj} {news : List (Addr × Obj)} (N : News g L h news) (ha : (a, oa) ∈ news) (hb : (b, ob) ∈ news) (hne : oa.data ≠ ob.data) : Dif a b := by
  rintro rfl
  have h1 := (N _ ha).1
  rw [(N _ hb).1] at h1
  have h2 : ob = oa := Option.some.inj h1
  exact hne (by rw [h2])
theorem isDict_no_cell {K : Type} [DecidableEq K] {prog : Program} {w : World} {knd : KeyKind prog w K} {o : Obj} {kvs : List (K × Value)} (h : o.IsDictOf knd kvs) : ∀ v, o.data ≠ .cell v := by
  obtain ⟨es, ep, _, hd, _⟩ := h
  intro v e
  rw [hd] at e; cases e
theorem ne_mem {news : List (Addr × Obj)} {D b : Addr} {o : Obj} (l : ∀ p ∈ news, @Ne Nat p.1 D) (h : (b, o) ∈ news) : @Ne Nat b D := l _ h
theorem ne_mem' {news : List (Addr × Obj)} {D b : Addr} {o : Obj} (l : ∀ p ∈ news, @Ne Nat p.1 D) (h : (b, o) ∈ news) : @Ne Nat D b := fun e => l _ h e.symm
abbrev restK (L K kn : Addr) (oQ oN ocN ocK : Obj) (rest : List (Addr × Obj)) : List (Addr × Obj) := (K, oQ) :: (kn, oN) :: (L + 1 + 1, ocN) :: (L + 1, ocK) :: rest
theorem off_obj {c D K : Addr} {oc oD oQ oQ' : Obj} {rest : List (Addr × Obj)} {adr : List Addr} (h : OwnOff ((c, oc) :: (D, oD) :: (K, oQ) :: rest) adr) : OwnOff ((c, oc) :: (D, oD) :: (K, oQ') :: rest) adr :=
  ownOff_cons (fun b hb => h _ (.head _) b hb) (ownOff_cons (fun b hb => h _ (.tail _ (.head _)) b hb) (ownOff_cons (fun b hb => h _ (.tail _ (.tail _ (.head _))) b hb) fun p hp => h p (.tail _ (.tail _ (.tail _ hp)))))
end Mine
local macro_rules | `(tactic| walk_at "compareOp In int ref") => `(tactic| (k_here; (with_reducible show wpAny _ _ (compareOp CmpOp.In (Value.int _ _) (Value.ref _)) _ _ _); k_dflt (first
  | (refine' Mine.in_tab (by k_asm) (by k_memK) (by with_reducible assumption) (by assumption) (by with_reducible assumption) ?_)
  | (refine' Mine.in_ints (by k_asm) (by k_memK) (by with_reducible assumption) (by with_reducible assumption) ?_))))
local macro_rules | `(tactic| walk_at "subscriptTail") => `(tactic| (k_here; (with_reducible show wpAny _ _ (subscriptTail _ _ (Value.ref _) (Value.int _ _)) _ _ _); k_dflt (first
  | (refine' Mine.item_tab (by k_asm) (by k_memK) (by with_reducible assumption) (by assumption) (by assumption) ?_ ?h1 ?h2; (case h1 => with_unfolding_all rfl); (case h2 => intro _; with_unfolding_all rfl); intro x' u' eX')
  | (refine' Mine.item_ints (by k_asm) (by k_memK) (by with_reducible assumption) (by assumption) ?_ ?h1 ?h2; (case h1 => with_unfolding_all rfl); (case h2 => intro _; with_unfolding_all rfl); intro b' eB'))))
local macro_rules | `(tactic| walk_at "getItem ref int") => `(tactic| (k_here; (with_reducible show wpAny _ _ (getItem (Value.ref _) (Value.int _ _)) _ _ _); k_dflt (first
  | (refine' Mine.getItem_tab (by k_asm) (by k_memK) (by with_reducible assumption) (by assumption) (by assumption) ?_; intro x' u' eX')
  | (refine' Mine.getItem_ints (by k_asm) (by k_memK) (by with_reducible assumption) (by assumption) ?_; intro b' eB'))))
local macro_rules | `(tactic| walk_at "setItem ref int") => `(tactic| (k_here; (with_reducible show wpAny _ _ (setItem (Value.ref _) (Value.int _ _) (Value.bool _)) _ _ _); k_dflt (refine' Mine.set_int (by k_asm) (by k_asm) (by k_updF) (by k_asm) (by omega) ?_); intro h' o' F' N' hd'; (try dsimp only at N')))
local macro_rules | `(tactic| walk_at "compareOp In str ref") => `(tactic| (k_here; (with_reducible show wpAny _ _ (compareOp CmpOp.In (Value.str _ _) (Value.ref _)) _ _ _); k_dflt (refine in_list_strs (News.isList (by k_asm) (by k_mem)) (by with_reducible assumption) ?_)))
local macro_rules | `(tactic| k_ne) => `(tactic| (refine neN ?_; (try dsimp only); first | with_reducible assumption | (refine Ne.symm ?_; with_reducible assumption) | exact Mine.Dif.out (by with_reducible assumption) | exact Mine.Dif.out' (by with_reducible assumption) | (refine Nat.ne_of_lt ?_; with_reducible assumption) | (refine Nat.ne_of_gt ?_; with_reducible assumption) | (refine' Mine.ne_mem (by with_reducible assumption) (by k_memK)) | (refine' Mine.ne_mem' (by with_reducible assumption) (by k_memK))))
namespace Mine
section turnsx
variable {prog : Program} {w : World} {A : Around} {E : Value → Shared → Prop} {s : Shared} {env : Env} {h₀ : Heap} {target : Expr} {body : List Stmt} {Q : Flow → Shared → Prop}
theorem turns_f {I : Addr} {fp : List Addr} {n : Nat} {P : Nat → Value → Prop} {Md : Nat → Value → Heap → Prop} {St : Nat → Heap → Prop} {m₀ : Str → Option Value} {news ext₀ fixed : List (Addr × Obj)} (J : Nat → (Str → Option Value) → List (Addr × Obj) → List (Addr × Obj) → Prop) (C : Value)
    (W : KTurns prog w A target I fp [I] n (fun i v _ => P i v) Md St) (hLf : env.locals ∉ fp) (hI0 : h₀.get? I = none) (hC : ∀ i h, St i h → ∃ o, h.get? I = some o ∧ o.cls = C) (hnf : ∀ p ∈ news, p.1 ∉ fp) (hfix : ∀ p ∈ fixed, p.1 ≠ I) (hst : St 0 s.heap)
    (F : Fr h₀ env.locals s.heap m₀) (N : News h₀ env.locals s.heap (news ++ (ext₀ ++ fixed))) (hofff : OwnOff fixed (news.map (·.1))) (hoff₀ : OwnOff ext₀ (news.map (·.1))) (hc₀ : ∀ p ∈ ext₀, p.2.cls ≠ C) (hj : J 0 m₀ news ext₀)
    (turn : ∀ i v m₁ news₁ ext h tk own, i < n → P i v → news₁.map (·.1) = news.map (·.1) → OwnOff (ext ++ (fixed ++ own)) (news.map (·.1)) → (∀ p ∈ ext, p.2.cls ≠ C) → J i m₁ news₁ ext → Fr h₀ env.locals h m₁ → News h₀ env.locals h (news₁ ++ (ext ++ (fixed ++ own))) →
      wpAny (model prog w) A (assign target env v) (fun _ s₃ => wpAny (model prog w) A (execs body env) (InvPostX h₀ env.locals (J (i + 1)) (fixed ++ own) (news.map (·.1)) C { s with heap := h, toks := tk } Q) E s₃) E { s with heap := h, toks := tk })
    (done : ∀ m₁ news₁ ext h tk, J n m₁ news₁ ext → news₁.map (·.1) = news.map (·.1) → OwnOff (ext ++ fixed) (news.map (·.1)) → Fr h₀ env.locals h m₁ → News h₀ env.locals h (news₁ ++ (ext ++ fixed)) → Q .next { s with heap := h, toks := tk }) :
    TurnsAt prog w A h₀ env target body Q E (.ref I) s := by
  let J' : Nat → (Str → Option Value) → List (Addr × Obj) → Prop := fun i m₁ l => ∃ news₁ ext, l = news₁ ++ (ext ++ fixed) ∧ news₁.map (·.1) = news.map (·.1) ∧ OwnOff ext (news.map (·.1)) ∧ (∀ p ∈ ext, p.2.cls ≠ C) ∧ J i m₁ news₁ ext
  obtain ⟨oI0, hoI0, hcI0⟩ := hC 0 _ hst
  have hIf : I ∈ fp := W.sub _ (.head _)
  refine ⟨I, fp, [I], n, _, Md, St, m₀, news ++ (ext₀ ++ fixed), J', rfl, W, hLf, (fun b hb => by rw [List.mem_singleton.mp hb]; exact hI0), ?_, hst, F, N, ⟨news, ext₀, rfl, rfl, hoff₀, hc₀, hj⟩, ?_, ?_⟩
  · intro p hp hq
    rcases List.mem_append.mp hp with q | q
    · exact hnf p q (List.mem_singleton.mp hq ▸ hIf)
    · rcases List.mem_append.mp q with q | q
      · have h1 := (N p hp).1
        rw [List.mem_singleton.mp hq, hoI0] at h1
        cases h1
        exact hc₀ p q hcI0
      · exact hfix p q (List.mem_singleton.mp hq)
  · rintro i v m₁ l h tk own hin hP ⟨news₁, ext, rfl, hadr, hoff, hcls, hJ⟩ hoffI hown hown2 hall hst1 F₁ N₁
    have hsep : OwnOff own (news.map (·.1)) := by
      intro p hp b hb e
      obtain ⟨q, hq, rfl⟩ := List.mem_map.mp hb
      exact hnf q hq (e ▸ hown p hp)
    obtain ⟨oI, hoI, hcI⟩ := hC _ _ hst1
    have hIown : (I, oI) ∈ own := hall I hIf hI0 oI hoI
    have hsep2 : OwnOff (ext ++ (fixed ++ own)) (news.map (·.1)) := fun p hp b hb => (List.mem_append.mp hp).elim (fun q => hoff p q b hb) fun q => (List.mem_append.mp q).elim (fun q => hofff p q b hb) fun q => hsep p q b hb
    have N₂ : News h₀ env.locals h (news₁ ++ (ext ++ (fixed ++ own))) := fun p hp => N₁ p (by
      rcases List.mem_append.mp hp with q | q
      · exact List.mem_append_right _ (List.mem_append_left _ q)
      · rcases List.mem_append.mp q with q | q
        · exact List.mem_append_right _ (List.mem_append_right _ (List.mem_append_left _ q))
        · rcases List.mem_append.mp q with q | q
          · exact List.mem_append_right _ (List.mem_append_right _ (List.mem_append_right _ q))
          · exact List.mem_append_left _ q)
    refine wpAny_mono (turn i v m₁ news₁ ext h tk own hin hP hadr hsep2 hcls hJ F₁ N₂) (fun _ s₃ h₃ => wpAny_mono h₃ (fun f s₂ p => ?_) fun _ _ e => e) fun _ _ e => e
    have fin : InvEndX h₀ env.locals (J (i + 1)) (fixed ++ own) (news.map (·.1)) C { s with heap := h, toks := tk } s₂ → LoopStepU h₀ env.locals [I] own (J' (i + 1)) { s with heap := h, toks := tk } .next s₂ := by
      rintro ⟨h', tk', m', news', nx, ext', e, F', N', hn, he, ho, ha, hoff', hc', hm⟩
      refine ⟨rfl, h', tk', m', nx ++ (ext' ++ fixed), e, F', fun p hp => N' p ?_, fun p hp hq => ?_, nx, ext', rfl, ha, hoff', hc', hm⟩
      · rcases List.mem_append.mp hp with q | q
        · exact ho p (List.mem_append_right _ q)
        · exact (List.mem_append.mp q).elim (hn p) fun q => (List.mem_append.mp q).elim (he p) fun q => ho p (List.mem_append_left _ q)
      · rcases List.mem_append.mp hp with q | q
        · have h1 : p.1 ∈ nx.map (·.1) := List.mem_map.mpr ⟨p, q, rfl⟩
          rw [ha, List.mem_singleton.mp hq] at h1
          obtain ⟨r, hr1, hr2⟩ := List.mem_map.mp h1
          exact hnf r hr1 (hr2 ▸ hIf)
        · rcases List.mem_append.mp q with q | q
          · have h1 := (N' p (he p q)).1
            have h2 := (N' _ (ho _ (List.mem_append_right _ hIown))).1
            rw [List.mem_singleton.mp hq] at h1
            dsimp only at h2
            rw [h2] at h1
            cases h1
            exact hc' p q hcI
          · exact hfix p q (List.mem_singleton.mp hq)
    cases f with
    | ret v => exact .ret p
    | brk => exact .brk p
    | next => exact .next (fin p)
    | cont => exact .cont (fin p)
  · rintro h' tk m' l F' N' _ ⟨news₁, ext, rfl, hadr, hoff, hcls, hJ⟩
    exact done m' news₁ ext h' tk hJ hadr (fun p hp b hb => (List.mem_append.mp hp).elim (fun q => hoff p q b hb) fun q => hofff p q b hb) F' N'
theorem iter_turns_f {a : Addr} {vs : List Value} {m₀ : Str → Option Value} {news ext₀ fixed : List (Addr × Obj)} (J : Nat → (Str → Option Value) → List (Addr × Obj) → List (Addr × Obj) → Prop)
    (hh : A.handled = none) (hl : s.heap.IsList a vs.toArray) (F : Fr h₀ env.locals s.heap m₀) (N : News h₀ env.locals s.heap (news ++ (ext₀ ++ fixed))) (hofff : OwnOff fixed (news.map (·.1))) (hoff₀ : OwnOff ext₀ (news.map (·.1))) (hc₀ : ∀ p ∈ ext₀, p.2.cls ≠ .type "list_iterator") (han : ∀ p ∈ news, p.1 ≠ a) (hj : J 0 m₀ news ext₀)
    (turn : ∀ i v m₁ news₁ ext h tk own, vs[i]? = some v → news₁.map (·.1) = news.map (·.1) → OwnOff (ext ++ (fixed ++ own)) (news.map (·.1)) → (∀ p ∈ ext, p.2.cls ≠ .type "list_iterator") → J i m₁ news₁ ext → Fr h₀ env.locals h m₁ → News h₀ env.locals h (news₁ ++ (ext ++ (fixed ++ own))) →
      wpAny (model prog w) A (assign target env v) (fun _ s₃ => wpAny (model prog w) A (execs body env) (InvPostX h₀ env.locals (J (i + 1)) (fixed ++ own) (news.map (·.1)) (.type "list_iterator") { s with heap := h, toks := tk } Q) E s₃) E { s with heap := h, toks := tk })
    (done : ∀ m₁ news₁ ext h tk, J vs.length m₁ news₁ ext → news₁.map (·.1) = news.map (·.1) → OwnOff (ext ++ fixed) (news.map (·.1)) → Fr h₀ env.locals h m₁ → News h₀ env.locals h (news₁ ++ (ext ++ fixed)) → Q .next { s with heap := h, toks := tk }) :
    wpAny (model prog w) A (pyIter (.ref a)) (fun it s₂ => TurnsAt prog w A h₀ env target body Q E it s₂) E s := by
  obtain ⟨ol, hol, _, n, hd⟩ := id hl
  have hlt := Heap.lt_size hol
  have haL := fr_ne_seq F hol hd
  refine wpAny_pyIter_list hl ?_
  have W := Walks.list (prog := prog) (w := w) hh s.heap.objs.size a (Nat.ne_of_lt hlt) vs.toArray
  rw [show vs.toArray.size = vs.length from by simp] at W
  refine turns_f J (.type "list_iterator") (KTurns.ofWalks (target := target) W fun i v s Q E st q => letGo_listiter st.1 q) ?_ (fr_new F) (fun i h st => let ⟨o, ho, hc, _⟩ := st.1; ⟨o, ho, hc⟩) ?_ (fun p hp => Nat.ne_of_lt (Heap.lt_size (N p (List.mem_append_right _ (List.mem_append_right _ hp))).1)) ⟨⟨_, Heap.get?_push_size _ rfl, rfl, rfl⟩, hl.at fun o e => Heap.get?_push_of_some _ e⟩ (F.push _) (fun p hp => ⟨Heap.get?_push_of_some _ (N p hp).1, (N p hp).2⟩) hofff hoff₀ hc₀ hj ?_ done
  · intro hm
    rcases List.mem_cons.mp hm with e | hm
    · exact absurd F.ns.lt (e ▸ Nat.lt_irrefl _)
    · exact haL (List.mem_singleton.mp hm).symm
  · intro p hp hI
    rcases List.mem_cons.mp hI with e | hI
    · exact absurd (Heap.lt_size (N p (List.mem_append_left _ hp)).1) (e ▸ Nat.lt_irrefl _)
    · exact han p hp (List.mem_singleton.mp hI)
  · intro i v m₁ news₁ ext h tk own _ hP
    exact turn i v m₁ news₁ ext h tk own (by simpa using hP)
end turnsx
theorem mem_mid {α : Type} {a b : List α} {T p : α} (h : p ∈ a ++ T :: b) : p ∈ T :: (a ++ b) := by
  rcases List.mem_append.mp h with h | h
  · exact .tail _ (List.mem_append_left _ h)
  · rcases List.mem_cons.mp h with rfl | h
    · exact .head _
    · exact .tail _ (List.mem_append_right _ h)
theorem off3_sub {I C D T : Addr} {oT : Obj} {nw nw' : List (Addr × Obj)} (h : LCg.Off3 I C D nw) (h1 : @Ne Nat T I) (h2 : @Ne Nat T C) (h3 : @Ne Nat T D) (hs : ∀ p ∈ nw', p ∈ (T, oT) :: nw) : LCg.Off3 I C D nw' := LCg.Off3.of fun p hp => by
  rcases List.mem_cons.mp (hs p hp) with rfl | hp
  · exact ⟨h1, h2, h3⟩
  · exact h.mem p hp
theorem dueF_take {kq : List (Int × Bool)} {ns : List Int} {i : Nat} {n : Int} (h : ns[i]? = some n) : dueF kq (ns.take (i + 1)) = dueF kq (ns.take i) ++ (((get kq n).bind fun b => (look poolP n).map fun x => (x, b)).toList) := by
  unfold dueF
  rw [List.take_add_one, h, List.filterMap_append]
  congr 1
theorem dict_cls {K : Type} [DecidableEq K] {prog : Program} {w : World} {knd : KeyKind prog w K} {o : Obj} {kvs : List (K × Value)} (h : o.IsDictOf knd kvs) : o.cls = .type "dict" := by
  obtain ⟨es, ep, hc, _⟩ := h
  exact hc.1
theorem cls_ne_off {g h : Heap} {L a b : Addr} {oa ob : Obj} {news : List (Addr × Obj)} (N : News g L h news) (ha : (a, oa) ∈ news) (hb : (b, ob) ∈ news) (hne : oa.cls ≠ ob.cls) : Dif a b := by
  rintro rfl
  have h1 := (N _ ha).1
  rw [(N _ hb).1] at h1
  have h2 : ob = oa := Option.some.inj h1
  exact hne (by rw [h2])
theorem five_list {w : World} {g h : Heap} {L d x dx sd kd D c : Addr} {oD oS oK oM : Obj} {n : Int} {st kp : List (Str × Bool)} {vs : List Value} {nn : Nat} {news : List (Addr × Obj)} (N : News g L h news) (hd : (d, oD) ∈ news) (hx : (x, instObj 79 dx) ∈ news) (hdx : (dx, oM) ∈ news) (hs : (sd, oS) ∈ news) (hk : (kd, oK) ∈ news) (hD : (D, listOf (List.toArray vs) nn) ∈ news)
    (iD : IsDeck w oD c n) (iM : ∀ xs k, oM.data ≠ .seq xs k) (iS : Obj.IsDictOf (PySem.strKind pg w) oS (bk st)) (iK : Obj.IsDictOf (PySem.strKind pg w) oK (bk kp)) : ∀ b ∈ [d, x, dx, sd, kd], @Ne Nat b D := by
  obtain ⟨t, iD⟩ := iD
  exact List.forall_mem_cons.mpr ⟨data_ne N hd hD (isDict_no_seq iD _ _), List.forall_mem_cons.mpr ⟨data_ne N hx hD (fun e => by cases e), List.forall_mem_cons.mpr ⟨data_ne N hdx hD (iM _ _), List.forall_mem_cons.mpr ⟨data_ne N hs hD (isDict_no_seq iS _ _), List.forall_mem_cons.mpr ⟨data_ne N hk hD (isDict_no_seq iK _ _), List.forall_mem_nil _⟩⟩⟩⟩⟩
/-- the copy of the modes, and the list that the law kept beside it -/
structure MateIs (w : World) (m : Str → Option Value) (rest : List (Addr × Obj)) (y dy se ke Dw : Addr) (tc td : Tok) (pS pK : Obj) (su kpu : List (Str × Bool)) (vw : List Value) (nw : Nat) (zs : List Str) : Prop where
  mate : m (Str.ofString "mate") = some (.ref y)
  was : m (Str.ofString "was") = some (.ref Dw)
  led : ∀ p ∈ ledM w y dy se ke tc td pS pK, p ∈ rest
  on : (Dw, listOf (List.toArray vw) nw) ∈ rest
  nm : NeM y dy se ke
  hS : IsSt w pS su
  hK : IsSt w pK kpu
  wf : Wf su
  inv : Inv su zs
  iS : StrsAre vw zs
def MateOk (w : World) (m : Str → Option Value) (rest : List (Addr × Obj)) : Prop := m (Str.ofString "mate") = some .none ∨ ∃ y dy se ke Dw tc td pS pK su kpu vw nw zs, MateIs w m rest y dy se ke Dw tc td pS pK su kpu vw nw zs
theorem MateOk.mono {w : World} {m m' : Str → Option Value} {rest rest' : List (Addr × Obj)} (h : MateOk w m rest) (hm : Kept m m') (hs : ∀ p ∈ rest, p ∈ rest') : MateOk w m' rest' := by
  rcases h with h | ⟨y, dy, se, ke, Dw, tc, td, pS, pK, su, kpu, vw, nw, zs, h⟩
  · exact .inl (hm.mate.trans h)
  · exact .inr ⟨y, dy, se, ke, Dw, tc, td, pS, pK, su, kpu, vw, nw, zs, hm.mate.trans h.mate, hm.was.trans h.was, fun p hp => hs p (h.led p hp), hs _ h.on, h.nm, h.hS, h.hK, h.wf, h.inv, h.iS⟩
theorem kr_some {kp : List (Str × Bool)} {kq : List (Int × Bool)} {n : Int} (h : KeptRel kp kq) (hs : (get kq n).isSome = true) : (look poolP n).isSome = true := by
  rw [h n] at hs
  cases e : look poolP n with
  | none => rw [e] at hs; cases hs
  | some x => rfl
def prData (p : Str × Bool) : PyData := .tuple [.str p.1, .bool p.2]
theorem reads_prs {h : Heap} {ext : List (Addr × Obj)} (H : ∀ p ∈ ext, h.get? p.1 = some p.2) : ∀ {vs ps}, PrsAre ext vs ps → ∃ as, ReadsAll h vs (ps.map prData) as
  | _, _, .nil => ⟨_, .nil⟩
  | _, _, .cons a k t b m r => by
    obtain ⟨as, hr⟩ := reads_prs H r
    exact ⟨_, .cons (.tuple (H _ m) rfl rfl (.cons (.str _ _) (.cons (.bool _) .nil))) hr⟩
theorem shaped_prs {ps : List (Str × Bool)} (ok : ∀ p ∈ ps, PyData.strOk p.1 = true) : SeqAt.shaped (.list (ps.map prData)) = true := by
  have e : ∀ {ps : List (Str × Bool)}, (∀ p ∈ ps, PyData.strOk p.1 = true) → PyData.canLayAll0 (ps.map prData) = true ∧ PyData.depthAll (ps.map prData) ≤ 1 := by
    intro ps
    induction ps with
    | nil => intro _; exact ⟨rfl, Nat.zero_le _⟩
    | cons p r ih =>
      intro h
      obtain ⟨h1, h2⟩ := ih fun q hq => h q (List.mem_cons_of_mem _ hq)
      have hp := h p List.mem_cons_self
      refine ⟨?_, ?_⟩
      · simp only [List.map_cons, PyData.canLayAll0, prData, PyData.canLay0, hp, Bool.and_true, Bool.true_and]; exact h1
      · simp only [List.map_cons, PyData.depthAll, prData, PyData.depth]
        simp only [Nat.max_self]
        omega
  obtain ⟨h1, h2⟩ := e ok
  simp only [SeqAt.shaped, PyData.canLay0, PyData.depth, h1]
  simp
  omega
section
variable {w : World} {A : Around} {E : Value → Shared → Prop} {s : Shared} {h₀ : Heap} {L a b : Addr} {m : Str → Option Value} {news : List (Addr × Obj)} {Q : Value → Shared → Prop}
theorem ne_prs_same {vs us : List Value} {ps : List (Str × Bool)} {ext ext2 : List (Addr × Obj)} (ha : s.heap.IsList a vs.toArray) (hb : s.heap.IsList b us.toArray) (hp : PrsAre ext vs ps) (hq : PrsAre ext2 us ps) (N : News h₀ L s.heap news) (h1 : ∀ p ∈ ext, p ∈ news) (h2 : ∀ p ∈ ext2, p ∈ news)
    (ok : ∀ p ∈ ps, PyData.strOk p.1 = true) (hu : A.units + 64 < cLine) (h : Q (.bool false) s) : wpAny (model pg w) A (compareOp .NotEq (.ref a) (.ref b)) Q E s := by
  obtain ⟨oa, hoa, hca, na, hda⟩ := ha
  obtain ⟨ob, hob, hcb, nb, hdb⟩ := hb
  obtain ⟨as, r1⟩ := reads_prs (fun p hp => (N p (h1 p hp)).1) hp
  obtain ⟨bs, r2⟩ := reads_prs (fun p hp => (N p (h2 p hp)).1) hq
  have sh := shaped_prs ok
  have lay : PyData.canLay0 (.list (ps.map prData)) = true := by
    simp only [SeqAt.shaped, Bool.and_eq_true] at sh
    exact sh.1
  refine ne_dataH (.list hoa hca hda r1) (.list hob hcb hdb r2) sh sh hu ?_
  rw [PySem.SeqAt.eqv_refl _ lay]
  exact h
theorem tup_prs {k : Str} {t : Tok} {q : Bool} (N : News h₀ L s.heap news) (hm : (a, tupObj k t q) ∈ news) (h : Q (.ref a) s) : wpAny (model pg w) A (call (.type "tuple") [.ref a]) Q E s :=
  call_tuple_tup ⟨_, (N _ hm).1, rfl, _, rfl⟩ h
theorem unpack_prs {env : Env} {elts : List Expr} {kk} {pos : Pos} {k : Str} {t : Tok} {q : Bool} {Q : Unit → Shared → Prop} (F : Fr h₀ L s.heap m) (N : News h₀ L s.heap news) (hm : (a, tupObj k t q) ∈ news)
    (hh : A.handled = none) (hn : (assignEach elts env).length = 2) (hstar : (assignEach elts env).findIdx? (·.1) = none)
    (h : ∀ h', Fr h₀ L h' m → News h₀ L h' news → wpAny (model pg w) A (assignInOrder ((assignEach elts env).map (·.2)) [.str k t, .bool q]) Q E { s with heap := h' }) :
    wpAny (model pg w) A (assign (.Tuple elts kk pos) env (.ref a)) Q E s :=
  unpackN_ F N ⟨_, (N _ hm).1, rfl, _, rfl⟩ hh hn hstar h
end
end Mine
local macro_rules | `(tactic| walk_at "pmem") => `(tactic| first | assumption | exact List.Mem.head _ | (refine List.mem_append_right _ ?_; walk_at "pmem") | (refine List.mem_append_left _ ?_; walk_at "pmem") | (refine List.Mem.tail _ ?_; walk_at "pmem"))
local macro_rules | `(tactic| walk_at "lcend2") => `(tactic| ((try unfold Mine.Stop); (k_dflt (refine' LCg.CompEnd.intro ?F ?N _ ?sub ?off ?hS ?r)); (case off => assumption); (case F | N => k_asm); (case sub => walk_at "ledin"); (case hS => exact Or.inr ⟨_, by k_memK, rfl, _, rfl⟩)))
section
local macro_rules | `(tactic| walk_at "eval Name") => `(tactic| walk_at "nmx")
namespace Mine
section
local macro_rules | `(tactic| walk_at "binaryOp Add ref ref") => `(tactic| (k_here; (with_reducible show wpAny _ _ (binaryOp _ (Value.ref _) (Value.ref _)) _ _ _); k_dflt (refine' Mine.add_pairs (by k_asm) (by k_asm) ?a ?b ?p ?q ?_ ?z; (case a => exact Mine.list_keeps (by assumption) (Fr.keep (by k_asm))); (case b => exact Mine.list_keeps (by assumption) (Fr.keep (by k_asm))); (case p | q => assumption); (case z => decide +kernel)); intro D' h' F' N' l1 pI'; (try k_lt l1); (walk_at "splits")))
local macro_rules | `(tactic| walk_at "subscriptTail") => `(tactic| (k_here; (with_reducible show wpAny _ _ (subscriptTail _ _ (Value.ref _) (Value.int _ _)) _ _ _); k_dflt (refine' Mine.pair_item ?hl ?hp ?h0 ?h1 ?hb ?hb2 ?_ ?hs; (case hl => exact News.isList (by k_asm) (by k_mem)); (case hp | h0 | h1 => assumption); (case hb => decide +kernel); (case hb2 => decide); (case hs => with_unfolding_all rfl)); intro t' k' x' tk' tx' hT' hM'))
theorem way0 {w : World} {s : Shared} {g : Heap} {L d x dx sd kd c D : Addr} {ta tb : Tok} {us vs : List Value} {kc nn : Nat} {oD oS oK : Obj} {n : Int} {st kp : List (Str × Bool)} {ys : List Str} {m mg mb : Str → Option Value} {rest : List (Addr × Obj)} {b : List Stmt} {scope : Scope} {qual : Str} {f : Addr} {cdv : Value} {Q : Flow → Shared → Prop}
    (hb : b = w0B) (hsc : scope = lawScope) (T : TopAt w mg mb g) (FX : Fix w d x dx sd kd c us) (S : Sta w g L d x dx sd kd c D ta tb us vs kc nn oD oS oK n st kp ys s.heap m rest) (hn : 0 ≤ n) (hn' : n < 80000)
    (hQ : ∀ h' tk m' D' vs' nn' oD' oS' n' st' ys', Sta w g L d x dx sd kd c D' ta tb us vs' kc nn' oD' oS' oK n' st' kp ys' h' m' rest → Kept m m' → n ≤ n' → n' ≤ n + 10 → Q .next { s with heap := h', toks := tk }) :
    wpAny (model pg w) (lv 0) (execs b (envOfC qual scope L f cdv)) Q NE s := by
  obtain rfl : b = _ :: _ := hb
  obtain rfl : scope = ⟨_, _, _, _, _⟩ := hsc
  have X := T.X
  have TT := T.T
  obtain ⟨F, N, mdeck, mmodes, mon, hD, hS, hK, iS, off, wf, inv⟩ := S
  obtain ⟨nm, e1, e2, e3, e4, lo, hi⟩ := FX
  have ⟨n1, n2, n3, n4, n5, n6, lo1, lo2⟩ := nm
  obtain ⟨v163, h163, i163⟩ := t163 T
  obtain ⟨v168, h168, i168⟩ := t168 T
  have hst := wf.length
  have hys := inv.length wf
  k_steps
  rename Fr _ _ _ _ => F6
  rename News _ _ _ _ => N6
  rename SetL _ _ _ _ => sL
  rename StrsAre _ _ => iS6
  rename IsSt _ _ _ => hS6
  rename IsDeck _ _ _ _ => hD6
  rename (_, _) ∈ poolP ++ poolO => hM
  rename ∀ p ∈ _, @Ne Nat (Prod.fst p) _ => l6
  exact hQ _ _ _ _ _ _ _ _ _ _ _ ⟨F6, News.of N6 (by walk_at "ledin"), mdeck, mmodes, rfl, hD6, hS6, hK, iS6, off_new off (ne5 l6 (by k_memK) (by k_memK) (by k_memK) (by k_memK) (by k_memK)), wf.setM (pool_words _ hM) _, inv.set sL⟩ ⟨rfl, rfl⟩ (by omega) (by omega)
end
end Mine
namespace Mine
section
theorem way6 {w : World} {s : Shared} {g : Heap} {L d x dx sd kd c D : Addr} {ta tb : Tok} {us vs : List Value} {kc nn : Nat} {oD oS oK : Obj} {n : Int} {st kp : List (Str × Bool)} {ys : List Str} {m mg mb : Str → Option Value} {rest : List (Addr × Obj)} {b : List Stmt} {scope : Scope} {qual : Str} {f : Addr} {cdv : Value} {Q : Flow → Shared → Prop}
    (hb : b = w6B) (hsc : scope = lawScope) (T : TopAt w mg mb g) (FX : Fix w d x dx sd kd c us) (S : Sta w g L d x dx sd kd c D ta tb us vs kc nn oD oS oK n st kp ys s.heap m rest) (hn : 0 ≤ n) (hn' : n < 80000)
    (hQ : ∀ h' tk m' D' vs' nn' oD' oS' n' st' ys', Sta w g L d x dx sd kd c D' ta tb us vs' kc nn' oD' oS' oK n' st' kp ys' h' m' rest → Kept m m' → n ≤ n' → n' ≤ n + 10 → Q .next { s with heap := h', toks := tk }) :
    wpAny (model pg w) (lv 0) (execs b (envOfC qual scope L f cdv)) Q NE s := by
  obtain rfl : b = _ :: _ := hb
  obtain rfl : scope = ⟨_, _, _, _, _⟩ := hsc
  have X := T.X
  have TT := T.T
  obtain ⟨F, N, mdeck, mmodes, mon, hD, hS, hK, iS, off, wf, inv⟩ := S
  obtain ⟨nm, e1, e2, e3, e4, lo, hi⟩ := FX
  have ⟨n1, n2, n3, n4, n5, n6, lo1, lo2⟩ := nm
  have hst := wf.length
  have hys := inv.length wf
  obtain ⟨v171, h171, i171⟩ := t171 T
  k_steps
  show LCt.CompSrcT _ _ _ _ _ _ _ _ _ _ _ _ _ _ _
  rename Fr _ _ _ _ => F2
  rename News _ _ _ _ => N2
  have hlen := iS.length
  refine LCt.CompSrcT.ledger rfl F2 N2 (by k_mem) (by rw [List.size_toArray, sizeLine_eq]; omega) ?_
  intro g'
  refine rest_filter (fun y => !(wOut ++ wSoftOn).any (· == y)) iS (Or.inr ⟨_, by k_mem, rfl, _, rfl⟩) ?_ ?_
  · intro k1 t1 I oI C oC Dc m₂ ws h tk E' hk1 hC hx F3 N3 off3 ne3
    clear F2 N2
    k_steps
    all_goals (try walk_at "FEnd")
    all_goals rfl
  · intro ws hw
    have hf := filter_len (fun y => !(wOut ++ wSoftOn).any (· == y)) ys
    have hw2 := hw.length
    clear F2 N2
    k_steps
    rename Fr _ _ _ _ => F6
    rename News _ _ _ _ => N6
    rename List.Perm _ _ => pS
    rename sortedS _ = true => sS
    rename StrsAre _ _ => iS6
    rename IsSt _ _ _ => hS6
    walk_at "splits"
    exact hQ _ _ _ _ _ _ _ _ _ _ _ ⟨F6, News.of N6 (by walk_at "ledin"), mdeck, mmodes, rfl, hD, hS6, hK, iS6, off_new off (List.forall_mem_cons.mpr ⟨by k_ne, List.forall_mem_cons.mpr ⟨by k_ne, List.forall_mem_cons.mpr ⟨by k_ne, List.forall_mem_cons.mpr ⟨by k_ne, List.forall_mem_cons.mpr ⟨by k_ne, List.forall_mem_nil _⟩⟩⟩⟩⟩), wf.soft, inv.soft ⟨sS, pS⟩⟩ ⟨rfl, rfl⟩ (by omega) (by omega)
end
end Mine
namespace Mine
section
theorem way8 {w : World} {s : Shared} {g : Heap} {L d x dx sd kd c D : Addr} {ta tb : Tok} {us vs : List Value} {kc nn : Nat} {oD oS oK : Obj} {n : Int} {st kp : List (Str × Bool)} {ys : List Str} {m mg mb : Str → Option Value} {rest : List (Addr × Obj)} {b : List Stmt} {scope : Scope} {qual : Str} {f : Addr} {cdv : Value} {Q : Flow → Shared → Prop}
    (hb : b = if8) (hsc : scope = lawScope) (T : TopAt w mg mb g) (FX : Fix w d x dx sd kd c us) (S : Sta w g L d x dx sd kd c D ta tb us vs kc nn oD oS oK n st kp ys s.heap m rest) (hn : 0 ≤ n) (hn' : n < 80000)
    (hQ : ∀ h' tk m' D' vs' nn' oD' oS' n' st' ys', Sta w g L d x dx sd kd c D' ta tb us vs' kc nn' oD' oS' oK n' st' kp ys' h' m' rest → Kept m m' → n ≤ n' → n' ≤ n + 10 → Q .next { s with heap := h', toks := tk }) :
    wpAny (model pg w) (lv 0) (execs b (envOfC qual scope L f cdv)) Q NE s := by
  obtain rfl : b = _ :: _ := hb
  obtain rfl : scope = ⟨_, _, _, _, _⟩ := hsc
  have X := T.X
  have TT := T.T
  obtain ⟨F, N, mdeck, mmodes, mon, hD, hS, hK, iS, off, wf, inv⟩ := S
  obtain ⟨nm, e1, e2, e3, e4, lo, hi⟩ := FX
  have ⟨n1, n2, n3, n4, n5, n6, lo1, lo2⟩ := nm
  have hst := wf.length
  have hys := inv.length wf
  have hA : Agree st ys := inv.agree wf.nodup
  k_steps
  rename Fr _ _ _ _ => F6
  rename News _ _ _ _ => N6
  rename IsDeck _ _ _ _ => hD6
  exact hQ _ _ _ _ _ _ _ _ _ _ _ ⟨F6, N6, mdeck, mmodes, mon, hD6, hS, hK, iS, off, wf, inv⟩ ⟨rfl, rfl⟩ (by omega) (by omega)
end
end Mine
namespace Mine
section
theorem way7 {w : World} {s : Shared} {g : Heap} {L d x dx sd kd c D : Addr} {ta tb : Tok} {us vs : List Value} {kc nn : Nat} {oD oS oK : Obj} {n : Int} {st kp : List (Str × Bool)} {ys : List Str} {m mg mb : Str → Option Value} {rest : List (Addr × Obj)} {b : List Stmt} {scope : Scope} {qual : Str} {f : Addr} {cdv : Value} {Q : Flow → Shared → Prop}
    (hb : b = w7B) (hsc : scope = lawScope) (T : TopAt w mg mb g) (FX : Fix w d x dx sd kd c us) (S : Sta w g L d x dx sd kd c D ta tb us vs kc nn oD oS oK n st kp ys s.heap m rest) (hn : 0 ≤ n) (hn' : n < 80000)
    (hQ : ∀ h' tk m' y dy se ke tc td pS pK, Sta w g L d x dx sd kd c D ta tb us vs kc nn oD oS oK n st kp ys h' m' (ledM w y dy se ke tc td pS pK ++ (D, listOf (List.toArray vs) nn) :: rest) → m' (Str.ofString "mate") = some (.ref y) → m' (Str.ofString "was") = some (.ref D) → NeM y dy se ke → IsSt w pS st → IsSt w pK kp → (∀ p ∈ rest, (@Ne Nat p.1 y) ∧ (@Ne Nat p.1 dy) ∧ (@Ne Nat p.1 se) ∧ (@Ne Nat p.1 ke)) → Q .next { s with heap := h', toks := tk })
    (hkz : kp.length ≤ 900) :
    wpAny (model pg w) (lv 0) (execs b (envOfC qual scope L f cdv)) Q NE s := by
  obtain rfl : b = _ :: _ := hb
  obtain rfl : scope = ⟨_, _, _, _, _⟩ := hsc
  have X := T.X
  have TT := T.T
  obtain ⟨F, N, mdeck, mmodes, mon, hD, hS, hK, iS, off, wf, inv⟩ := S
  obtain ⟨nm, e1, e2, e3, e4, lo, hi⟩ := FX
  have ⟨n1, n2, n3, n4, n5, n6, lo1, lo2⟩ := nm
  have hst := wf.length
  have hys := inv.length wf
  have hA : Agree st ys := inv.agree wf.nodup
  have okm := wf.ok
  have ok := inv.ok wf
  k_steps
  · rename Fr _ _ _ _ => F6
    rename News _ _ _ _ => N6
    rename NeM _ _ _ _ => nm6
    rename IsSt _ _ kp => hK6
    rename IsSt _ _ st => hS6
    rename ∀ p ∈ _, (@Ne Nat (Prod.fst p) _) ∧ _ => l6
    exact hQ _ _ _ _ _ _ _ _ _ _ _ ⟨F6, News.of N6 (by dsimp only [ledM, mdict]; simp only [List.cons_append, List.nil_append]; walk_at "ledin"), mdeck, mmodes, mon, hD, hS, hK, iS, off_mate off (ne5m l6 (by k_memK) (by k_memK) (by k_memK) (by k_memK) (by k_memK)), wf, inv⟩ rfl rfl nm6 hS6 hK6 fun p hp => l6 p (by repeat (first | exact hp | refine List.Mem.tail _ ?_))
  · exfalso
    rename ¬ (_ = _) => hne
    exact hne ((hA.right _ (by assumption)).trans (hA.right _ (by assumption)).symm)
end
end Mine
namespace Mine
section
theorem way4 {w : World} {s : Shared} {g : Heap} {L d x dx sd kd c D : Addr} {ta tb : Tok} {us vs : List Value} {kc nn : Nat} {oD oS oK : Obj} {n : Int} {st kp : List (Str × Bool)} {ys : List Str} {m mg mb : Str → Option Value} {rest : List (Addr × Obj)} {b : List Stmt} {scope : Scope} {qual : Str} {f : Addr} {cdv : Value} {Q : Flow → Shared → Prop}
    (hb : b = w4B) (hsc : scope = lawScope) (T : TopAt w mg mb g) (FX : Fix w d x dx sd kd c us) (S : Sta w g L d x dx sd kd c D ta tb us vs kc nn oD oS oK n st kp ys s.heap m rest) (hn : 0 ≤ n) (hn' : n < 80000)
    {K kn : Addr} {oQ oN ocN ocK : Obj} {kvs : List (Int × Value)} {kq : List (Int × Bool)} {rest2 : List (Addr × Obj)} (hrest : rest = restK L K kn oQ oN ocN ocK rest2) (KS : KSt w L K kn oQ oN ocN ocK kvs kq rest2) (KR : KeptRel kp kq) (hkp : kp.length ≤ 800) (hkq : kq.length ≤ 800)
    (hQ : ∀ h' tk m' oD' oK' oQ' n' kp' kq', Sta w g L d x dx sd kd c D ta tb us vs kc nn oD' oS oK' n' st kp' ys h' m' (restK L K kn oQ' oN ocN ocK rest2) → Kept m m' → KSt w L K kn oQ' oN ocN ocK kvs kq' rest2 → KeptRel kp' kq' → kp'.length ≤ kp.length + 3 → kq'.length ≤ kq.length + 3 → n ≤ n' → n' ≤ n + 10 → Q .next { s with heap := h', toks := tk }) :
    wpAny (model pg w) (lv 0) (execs b (envOfC qual scope L f cdv)) Q NE s := by
  obtain rfl : b = _ :: _ := hb
  obtain rfl : scope = ⟨_, _, _, _, _⟩ := hsc
  have X := T.X
  have TT := T.T
  obtain ⟨F, N, mdeck, mmodes, mon, hD, hS, hK, iS, off, wf, inv⟩ := S
  obtain ⟨nm, e1, e2, e3, e4, lo, hi⟩ := FX
  have ⟨n1, n2, n3, n4, n5, n6, lo1, lo2⟩ := nm
  have hst := wf.length
  have hys := inv.length wf
  have hA : Agree st ys := inv.agree wf.nodup
  subst hrest
  obtain ⟨hQd, hNd, tN, dN, dK, loK, loN, nk, offK⟩ := KS
  have fK : ∀ b ∈ [d, x, dx, sd, kd], @Ne Nat K b := fun b hb => off (K, oQ) (.tail _ (.tail _ (.head _))) b hb
  have k1 : Dif K d := fK d (by k_memK)
  have k2 : Dif K x := fK x (by k_memK)
  have k3 : Dif K dx := fK dx (by k_memK)
  have k4 : Dif K sd := fK sd (by k_memK)
  have k5 : Dif K kd := fK kd (by k_memK)
  have k6 : Dif K c := data_ne N (by k_memK) (by k_memK) (isDict_no_seq hQd _ _)
  have k7 : Dif K D := data_ne N (by k_memK) (by k_memK) (isDict_no_seq hQd _ _)
  have k8 : Dif K (L + 1 + 1) := data_ne N (by k_memK) (by k_memK) (by rw [dN]; exact isDict_no_cell hQd _)
  have k9 : Dif K (L + 1) := data_ne N (by k_memK) (by k_memK) (by rw [dK]; exact isDict_no_cell hQd _)
  dsimp only [restK] at N off
  k_steps
  show wpAny _ _ _ _ _ _
  rename Fr _ _ _ _ => F2
  rename News _ _ _ _ => N2
  rename IsSt _ _ (saveF _ _ _) => hK2
  rename IntsAre _ _ => iN
  rename IsDeck _ _ _ _ => hD2
  rename ∀ k ∈ _, k ∈ poolL => hP
  rename ∀ p ∈ _, @Ne Nat (Prod.fst p) _ => l6
  rename List.length _ ≤ 3 => hz3
  rename_i hA1 tA1 oD2 n2 D2 us2 ns2 mm2 hn1 hn2 hA2 FA NA hA3 tA3 oK2
  have hz4 : kq.length ≤ 800 := hkq
  have hlen := iN.length
  refine iter_list (m₀ := fun y => if y = Str.ofString "numbers" then some (.ref D2) else m y) (news := (d, oD2) :: (x, instObj 79 dx) :: (dx, dictOf [⟨PyData.keyHash w.params (Str.ofString "states"), .str (Str.ofString "states") ta, .ref sd⟩, ⟨PyData.keyHash w.params (Str.ofString "kept"), .str (Str.ofString "kept") tb, .ref kd⟩] 2) :: (sd, oS) :: (kd, oK2) :: (c, listOf (List.toArray us) kc) :: (D, listOf (List.toArray vs) nn) :: (K, oQ) :: (kn, oN) :: (L + 1 + 1, ocN) :: (L + 1, ocK) :: rest2)
    (fun i m' nw => m' (Str.ofString "deck") = some (.ref d) ∧ m' (Str.ofString "modes") = some (.ref x) ∧ m' (Str.ofString "on") = some (.ref D) ∧ Kept m m' ∧ ∃ o', nw = (d, oD2) :: (x, instObj 79 dx) :: (dx, dictOf [⟨PyData.keyHash w.params (Str.ofString "states"), .str (Str.ofString "states") ta, .ref sd⟩, ⟨PyData.keyHash w.params (Str.ofString "kept"), .str (Str.ofString "kept") tb, .ref kd⟩] 2) :: (sd, oS) :: (kd, oK2) :: (c, listOf (List.toArray us) kc) :: (D, listOf (List.toArray vs) nn) :: (K, o') :: (kn, oN) :: (L + 1 + 1, ocN) :: (L + 1, ocK) :: rest2 ∧ Obj.IsDictOf (PySem.intKind pg w) o' (bk (keepF ys kq (ns2.take i))))
    rfl (News.isList N2 (by k_mem)) F2 (News.of N2 (by walk_at "ledin")) ?han ⟨mdeck, mmodes, mon, ⟨rfl, rfl⟩, _, rfl, hQd⟩ ?_ ?_
  case han =>
    repeat (refine List.forall_mem_cons.mpr ⟨by k_ne, ?_⟩)
    intro p hp
    exact l6 p (by repeat (first | exact hp | refine List.Mem.tail _ ?_))
  · rintro i v m₁ news₁ h tk own hv _ ho ⟨hm1, hm2, hm3, hm4, o', rfl, hQ'⟩ F3 N3
    obtain ⟨q, tq, rfl, hq⟩ := intsAre_item iN i v hv
    have hz5 := keepF_length ys kq (ns2.take i)
    have hz6 : (ns2.take i).length ≤ ns2.length := List.length_take_le' _ _
    simp only [List.cons_append] at N3
    have offKo : OwnOff (rest2 ++ own) [K] := fun p hp b hb => (List.mem_append.mp hp).elim (fun z => offK p z b hb) fun z => ho p z b (by rw [List.mem_singleton.mp hb]; k_memK)
    clear F2 N2 FA NA hQd
    k_steps
    · rename Obj.IsDictOf _ _ (bk (put _ _ _)) => hd'
      rename look poolP q = some _ => eW
      refine' InvEndN.intro (by assumption) (by assumption) ?hj ?ha ?hn ?ho
      case hj => exact ⟨hm1, hm2, hm3, ⟨hm4.1, hm4.2⟩, _, rfl, by rw [keepF_take hq, eW]; exact hd'⟩
      case ha => rfl
      case hn => walk_at "ledin"
      case ho => walk_at "memext"
    · rename (look poolP q).isSome = false => eW
      refine' InvEndN.intro (by assumption) (by assumption) ?hj ?ha ?hn ?ho
      case hj => exact ⟨hm1, hm2, hm3, ⟨hm4.1, hm4.2⟩, _, rfl, by rw [keepF_take hq, none_of_false eW]; exact hQ'⟩
      case ha => rfl
      case hn => walk_at "ledin"
      case ho => walk_at "memext"
  · rintro m₁ news₁ h tk ⟨hm1, hm2, hm3, hm4, o', rfl, hQ'⟩ _ F3 N3
    rw [hlen, List.take_length] at hQ'
    clear F2 N2 FA NA hQd
    k_steps
    rename Fr _ _ _ _ => F6
    rename News _ _ _ _ => N6
    have hz5 := keepF_length ys kq ns2
    have hz6 := saveF_length st kp ns2
    exact hQ _ _ _ _ _ _ _ _ _ ⟨F6, N6, hm1, hm2, hm3, hD2, hS, hK2, iS, off_obj off, wf, inv⟩ hm4 ⟨hQ', hNd, tN, dN, dK, loK, loN, nk, offK⟩ (KR.save hA hP) (by omega) (by omega) (by omega) (by omega)
end
end Mine
namespace Mine
section
local macro_rules | `(tactic| walk_at "subscriptTail") => `(tactic| (k_here; (with_reducible show wpAny _ _ (subscriptTail _ _ (Value.ref _) (Value.int _ _)) _ _ _); k_dflt (refine' Mine.item_tab (by k_asm) (by k_memK) (by with_reducible assumption) (by assumption) ?hs ?_ ?h1 ?h2; (case hs => exact Mine.kr_some (by assumption) (by assumption)); (case h1 => with_unfolding_all rfl); (case h2 => intro _; with_unfolding_all rfl)); intro x' u' eX'))
local macro_rules | `(tactic| walk_at "getItem ref int") => `(tactic| (k_here; (with_reducible show wpAny _ _ (getItem (Value.ref _) (Value.int _ _)) _ _ _); k_dflt (refine' Mine.getItem_tab (by k_asm) (by k_memK) (by with_reducible assumption) (by assumption) ?hs ?_; (case hs => exact Mine.kr_some (by assumption) (by assumption))); intro x' u' eX'))
local macro_rules | `(tactic| walk_at "call type:tuple") => `(tactic| (k_here; (with_reducible show wpAny _ _ (call (Value.type "tuple") [Value.ref _]) _ _ _); k_dflt (refine' Mine.tup_prs (by k_asm) ?hm ?_; (case hm => walk_at "pmem"))))
local macro_rules | `(tactic| walk_at "compareOp NotEq ref ref") => `(tactic| (k_here; (with_reducible show wpAny _ _ (compareOp CmpOp.NotEq (Value.ref _) (Value.ref _)) _ _ _); k_dflt (refine' Mine.ne_prs_same ?ha ?hb ?hp ?hq ?N ?h1 ?h2 ?ok ?hu ?_; (case ha | hb => exact News.isList (by k_asm) (by k_mem)); (case hp | hq => assumption); (case N => k_asm); (case h1 | h2 => (intro p hp; walk_at "pmem")); (case ok => assumption); (case hu => exact Nat.le_of_ble_eq_true rfl))))
local macro_rules | `(tactic| walk_at "exec For Tuple Name cons nil") => `(tactic| (k_here; (rename Fr _ _ _ _ => lF'); (with_unfolding_all refine' For_turns lF' ?_); k_whole))
local macro_rules | `(tactic| walk_at "pyIter ref") => `(tactic| (k_here; (with_reducible show wpAny _ _ (pyIter (Value.ref _)) (fun it s₂ => TurnsAt _ _ _ _ _ _ _ _ _ it s₂) _ _); refine Mine.Stop.out ?_))
local macro_rules | `(tactic| walk_at "assign Tuple") => `(tactic| (k_here; (with_reducible show wpAny _ _ (assign (Expr.Tuple _ _ _) _ (Value.ref _)) _ _ _); k_dflt (refine' Mine.unpack_prs (by k_asm) (by k_asm) ?hm ?hh ?hn ?hs ?_; (case hm => walk_at "pmem"); (case hh | hn | hs => exact rfl)); intro h' F' N'))
theorem way5 {w : World} {s : Shared} {g : Heap} {L d x dx sd kd c D : Addr} {ta tb : Tok} {us vs : List Value} {kc nn : Nat} {oD oS oK : Obj} {n : Int} {st kp : List (Str × Bool)} {ys : List Str} {m mg mb : Str → Option Value} {rest : List (Addr × Obj)} {b : List Stmt} {scope : Scope} {qual : Str} {f : Addr} {cdv : Value} {Q : Flow → Shared → Prop}
    (hb : b = w5B) (hsc : scope = lawScope) (T : TopAt w mg mb g) (FX : Fix w d x dx sd kd c us) (S : Sta w g L d x dx sd kd c D ta tb us vs kc nn oD oS oK n st kp ys s.heap m rest) (hn : 0 ≤ n) (hn' : n < 80000)
    {K kn : Addr} {oQ oN ocN ocK : Obj} {kvs : List (Int × Value)} {kq : List (Int × Bool)} {rest2 : List (Addr × Obj)} (hrest : rest = restK L K kn oQ oN ocN ocK rest2) (KS : KSt w L K kn oQ oN ocN ocK kvs kq rest2) (KR : KeptRel kp kq) (hkp : kp.length ≤ 800) (hkq : kq.length ≤ 800)
    (hQ : ∀ h' tk m' D' vs' nn' oD' oS' n' st' ys', Sta w g L d x dx sd kd c D' ta tb us vs' kc nn' oD' oS' oK n' st' kp ys' h' m' (restK L K kn oQ oN ocN ocK rest2) → Kept m m' → n ≤ n' → n' ≤ n + 10 → Q .next { s with heap := h', toks := tk }) :
    wpAny (model pg w) (lv 0) (execs b (envOfC qual scope L f cdv)) Q NE s := by
  obtain rfl : b = _ :: _ := hb
  obtain rfl : scope = ⟨_, _, _, _, _⟩ := hsc
  have X := T.X
  have TT := T.T
  obtain ⟨F, N, mdeck, mmodes, mon, hD, hS, hK, iS, off, wf, inv⟩ := S
  obtain ⟨nm, e1, e2, e3, e4, lo, hi⟩ := FX
  have ⟨n1, n2, n3, n4, n5, n6, lo1, lo2⟩ := nm
  have hst := wf.length
  have hys := inv.length wf
  have hA : Agree st ys := inv.agree wf.nodup
  subst hrest
  obtain ⟨hQd, hNd, tN, dN, dK, loK, loN, nk, offK⟩ := KS
  dsimp only [restK] at N off
  k_steps
  show LCt.CompSrcT _ _ _ _ _ _ _ _ _ _ _ _ _ _ _
  rename_i hA1 tA1 oD2 n2 D2 us2 ns2 mm2 l6 hD2 hn1 hn2 iN hP hz3 hA2 F2 N2
  have hlen := iN.length
  refine LCt.CompSrcT.ledger rfl F2 N2 (by k_mem) (by rw [List.size_toArray, sizeLine_eq]; omega) ?_
  intro g'
  refine rest_T (fun i ws nw => ∃ ext, nw = (D2, listOf (List.toArray us2) mm2) :: (d, oD2) :: (x, instObj 79 dx) :: (dx, dictOf [⟨PyData.keyHash w.params (Str.ofString "states"), .str (Str.ofString "states") ta, .ref sd⟩, ⟨PyData.keyHash w.params (Str.ofString "kept"), .str (Str.ofString "kept") tb, .ref kd⟩] 2) :: (sd, oS) :: (kd, oK) :: (c, listOf (List.toArray us) kc) :: (D, listOf (List.toArray vs) nn) :: (K, oQ) :: (kn, oN) :: (L + 1 + 1, ocN) :: (L + 1, ocK) :: (rest2 ++ ext) ∧ PrsAre ext ws (dueF kq (ns2.take i)) ∧ ∀ p ∈ ext, p.2.cls = .type "tuple") ⟨[], by rw [List.append_nil], .nil, fun _ h => nomatch h⟩ ?_ ?_
  · rintro i v I oI C oC Dc m₂ ws nw h tk E' hi' hv ⟨ext, rfl, hP5, hX5⟩ hC hx F3 N3 off3 ne3
    obtain ⟨q, tq, rfl, hq⟩ := intsAre_item iN i v (by simpa using hv)
    clear F2 N2
    k_steps
    · unfold Stop
      rename Fr _ _ _ _ => F6
      rename News _ _ _ _ => N6
      rename look poolP q = some _ => eX
      rename get kq q = some _ => eB
      rename (_ < _) ∧ (_ < _) ∧ _ => lt6
      refine LCg.CompEnd.intro F6 N6 ((D2, listOf (List.toArray us2) mm2) :: (d, oD2) :: (x, instObj 79 dx) :: (dx, dictOf [⟨PyData.keyHash w.params (Str.ofString "states"), .str (Str.ofString "states") ta, .ref sd⟩, ⟨PyData.keyHash w.params (Str.ofString "kept"), .str (Str.ofString "kept") tb, .ref kd⟩] 2) :: (sd, oS) :: (kd, oK) :: (c, listOf (List.toArray us) kc) :: (D, listOf (List.toArray vs) nn) :: (K, oQ) :: (kn, oN) :: (L + 1 + 1, ocN) :: (L + 1, ocK) :: (rest2 ++ (headOf N6 :: ext))) (by (repeat (refine List.forall_mem_cons.mpr ⟨by k_memK, ?_⟩)); intro p hp; have hp2 := mem_mid hp; rcases List.mem_cons.mp hp2 with rfl | hp3; exact List.Mem.head _; repeat (first | exact hp3 | refine List.Mem.tail _ ?_)) (off3_sub off3 (T := (headOf N6).1) (oT := (headOf N6).2) (Nat.ne_of_gt lt6.1) (Nat.ne_of_gt lt6.2.1) (Nat.ne_of_gt lt6.2.2.1) (by (repeat (refine List.forall_mem_cons.mpr ⟨by k_memK, ?_⟩)); intro p hp; have hp2 := mem_mid hp; rcases List.mem_cons.mp hp2 with rfl | hp3; exact List.Mem.head _; repeat (first | exact hp3 | refine List.Mem.tail _ ?_))) (Or.inr ⟨_, by k_memK, rfl, _, rfl⟩) ⟨_, rfl, ?_, ?_⟩
      · rw [dueF_take hq, eB, Option.bind_some, eX]
        exact PrsAre.snoc (List.Mem.head _) (hP5.mono fun p hp => List.Mem.tail _ hp)
      · exact List.forall_mem_cons.mpr ⟨rfl, hX5⟩
    · walk_at "lcend2"
      rename (get kq q).isSome = false => eB
      refine ⟨ext, rfl, ?_, hX5⟩
      rw [dueF_take hq, none_of_false eB]
      simpa using hP5
  · rintro ws nw ⟨ext, rfl, hP5, hX5⟩
    rw [List.size_toArray, hlen, List.take_length] at hP5
    clear F2 N2
    k_steps
    show LCg.CompSrc _ _ _ _ _ _ _ _ _ _ _ _ _ _
    rename_i Ddue hB1 tB1 FB NB o1B hB2 tB2 Dsv its5 nsv ext5 F5 N5 l5 hP6 hX6
    have hlen6 := hP6.length
    have hlen7 := savedF_length kp ns2
    have hsz6 : its5.toList.length = its5.size := Array.length_toList
    refine LCg.CompSrc.ledger rfl F5 N5 (.head _) (by rw [sizeLine_eq]; omega) ?_
    intro g2
    refine rest_U (fun i zs nw => nw = (Dsv, listOf its5 nsv) :: (Ddue, LCg.lst ws) :: (D2, listOf (List.toArray us2) mm2) :: (d, oD2) :: (x, instObj 79 dx) :: (dx, dictOf [⟨PyData.keyHash w.params (Str.ofString "states"), .str (Str.ofString "states") ta, .ref sd⟩, ⟨PyData.keyHash w.params (Str.ofString "kept"), .str (Str.ofString "kept") tb, .ref kd⟩] 2) :: (sd, oS) :: (kd, oK) :: (c, listOf (List.toArray us) kc) :: (D, listOf (List.toArray vs) nn) :: (K, oQ) :: (kn, oN) :: (L + 1 + 1, ocN) :: (L + 1, ocK) :: (rest2 ++ ext ++ ext5) ∧ PrsAre ext5 zs ((savedF kp ns2).take i)) ⟨rfl, .nil⟩ ?_ ?_
    · rintro i v I oI C oC Dc m₂ zs nw h tk E' hi' hv ⟨rfl, hz5⟩ hC hx F3 N3 off3 ne3
      obtain ⟨a1, k1, t1, b1, rfl, hm1, hq1⟩ := hP6.item i v (by simpa using hv)
      clear FB NB F5 N5
      k_steps
      walk_at "lcend2"
      refine ⟨rfl, ?_⟩
      rw [List.take_add_one, hq1]
      exact PrsAre.snoc hm1 hz5
    · rintro zs nw ⟨rfl, hz5⟩
      rw [show its5.size = (savedF kp ns2).length by omega, List.take_length] at hz5
      rw [KR.due hP] at hP5
      have hok5 : ∀ p ∈ savedF kp ns2, PyData.strOk p.1 = true := fun p hp => (show ∀ k ∈ allW, PyData.strOk k = true by decide +kernel) _ (savedF_words hP p hp)
      have okm := wf.ok
      have ok := inv.ok wf
      clear FB NB F5 N5
      k_steps
      show wpAny _ _ (pyIter _) _ _ _
      rename_i Dt hC1 tC1 FC NC oC1 hC2 tC2 F7 N7
      have f1 : Dif c sd := off (c, _) (by k_memK) sd (by k_memK)
      have f2 : Dif D sd := off (D, _) (by k_memK) sd (by k_memK)
      have f3 : Dif K sd := off (K, _) (by k_memK) sd (by k_memK)
      have f4 : Dif kn sd := off (kn, _) (by k_memK) sd (by k_memK)
      have f5 : Dif (L + 1 + 1) sd := off (L + 1 + 1, _) (by k_memK) sd (by k_memK)
      have f6 : Dif (L + 1) sd := off (L + 1, _) (by k_memK) sd (by k_memK)
      refine iter_turns_f (news := [(sd, oS)]) (ext₀ := [(D, listOf (List.toArray vs) nn)]) (fixed := (d, oD2) :: (x, instObj 79 dx) :: (dx, dictOf [⟨PyData.keyHash w.params (Str.ofString "states"), .str (Str.ofString "states") ta, .ref sd⟩, ⟨PyData.keyHash w.params (Str.ofString "kept"), .str (Str.ofString "kept") tb, .ref kd⟩] 2) :: (kd, oK) :: (c, listOf (List.toArray us) kc) :: (K, oQ) :: (kn, oN) :: (L + 1 + 1, ocN) :: (L + 1, ocK) :: (rest2 ++ ext5))
        (fun i m' nw ex => m' (Str.ofString "deck") = some (.ref d) ∧ m' (Str.ofString "modes") = some (.ref x) ∧ Kept m m' ∧ ∃ oS' D' vs' nn' ys', nw = [(sd, oS')] ∧ ex = [(D', listOf (List.toArray vs') nn')] ∧ m' (Str.ofString "on") = some (.ref D') ∧ Obj.IsDictOf (PySem.strKind pg w) oS' (bk (tellM st ((savedF kp ns2).take i))) ∧ StrsAre vs' ys' ∧ Wf (tellM st ((savedF kp ns2).take i)) ∧ Inv (tellM st ((savedF kp ns2).take i)) ys')
        rfl (News.isList N7 (by k_mem)) F7 (News.of N7 ?hN) ?hofff ?hoff0 ?hc0 ?han ⟨mdeck, mmodes, ⟨rfl, rfl⟩, _, _, _, _, _, rfl, rfl, mon, hS, iS, wf, inv⟩ ?_ ?_
      case hN =>
        simp only [List.cons_append, List.nil_append]
        repeat (refine List.forall_mem_cons.mpr ⟨by k_memK, ?_⟩)
        intro p hp
        rcases List.mem_append.mp hp with q | q
        · walk_at "pmem"
        · walk_at "pmem"
      case hofff =>
        suffices h : ∀ p ∈ _, @Ne Nat (Prod.fst p) sd from fun p hp b hb => by rw [List.mem_singleton.mp hb]; exact h p hp
        repeat (refine List.forall_mem_cons.mpr ⟨by k_ne, ?_⟩)
        intro p hp
        rcases List.mem_append.mp hp with q | q
        · exact off p (by repeat (first | exact q | refine List.Mem.tail _ ?_)) sd (by k_memK)
        · exact cls_ne_off N7 (by walk_at "pmem") (ob := oS) (by k_memK) (by rw [hX6 p q, dict_cls hS]; exact type_ne rfl)
      case hoff0 => exact fun p hp b hb => by rw [List.mem_singleton.mp hb, List.mem_singleton.mp hp]; exact f2
      case hc0 => exact List.forall_mem_cons.mpr ⟨type_ne rfl, List.forall_mem_nil _⟩
      case han => exact List.forall_mem_cons.mpr ⟨oC1.2.2.2.2.2.2.1, List.forall_mem_nil _⟩
      · rintro i v m₁ news₁ ext' h tk own hv _ ho hcl ⟨hm1, hm2, hm3, oS3, D3, vs3, nn3, ys3, rfl, rfl, hm4, hS3, iS3, wf3, inv3⟩ F3 N3
        obtain ⟨a1, k1, t1, b1, rfl, hmem, hq1⟩ := hz5.item i v hv
        simp only [List.cons_append, List.nil_append] at N3 ho
        simp only [List.map_cons, List.map_nil] at ho
        have hst3 := wf3.length
        have hys3 := inv3.length wf3
        have hw1 : k1 ∈ allW := savedF_words hP _ (List.mem_of_getElem? hq1)
        clear FC NC F7 N7 hS hst hys
        k_steps
        rename Fr _ _ _ _ => F8
        rename News _ _ _ _ => N8
        rename SetL _ _ _ _ => sL
        rename StrsAre _ _ => iS8
        rename IsSt _ _ _ => hS8
        rename ∀ p ∈ _, @Ne Nat (Prod.fst p) _ => l8
        have l9 := l8 (sd, _) (by k_memK)
        refine' InvEndX.intro (nx := [secondOf N8]) (ext := [headOf N8]) F8 N8 ?hj ?ha ?hn ?he ?ho ?hoff ?hc
        case hj => exact ⟨hm1, hm2, ⟨hm3.1, hm3.2⟩, _, _, _, _, _, rfl, rfl, rfl, by rw [tellM_take hq1]; exact hS8, iS8, by rw [tellM_take hq1]; exact wf3.setM hw1 _, by rw [tellM_take hq1]; exact inv3.set sL⟩
        case ha => rfl
        case hn => exact List.forall_mem_cons.mpr ⟨by k_memK, List.forall_mem_nil _⟩
        case he => exact List.forall_mem_cons.mpr ⟨by k_memK, List.forall_mem_nil _⟩
        case ho =>
          (try simp only [List.cons_append, List.nil_append])
          walk_at "ledin"
        case hoff => exact ownOff_cons (List.forall_mem_cons.mpr ⟨Ne.symm l9, List.forall_mem_nil _⟩) (fun _ h => nomatch h)
        case hc => exact List.forall_mem_cons.mpr ⟨type_ne rfl, List.forall_mem_nil _⟩
      · rintro m₁ news₁ ext' h tk ⟨hm1, hm2, hm3, oS3, D3, vs3, nn3, ys3, rfl, rfl, hm4, hS3, iS3, wf3, inv3⟩ _ ho F3 N3
        rw [show zs.length = (savedF kp ns2).length from hz5.length, List.take_length] at hS3 wf3 inv3
        simp only [List.cons_append, List.nil_append] at N3 ho
        clear FC NC F7 N7 hS hst hys
        k_steps
        rename Fr _ _ _ _ => F8
        rename News _ _ _ _ => N8
        have N9 : News g L _ ((d, oD2) :: (x, instObj 79 dx) :: (dx, dictOf [⟨PyData.keyHash w.params (Str.ofString "states"), .str (Str.ofString "states") ta, .ref sd⟩, ⟨PyData.keyHash w.params (Str.ofString "kept"), .str (Str.ofString "kept") tb, .ref kd⟩] 2) :: (sd, oS3) :: (kd, oK) :: (c, listOf (List.toArray us) kc) :: (D3, listOf (List.toArray vs3) nn3) :: (K, oQ) :: (kn, oN) :: (L + 1 + 1, ocN) :: (L + 1, ocK) :: rest2) := News.of N8 (by
          repeat (refine List.forall_mem_cons.mpr ⟨by k_memK, ?_⟩)
          intro p hp
          walk_at "pmem")
        exact hQ _ _ _ _ _ _ _ _ _ _ _ ⟨F8, N9, hm1, hm2, hm4, hD2, hS3, hK, iS3, off_new off (five_list N9 (by k_memK) (by k_memK) (by k_memK) (by k_memK) (by k_memK) (by k_memK) hD2 (fun _ _ e => by cases e) hS3 hK), wf3, inv3⟩ hm3 hn1 hn2
end
end Mine
namespace Mine
section
theorem stands_end {w : World} {s : Shared} {g : Heap} {L d x dx sd kd c D : Addr} {ta tb : Tok} {us vs : List Value} {kc nn : Nat} {oD oS oK : Obj} {n : Int} {st kp : List (Str × Bool)} {ys : List Str} {m mg mb : Str → Option Value} {rest : List (Addr × Obj)} {b : List Stmt} {scope : Scope} {qual : Str} {f : Addr} {cdv : Value} {Q : Flow → Shared → Prop}
    (hb : b = nthS turnB 2) (hsc : scope = lawScope) (T : TopAt w mg mb g) (FX : Fix w d x dx sd kd c us) (S : Sta w g L d x dx sd kd c D ta tb us vs kc nn oD oS oK n st kp ys s.heap m rest) (hn : 0 ≤ n) (hn' : n < 80000)
    (hQ : ∀ h' tk, Sta w g L d x dx sd kd c D ta tb us vs kc nn oD oS oK n st kp ys h' m rest → Q .next { s with heap := h', toks := tk }) :
    wpAny (model pg w) (lv 0) (execs b (envOfC qual scope L f cdv)) Q NE s := by
  obtain rfl : b = _ :: _ := hb
  obtain rfl : scope = ⟨_, _, _, _, _⟩ := hsc
  have X := T.X
  have TT := T.T
  obtain ⟨F, N, mdeck, mmodes, mon, hD, hS, hK, iS, off, wf, inv⟩ := S
  obtain ⟨nm, e1, e2, e3, e4, lo, hi⟩ := FX
  have ⟨n1, n2, n3, n4, n5, n6, lo1, lo2⟩ := nm
  have hst := wf.length
  have hys := inv.length wf
  have hA : Agree st ys := inv.agree wf.nodup
  have okm := wf.ok
  have ok := inv.ok wf
  k_steps
  rename Fr _ _ _ _ => F6
  rename News _ _ _ _ => N6
  exact hQ _ _ ⟨F6, N6, mdeck, mmodes, mon, hD, hS, hK, iS, off, wf, inv⟩
end
end Mine
namespace Mine
section
local macro_rules | `(tactic| walk_at "compareOp Eq ref ref") => `(tactic| (k_here; (with_reducible show wpAny _ _ (compareOp CmpOp.Eq (Value.ref _) (Value.ref _)) _ _ _); k_dflt (refine' Mine.eq_strs ?ha ?hb ?hi ?hj ?h1 ?h2 ?hu ?_; (case ha | hb => exact News.isList (by k_asm) (by k_mem)); (case hi | hj | h1 | h2 => assumption); (case hu => exact Nat.le_of_ble_eq_true rfl))))
theorem law_end {w : World} {s : Shared} {g : Heap} {L d x dx sd kd c D : Addr} {ta tb : Tok} {us vs : List Value} {kc nn : Nat} {oD oS oK : Obj} {n : Int} {st kp : List (Str × Bool)} {ys : List Str} {m mg mb : Str → Option Value} {rest : List (Addr × Obj)} {b : List Stmt} {scope : Scope} {qual : Str} {f : Addr} {cdv : Value} {Q : Flow → Shared → Prop}
    (hb : b = nthS lawB 3) (hsc : scope = lawScope) (T : TopAt w mg mb g) (FX : Fix w d x dx sd kd c us) (S : Sta w g L d x dx sd kd c D ta tb us vs kc nn oD oS oK n st kp ys s.heap m rest) (hn : 0 ≤ n) (hn' : n < 80000)
    (hM : MateOk w m rest) (hQ : ∀ h' tk, Part g h' → Q (.ret (.bool true)) { s with heap := h', toks := tk }) :
    wpAny (model pg w) (lv 0) (execs b (envOfC qual scope L f cdv)) Q NE s := by
  obtain rfl : b = _ :: _ := hb
  obtain rfl : scope = ⟨_, _, _, _, _⟩ := hsc
  have X := T.X
  have TT := T.T
  obtain ⟨F, N, mdeck, mmodes, mon, hD, hS, hK, iS, off, wf, inv⟩ := S
  obtain ⟨nm, e1, e2, e3, e4, lo, hi⟩ := FX
  have ⟨n1, n2, n3, n4, n5, n6, lo1, lo2⟩ := nm
  have hst := wf.length
  have hys := inv.length wf
  have hA : Agree st ys := inv.agree wf.nodup
  have okm := wf.ok
  have ok := inv.ok wf
  rcases hM with hM | ⟨y, dy, se, ke, Dw, tc, td, pS, pK, su, kpu, vw, nw, zs, M1, M2, M3, M4, nm2, hS2, hK2, wf2, inv2, iS2⟩
  · k_steps
    rename Fr _ _ _ _ => F6
    exact hQ _ _ (part_of F6)
  · have hA2 : Agree su zs := inv2.agree wf2.nodup
    have okm2 := wf2.ok
    have ok2 := inv2.ok wf2
    have hst2 := wf2.length
    have hys2 := inv2.length wf2
    have N2 : News g L s.heap ((d, oD) :: (x, instObj 79 dx) :: (dx, dictOf [⟨PyData.keyHash w.params (Str.ofString "states"), .str (Str.ofString "states") ta, .ref sd⟩, ⟨PyData.keyHash w.params (Str.ofString "kept"), .str (Str.ofString "kept") tb, .ref kd⟩] 2) :: (sd, oS) :: (kd, oK) :: (c, listOf (List.toArray us) kc) :: (D, listOf (List.toArray vs) nn) :: (y, instObj 79 dy) :: (dy, dictOf [⟨PyData.keyHash w.params (Str.ofString "states"), .str (Str.ofString "states") tc, .ref se⟩, ⟨PyData.keyHash w.params (Str.ofString "kept"), .str (Str.ofString "kept") td, .ref ke⟩] 2) :: (se, pS) :: (ke, pK) :: (Dw, listOf (List.toArray vw) nw) :: rest) := News.of N (by
      refine List.forall_mem_cons.mpr ⟨by k_memK, List.forall_mem_cons.mpr ⟨by k_memK, List.forall_mem_cons.mpr ⟨by k_memK, List.forall_mem_cons.mpr ⟨by k_memK, List.forall_mem_cons.mpr ⟨by k_memK, List.forall_mem_cons.mpr ⟨by k_memK, List.forall_mem_cons.mpr ⟨by k_memK, List.forall_mem_cons.mpr ⟨?_, List.forall_mem_cons.mpr ⟨?_, List.forall_mem_cons.mpr ⟨?_, List.forall_mem_cons.mpr ⟨?_, List.forall_mem_cons.mpr ⟨?_, ?_⟩⟩⟩⟩⟩⟩⟩⟩⟩⟩⟩⟩
      · exact .tail _ (.tail _ (.tail _ (.tail _ (.tail _ (.tail _ (.tail _ (M3 _ (by k_memK))))))))
      · exact .tail _ (.tail _ (.tail _ (.tail _ (.tail _ (.tail _ (.tail _ (M3 _ (by k_memK))))))))
      · exact .tail _ (.tail _ (.tail _ (.tail _ (.tail _ (.tail _ (.tail _ (M3 _ (by k_memK))))))))
      · exact .tail _ (.tail _ (.tail _ (.tail _ (.tail _ (.tail _ (.tail _ (M3 _ (by k_memK))))))))
      · exact .tail _ (.tail _ (.tail _ (.tail _ (.tail _ (.tail _ (.tail _ M4))))))
      · exact fun p hp => .tail _ (.tail _ (.tail _ (.tail _ (.tail _ (.tail _ (.tail _ hp)))))))
    clear N M3 M4
    dsimp only [IsSt] at hS2 hK2
    k_steps
    rename Fr _ _ _ _ => F6
    rename OnOf st _ => q1
    rename OnOf su _ => q2
    have e : (decide (ys = zs) == decide (zs = ys)) = true := by
      by_cases h : ys = zs
      · simp [h]
      · have h' : ¬ zs = ys := fun z => h z.symm
        simp [h, h']
    rw [hA.right _ q1, hA2.right _ q2, e]
    exact hQ _ _ (part_of F6)
end
end Mine
namespace Mine
abbrev core (w : World) (L d x dx sd kd K : Addr) (ta tb : Tok) (oD oS oK oQ ocN ocK : Obj) : List (Addr × Obj) := [(d, oD), (x, instObj 79 dx), (dx, dictOf [⟨PyData.keyHash w.params (Str.ofString "states"), .str (Str.ofString "states") ta, .ref sd⟩, ⟨PyData.keyHash w.params (Str.ofString "kept"), .str (Str.ofString "kept") tb, .ref kd⟩] 2), (sd, oS), (kd, oK), (K, oQ), (L + 1 + 1, ocN), (L + 1, ocK)]
structure LawJ (w : World) (L d x dx sd kd c K kn : Addr) (ta tb : Tok) (us : List Value) (kc : Nat) (oN ocN ocK : Obj) (i : Nat) (m : Str → Option Value) (nw ext : List (Addr × Obj)) (oD oS oK oQ : Obj) (n : Int) (st kp : List (Str × Bool)) (kq : List (Int × Bool)) (ys : List Str) (D : Addr) (vs : List Value) (nn : Nat) (more : List (Addr × Obj)) : Prop where
  nw : nw = core w L d x dx sd kd K ta tb oD oS oK oQ ocN ocK
  ext : ext = (c, listOf (List.toArray us) kc) :: (kn, oN) :: (D, listOf (List.toArray vs) nn) :: more
  mdeck : m (Str.ofString "deck") = some (.ref d)
  mmodes : m (Str.ofString "modes") = some (.ref x)
  mon : m (Str.ofString "on") = some (.ref D)
  mate : MateOk w m more
  hD : IsDeck w oD c n
  hn : 0 ≤ n
  hn2 : n ≤ 1 + 100 * i
  hS : Obj.IsDictOf (PySem.strKind pg w) oS (bk st)
  hK : Obj.IsDictOf (PySem.strKind pg w) oK (bk kp)
  hQ : Obj.IsDictOf (PySem.intKind pg w) oQ (bk kq)
  KR : KeptRel kp kq
  hkp : kp.length ≤ 3 * i
  hkq : kq.length ≤ 3 * i
  iS : StrsAre vs ys
  wf : Wf st
  inv : Inv st ys
def LawJx (w : World) (L d x dx sd kd c K kn : Addr) (ta tb : Tok) (us : List Value) (kc : Nat) (oN ocN ocK : Obj) (i : Nat) (m : Str → Option Value) (nw ext : List (Addr × Obj)) : Prop :=
  ∃ oD oS oK oQ n st kp kq ys D vs nn more, LawJ w L d x dx sd kd c K kn ta tb us kc oN ocN ocK i m nw ext oD oS oK oQ n st kp kq ys D vs nn more
/-- the end of a turn -/
theorem law_turn_end {w : World} {s₁ : Shared} {g : Heap} {L d x dx sd kd c K kn : Addr} {ta tb : Tok} {us : List Value} {kc : Nat} {oN ocN ocK : Obj} {kvs : List (Int × Value)} {i : Nat} {own : List (Addr × Obj)}
    {h' : Heap} {tk : Nat} {m' : Str → Option Value} {oD oS oK oQ : Obj} {n : Int} {st kp : List (Str × Bool)} {kq : List (Int × Bool)} {ys : List Str} {D : Addr} {vs : List Value} {nn : Nat} {more rest : List (Addr × Obj)}
    (S : Sta w g L d x dx sd kd c D ta tb us vs kc nn oD oS oK n st kp ys h' m' rest) (hs : ∀ p ∈ restK L K kn oQ oN ocN ocK (more ++ own), p ∈ rest)
    (hQ : Obj.IsDictOf (PySem.intKind pg w) oQ (bk kq)) (hN : Obj.IsDictOf (PySem.intKind pg w) oN kvs) (dN : Obj.data ocN = Data.cell (some (.ref kn))) (dK : Obj.data ocK = Data.cell (some (.ref K)))
    (hoc : OwnOff [(c, listOf (List.toArray us) kc), (kn, oN)] [d, x, dx, sd, kd, K, L + 1 + 1, L + 1]) (hmo : OwnOff more [d, x, dx, sd, kd, K, L + 1 + 1, L + 1]) (hmc : ∀ p ∈ more, p.2.cls ≠ .type "range_iterator")
    (mate : MateOk w m' more) (hn : 0 ≤ n) (hn2 : n ≤ 1 + 100 * (i + 1)) (KR : KeptRel kp kq) (hkp : kp.length ≤ 3 * (i + 1)) (hkq : kq.length ≤ 3 * (i + 1)) :
    InvEndX g L (LawJx w L d x dx sd kd c K kn ta tb us kc oN ocN ocK (i + 1)) own [d, x, dx, sd, kd, K, L + 1 + 1, L + 1] (.type "range_iterator") s₁ { s₁ with heap := h', toks := tk } := by
  obtain ⟨F, N, mdeck, mmodes, mon, hD, hS, hK, iS, off, wf, inv⟩ := S
  have up : ∀ p ∈ rest, p ∈ (d, oD) :: (x, instObj 79 dx) :: (dx, dictOf [⟨PyData.keyHash w.params (Str.ofString "states"), .str (Str.ofString "states") ta, .ref sd⟩, ⟨PyData.keyHash w.params (Str.ofString "kept"), .str (Str.ofString "kept") tb, .ref kd⟩] 2) :: (sd, oS) :: (kd, oK) :: (c, listOf (List.toArray us) kc) :: (D, listOf (List.toArray vs) nn) :: rest := fun p hp => .tail _ (.tail _ (.tail _ (.tail _ (.tail _ (.tail _ (.tail _ hp))))))
  have q1 := up _ (hs (K, oQ) (.head _))
  have q2 := up _ (hs (kn, oN) (.tail _ (.head _)))
  have q3 := up _ (hs (L + 1 + 1, ocN) (.tail _ (.tail _ (.head _))))
  have q4 := up _ (hs (L + 1, ocK) (.tail _ (.tail _ (.tail _ (.head _)))))
  have q5 : ∀ p ∈ more ++ own, p ∈ _ := fun p hp => up _ (hs p (.tail _ (.tail _ (.tail _ (.tail _ hp)))))
  have f5 := five_list N (by k_memK) (by k_memK) (by k_memK) (by k_memK) (by k_memK) (show (D, listOf (List.toArray vs) nn) ∈ _ by k_memK) hD (fun _ _ e => by cases e) hS hK
  have f6 : Dif D K := data_ne N (by k_memK) q1 (fun e => isDict_no_seq hQ _ _ e.symm)
  have f7 : Dif D (L + 1 + 1) := data_ne N (by k_memK) q3 (by rw [dN]; intro e; cases e)
  have f8 : Dif D (L + 1) := data_ne N (by k_memK) q4 (by rw [dK]; intro e; cases e)
  refine InvEndX.intro (nx := core w L d x dx sd kd K ta tb oD oS oK oQ ocN ocK) (ext := (c, listOf (List.toArray us) kc) :: (kn, oN) :: (D, listOf (List.toArray vs) nn) :: more) F N ⟨oD, oS, oK, oQ, n, st, kp, kq, ys, D, vs, nn, more, rfl, rfl, mdeck, mmodes, mon, mate, hD, hn, by omega, hS, hK, hQ, KR, hkp, hkq, iS, wf, inv⟩ rfl ?_ ?_ (fun p hp => q5 p (List.mem_append_right _ hp)) ?_ ?_
  · exact List.forall_mem_cons.mpr ⟨by k_memK, List.forall_mem_cons.mpr ⟨by k_memK, List.forall_mem_cons.mpr ⟨by k_memK, List.forall_mem_cons.mpr ⟨by k_memK, List.forall_mem_cons.mpr ⟨by k_memK, List.forall_mem_cons.mpr ⟨q1, List.forall_mem_cons.mpr ⟨q3, List.forall_mem_cons.mpr ⟨q4, List.forall_mem_nil _⟩⟩⟩⟩⟩⟩⟩⟩
  · exact List.forall_mem_cons.mpr ⟨by k_memK, List.forall_mem_cons.mpr ⟨q2, List.forall_mem_cons.mpr ⟨by k_memK, fun p hp => q5 p (List.mem_append_left _ hp)⟩⟩⟩
  · refine ownOff_cons (fun b hb => hoc _ (.head _) b hb) (ownOff_cons (fun b hb => hoc _ (.tail _ (.head _)) b hb) (ownOff_cons ?_ hmo))
    have f5' : ∀ b ∈ [d, x, dx, sd, kd], @Ne Nat D b := fun b hb e => f5 b hb e.symm
    exact List.forall_mem_cons.mpr ⟨f5' d (by k_memK), List.forall_mem_cons.mpr ⟨f5' x (by k_memK), List.forall_mem_cons.mpr ⟨f5' dx (by k_memK), List.forall_mem_cons.mpr ⟨f5' sd (by k_memK), List.forall_mem_cons.mpr ⟨f5' kd (by k_memK), List.forall_mem_cons.mpr ⟨f6, List.forall_mem_cons.mpr ⟨f7, List.forall_mem_cons.mpr ⟨f8, List.forall_mem_nil _⟩⟩⟩⟩⟩⟩⟩⟩
  · exact List.forall_mem_cons.mpr ⟨type_ne rfl, List.forall_mem_cons.mpr ⟨by rw [dict_cls hN]; exact type_ne rfl, List.forall_mem_cons.mpr ⟨type_ne rfl, hmc⟩⟩⟩
section
local macro_rules | `(tactic| walk_at "execs cons") => `(tactic| (k_here; (with_reducible show wpAny _ _ (execs (Stmt.Assign [Expr.Tuple _ _ _] _ _ :: _) _) _ _ _); refine Mine.Stop.out ?_))
local macro_rules | `(tactic| walk_at "execs cons") => `(tactic| (k_here; (with_reducible show wpAny _ _ (execs (Stmt.Assign [Expr.Name (Str.ofString "numbers") _] _ _ :: _) _) _ _ _); refine Mine.Stop.out ?_))
local macro_rules | `(tactic| walk_at "execs cons") => `(tactic| (k_here; (with_reducible show wpAny _ _ (execs (Stmt.Expr _ _ :: _) _) _ _ _); refine Mine.Stop.out ?_))
local macro_rules | `(tactic| walk_at "execs cons") => `(tactic| (k_here; (with_reducible show wpAny _ _ (execs (Stmt.If (Expr.UnaryOp _ _ _) _ _ _ :: _) _) _ _ _); refine Mine.Stop.out ?_))
theorem law_loop {w : World} {s : Shared} {g : Heap} {L d x dx sd kd c D K kn r : Addr} {ta tb : Tok} {us vs : List Value} {kc nn k : Nat} {oD oS oK oQ oN ocN ocK : Obj} {kvs : List (Int × Value)} {bb : Int} {t u v : Tok} {m₀ mg mb : Str → Option Value} {b : List Stmt} {scope : Scope} {qual : Str} {f : Addr} {cdv : Value} {Q : Flow → Shared → Prop}
    (hb : b = turnB) (hsc : scope = lawScope) (T : TopAt w mg mb g) (FX : Fix w d x dx sd kd c us) (hr : IsRange s.heap r 0 bb 1 t u v) (hbb : bb = k) (hk : k ≤ 9)
    (F : Fr g L s.heap m₀) (N : News g L s.heap (core w L d x dx sd kd K ta tb oD oS oK oQ ocN ocK ++ [(c, listOf (List.toArray us) kc), (kn, oN), (D, listOf (List.toArray vs) nn)]))
    (mdeck : m₀ (Str.ofString "deck") = some (.ref d)) (mmodes : m₀ (Str.ofString "modes") = some (.ref x)) (mon : m₀ (Str.ofString "on") = some (.ref D)) (mmate : m₀ (Str.ofString "mate") = some .none)
    (hD : IsDeck w oD c 1) (hS : Obj.IsDictOf (PySem.strKind pg w) oS (bk (stOf wFirstOn))) (hK : Obj.IsDictOf (PySem.strKind pg w) oK (bk [])) (hQd : Obj.IsDictOf (PySem.intKind pg w) oQ (bk [])) (hN : Obj.IsDictOf (PySem.intKind pg w) oN kvs) (tN : TabIs kvs poolP)
    (dN : Obj.data ocN = Data.cell (some (.ref kn))) (dK : Obj.data ocK = Data.cell (some (.ref K))) (loK : (K == sysModules) = false) (loN : (kn == sysModules) = false) (iS : StrsAre vs wFirst)
    (offE : OwnOff [(c, listOf (List.toArray us) kc), (kn, oN), (D, listOf (List.toArray vs) nn)] [d, x, dx, sd, kd, K, L + 1 + 1, L + 1]) (offF : OwnOff [(K, oQ), (L + 1 + 1, ocN), (L + 1, ocK)] [d, x, dx, sd, kd])
    (hQ : ∀ h' tk m' D' vs' nn' oD' oS' oK' n' st' kp' ys' rest', Sta w g L d x dx sd kd c D' ta tb us vs' kc nn' oD' oS' oK' n' st' kp' ys' h' m' rest' → MateOk w m' rest' → 0 ≤ n' → n' < 80000 → Fix w d x dx sd kd c us → Q .next { s with heap := h', toks := tk }) :
    wpAny (model pg w) (lv 0) (pyIter (.ref r)) (fun it s₂ => LoopAtV pg w (lv 0) g (envOfC qual scope L f cdv) (Str.ofString "turn") b Q NE it s₂) NE s := by
  obtain rfl : b = _ :: _ := hb
  obtain rfl : scope = ⟨_, _, _, _, _⟩ := hsc
  have X := T.X
  have TT := T.T
  have FX2 := FX
  obtain ⟨nm, e1, e2, e3, e4, lo, hi⟩ := FX2
  have hoc : OwnOff [(c, listOf (List.toArray us) kc), (kn, oN)] [d, x, dx, sd, kd, K, L + 1 + 1, L + 1] := ownOff_cons (fun b hb => offE _ (.head _) b hb) (ownOff_cons (fun b hb => offE _ (.tail _ (.head _)) b hb) fun _ h => nomatch h)
  have g1 : Dif K d := offF (K, oQ) (by k_memK) d (by k_memK)
  have g2 : Dif (L + 1 + 1) d := offF (L + 1 + 1, ocN) (by k_memK) d (by k_memK)
  have g3 : Dif (L + 1) d := offF (L + 1, ocK) (by k_memK) d (by k_memK)
  refine iter_range_x (n := k) (news := core w L d x dx sd kd K ta tb oD oS oK oQ ocN ocK) (ext₀ := [(c, listOf (List.toArray us) kc), (kn, oN), (D, listOf (List.toArray vs) nn)]) (LawJx w L d x dx sd kd c K kn ta tb us kc oN ocN ocK)
    rfl hr hbb (by omega) F N offE (List.forall_mem_cons.mpr ⟨type_ne rfl, List.forall_mem_cons.mpr ⟨by rw [dict_cls hN]; exact type_ne rfl, List.forall_mem_cons.mpr ⟨type_ne rfl, List.forall_mem_nil _⟩⟩⟩)
    ⟨oD, oS, oK, oQ, 1, _, [], [], _, D, vs, nn, [], rfl, rfl, mdeck, mmodes, mon, .inl mmate, hD, by omega, by omega, hS, hK, hQd, KeptRel.nil, Nat.zero_le _, Nat.zero_le _, iS, Wf.first, Inv.first⟩ ?_ ?_
  · rintro i m₁ news₁ ext h tk own ti hik - ho hcl ⟨oD1, oS1, oK1, oQ1, n1, st1, kp1, kq1, ys1, D1, vs1, nn1, more1, J⟩ F1 N1
    obtain ⟨rfl, rfl, md1, mm1, mo1, mate1, hD1, hn1, hn2, hS1, hK1, hQ1, KR1, hkp1, hkq1, iS1, wf1, inv1⟩ := J
    simp only [core, List.cons_append, List.nil_append] at N1
    simp only [core, List.cons_append, List.nil_append, List.map_cons, List.map_nil] at ho
    have hlt : (i : Int) < 9 := by omega
    have sub5 : ∀ b ∈ [d, x, dx, sd, kd], b ∈ [d, x, dx, sd, kd, K, L + 1 + 1, L + 1] := List.forall_mem_cons.mpr ⟨by k_memK, List.forall_mem_cons.mpr ⟨by k_memK, List.forall_mem_cons.mpr ⟨by k_memK, List.forall_mem_cons.mpr ⟨by k_memK, List.forall_mem_cons.mpr ⟨by k_memK, List.forall_mem_nil _⟩⟩⟩⟩⟩
    have offS : OwnOff ((c, listOf (List.toArray us) kc) :: (D1, listOf (List.toArray vs1) nn1) :: restK L K kn oQ1 oN ocN ocK (more1 ++ own)) [d, x, dx, sd, kd] :=
      ownOff_cons (fun b hb => ho _ (by k_memK) b (sub5 b hb)) (ownOff_cons (fun b hb => ho (D1, _) (by k_memK) b (sub5 b hb)) (ownOff_cons (fun b hb => offF (K, oQ) (by k_memK) b hb) (ownOff_cons (fun b hb => ho (kn, _) (by k_memK) b (sub5 b hb)) (ownOff_cons (fun b hb => offF (L + 1 + 1, ocN) (by k_memK) b hb) (ownOff_cons (fun b hb => offF (L + 1, ocK) (by k_memK) b hb) fun p hp b hb => ho p (.tail _ (.tail _ (.tail _ hp))) b (sub5 b hb))))))
    have hK8 : K ∈ [d, x, dx, sd, kd, K, L + 1 + 1, L + 1] := by k_memK
    have KS : KSt w L K kn oQ1 oN ocN ocK kvs kq1 (more1 ++ own) := ⟨hQ1, hN, tN, dN, dK, loK, loN, fun e => ho (kn, oN) (by k_memK) K hK8 e.symm, fun p hp b hb => by rw [List.mem_singleton.mp hb]; exact ho p (.tail _ (.tail _ (.tail _ hp))) K hK8⟩
    have hmo : OwnOff more1 [d, x, dx, sd, kd, K, L + 1 + 1, L + 1] := fun p hp b hb => ho p (.tail _ (.tail _ (.tail _ (List.mem_append_left _ hp)))) b hb
    have hmc : ∀ p ∈ more1, p.2.cls ≠ .type "range_iterator" := fun p hp => hcl p (.tail _ (.tail _ (.tail _ hp)))
    have mkS : ∀ {oD2 : Obj} {h2 : Heap} {m2 : Str → Option Value}, Fr g L h2 m2 → News g L h2 ((d, oD2) :: (x, instObj 79 dx) :: (dx, dictOf [⟨PyData.keyHash w.params (Str.ofString "states"), .str (Str.ofString "states") ta, .ref sd⟩, ⟨PyData.keyHash w.params (Str.ofString "kept"), .str (Str.ofString "kept") tb, .ref kd⟩] 2) :: (sd, oS1) :: (kd, oK1) :: (K, oQ1) :: (L + 1 + 1, ocN) :: (L + 1, ocK) :: (c, listOf (List.toArray us) kc) :: (kn, oN) :: (D1, listOf (List.toArray vs1) nn1) :: (more1 ++ own)) → IsDeck w oD2 c (n1 + 1) →
        m2 (Str.ofString "deck") = some (.ref d) → m2 (Str.ofString "modes") = some (.ref x) → m2 (Str.ofString "on") = some (.ref D1) → Sta w g L d x dx sd kd c D1 ta tb us vs1 kc nn1 oD2 oS1 oK1 (n1 + 1) st1 kp1 ys1 h2 m2 (restK L K kn oQ1 oN ocN ocK (more1 ++ own)) := fun F2 N2 hD2 a1 a2 a3 =>
      ⟨F2, News.of N2 (by dsimp only [restK]; walk_at "ledin"), a1, a2, a3, hD2, hS1, hK1, iS1, offS, wf1, inv1⟩
    k_steps
    · unfold Stop
      rename Fr _ _ _ _ => F2
      rename News _ _ _ _ => N2
      rename IsDeck _ _ _ _ => hD2
      have S2 := mkS F2 N2 hD2 md1 mm1 mo1
      refine way0 rfl rfl T FX S2 (by omega) (by omega) fun h2 tk2 m2 D2 vs2 nn2 oD2 oS2 n2 st2 ys2 S3 K3 q1 q2 => ?_
      k_steps
      unfold Stop
      refine stands_end rfl rfl T FX S3 (by omega) (by omega) fun h3 tk3 S4 => ?_
      k_steps
      exact law_turn_end S4 (fun p hp => hp) hQ1 hN dN dK hoc hmo hmc (mate1.mono ⟨K3.mate, K3.was⟩ (fun p hp => hp)) (by omega) (by omega) KR1 (by omega) (by omega)
    · unfold Stop
      rename Fr _ _ _ _ => F2
      rename News _ _ _ _ => N2
      rename IsDeck _ _ _ _ => hD2
      have S2 := mkS F2 N2 hD2 md1 mm1 mo1
      refine way4 rfl rfl T FX S2 (by omega) (by omega) rfl KS KR1 (by omega) (by omega) fun h2 tk2 m2 oD2 oK2 oQ2 n2 kp2 kq2 S3 K3 KS3 KR3 z1 z2 q1 q2 => ?_
      k_steps
      unfold Stop
      refine stands_end rfl rfl T FX S3 (by omega) (by omega) fun h3 tk3 S4 => ?_
      k_steps
      exact law_turn_end S4 (fun p hp => hp) KS3.hQ hN dN dK hoc hmo hmc (mate1.mono ⟨K3.mate, K3.was⟩ (fun p hp => hp)) (by omega) (by omega) KR3 (by omega) (by omega)
    · unfold Stop
      rename Fr _ _ _ _ => F2
      rename News _ _ _ _ => N2
      rename IsDeck _ _ _ _ => hD2
      have S2 := mkS F2 N2 hD2 md1 mm1 mo1
      refine way5 rfl rfl T FX S2 (by omega) (by omega) rfl KS KR1 (by omega) (by omega) fun h2 tk2 m2 D2 vs2 nn2 oD2 oS2 n2 st2 ys2 S3 K3 q1 q2 => ?_
      k_steps
      unfold Stop
      refine stands_end rfl rfl T FX S3 (by omega) (by omega) fun h3 tk3 S4 => ?_
      k_steps
      exact law_turn_end S4 (fun p hp => hp) hQ1 hN dN dK hoc hmo hmc (mate1.mono ⟨K3.mate, K3.was⟩ (fun p hp => hp)) (by omega) (by omega) KR1 (by omega) (by omega)
    · unfold Stop
      rename Fr _ _ _ _ => F2
      rename News _ _ _ _ => N2
      rename IsDeck _ _ _ _ => hD2
      have S2 := mkS F2 N2 hD2 md1 mm1 mo1
      refine way6 rfl rfl T FX S2 (by omega) (by omega) fun h2 tk2 m2 D2 vs2 nn2 oD2 oS2 n2 st2 ys2 S3 K3 q1 q2 => ?_
      k_steps
      unfold Stop
      refine stands_end rfl rfl T FX S3 (by omega) (by omega) fun h3 tk3 S4 => ?_
      k_steps
      exact law_turn_end S4 (fun p hp => hp) hQ1 hN dN dK hoc hmo hmc (mate1.mono ⟨K3.mate, K3.was⟩ (fun p hp => hp)) (by omega) (by omega) KR1 (by omega) (by omega)
    · unfold Stop
      rename Fr _ _ _ _ => F2
      rename News _ _ _ _ => N2
      rename IsDeck _ _ _ _ => hD2
      have S2 := mkS F2 N2 hD2 md1 mm1 mo1
      refine way7 rfl rfl T FX S2 (by omega) (by omega) (fun h2 tk2 m2 y dy se ke tc td pS pK S3 M1 M2 nm2 hS3 hK3 l3 => ?_) (by omega)
      k_steps
      unfold Stop
      refine stands_end rfl rfl T FX S3 (by omega) (by omega) fun h3 tk3 S4 => ?_
      k_steps
      have b5 : ∀ q ∈ ledM w y dy se ke tc td pS pK, ∀ b ∈ [d, x, dx, sd, kd], @Ne Nat q.1 b := fun q hq b hb => S3.off q (.tail _ (.tail _ (List.mem_append_left _ hq))) b hb
      have b3 : ∀ q ∈ ledM w y dy se ke tc td pS pK, ∀ b ∈ [K, L + 1 + 1, L + 1], @Ne Nat q.1 b := by
        have r1 := l3 (K, oQ1) (by k_memK)
        have r2 := l3 (L + 1 + 1, ocN) (by k_memK)
        have r3 := l3 (L + 1, ocK) (by k_memK)
        refine List.forall_mem_cons.mpr ⟨?_, List.forall_mem_cons.mpr ⟨?_, List.forall_mem_cons.mpr ⟨?_, List.forall_mem_cons.mpr ⟨?_, List.forall_mem_nil _⟩⟩⟩⟩
        · exact List.forall_mem_cons.mpr ⟨Ne.symm r1.1, List.forall_mem_cons.mpr ⟨Ne.symm r2.1, List.forall_mem_cons.mpr ⟨Ne.symm r3.1, List.forall_mem_nil _⟩⟩⟩
        · exact List.forall_mem_cons.mpr ⟨Ne.symm r1.2.1, List.forall_mem_cons.mpr ⟨Ne.symm r2.2.1, List.forall_mem_cons.mpr ⟨Ne.symm r3.2.1, List.forall_mem_nil _⟩⟩⟩
        · exact List.forall_mem_cons.mpr ⟨Ne.symm r1.2.2.1, List.forall_mem_cons.mpr ⟨Ne.symm r2.2.2.1, List.forall_mem_cons.mpr ⟨Ne.symm r3.2.2.1, List.forall_mem_nil _⟩⟩⟩
        · exact List.forall_mem_cons.mpr ⟨Ne.symm r1.2.2.2, List.forall_mem_cons.mpr ⟨Ne.symm r2.2.2.2, List.forall_mem_cons.mpr ⟨Ne.symm r3.2.2.2, List.forall_mem_nil _⟩⟩⟩
      have b8 : OwnOff (ledM w y dy se ke tc td pS pK ++ [(D1, listOf (List.toArray vs1) nn1)]) [d, x, dx, sd, kd, K, L + 1 + 1, L + 1] := fun q hq b hb => by
        rcases List.mem_append.mp hq with z | z
        · rcases List.mem_append.mp (show b ∈ [d, x, dx, sd, kd] ++ [K, L + 1 + 1, L + 1] from hb) with y1 | y1
          · exact b5 q z b y1
          · exact b3 q z b y1
        · rw [List.mem_singleton.mp z]
          exact ho (D1, listOf (List.toArray vs1) nn1) (.tail _ (.tail _ (.head _))) b hb
      refine law_turn_end (more := ledM w y dy se ke tc td pS pK ++ [(D1, listOf (List.toArray vs1) nn1)]) S4 ?_ hQ1 hN dN dK hoc b8 ?_ (.inr ⟨y, dy, se, ke, D1, tc, td, pS, pK, st1, kp1, vs1, nn1, ys1, M1, M2, fun p hp => List.mem_append_left _ hp, List.mem_append_right _ (.head _), nm2, hS3, hK3, wf1, inv1, iS1⟩) (by omega) (by omega) KR1 (by omega) (by omega)
      · refine List.forall_mem_cons.mpr ⟨List.mem_append_right _ (.tail _ (.head _)), List.forall_mem_cons.mpr ⟨List.mem_append_right _ (.tail _ (.tail _ (.head _))), List.forall_mem_cons.mpr ⟨List.mem_append_right _ (.tail _ (.tail _ (.tail _ (.head _)))), List.forall_mem_cons.mpr ⟨List.mem_append_right _ (.tail _ (.tail _ (.tail _ (.tail _ (.head _))))), fun p hp => ?_⟩⟩⟩⟩
        rcases List.mem_append.mp hp with z | z
        · rcases List.mem_append.mp z with z | z
          · exact List.mem_append_left _ z
          · rw [List.mem_singleton.mp z]; exact List.mem_append_right _ (.head _)
        · exact List.mem_append_right _ (.tail _ (.tail _ (.tail _ (.tail _ (.tail _ (List.mem_append_right _ z))))))
      · intro p hp
        rcases List.mem_append.mp hp with z | z
        · rcases List.mem_cons.mp z with rfl | z
          · intro e; cases e
          rcases List.mem_cons.mp z with rfl | z
          · exact type_ne rfl
          rcases List.mem_cons.mp z with rfl | z
          · rw [show pS.cls = _ from dict_cls hS3]; exact type_ne rfl
          rcases List.mem_cons.mp z with rfl | z
          · rw [show pK.cls = _ from dict_cls hK3]; exact type_ne rfl
          cases z
        · rw [List.mem_singleton.mp z]; exact type_ne rfl
    · unfold Stop
      rename Fr _ _ _ _ => F2
      rename News _ _ _ _ => N2
      rename IsDeck _ _ _ _ => hD2
      have S2 := mkS F2 N2 hD2 md1 mm1 mo1
      refine way8 rfl rfl T FX S2 (by omega) (by omega) fun h2 tk2 m2 D2 vs2 nn2 oD2 oS2 n2 st2 ys2 S3 K3 q1 q2 => ?_
      k_steps
      unfold Stop
      refine stands_end rfl rfl T FX S3 (by omega) (by omega) fun h3 tk3 S4 => ?_
      k_steps
      exact law_turn_end S4 (fun p hp => hp) hQ1 hN dN dK hoc hmo hmc (mate1.mono ⟨K3.mate, K3.was⟩ (fun p hp => hp)) (by omega) (by omega) KR1 (by omega) (by omega)
  · rintro m₁ news₁ ext h tk ⟨oD1, oS1, oK1, oQ1, n1, st1, kp1, kq1, ys1, D1, vs1, nn1, more1, J⟩ - ho hcl F1 N1
    obtain ⟨rfl, rfl, md1, mm1, mo1, mate1, hD1, hn1, hn2, hS1, hK1, hQ1, KR1, hkp1, hkq1, iS1, wf1, inv1⟩ := J
    simp only [core, List.cons_append, List.nil_append] at N1
    simp only [core, List.cons_append, List.nil_append, List.map_cons, List.map_nil] at ho
    have sub5 : ∀ b ∈ [d, x, dx, sd, kd], b ∈ [d, x, dx, sd, kd, K, L + 1 + 1, L + 1] := List.forall_mem_cons.mpr ⟨by k_memK, List.forall_mem_cons.mpr ⟨by k_memK, List.forall_mem_cons.mpr ⟨by k_memK, List.forall_mem_cons.mpr ⟨by k_memK, List.forall_mem_cons.mpr ⟨by k_memK, List.forall_mem_nil _⟩⟩⟩⟩⟩
    refine hQ h tk m₁ D1 vs1 nn1 oD1 oS1 oK1 n1 st1 kp1 ys1 more1 ⟨F1, News.of N1 (by walk_at "ledin"), md1, mm1, mo1, hD1, hS1, hK1, iS1, ?_, wf1, inv1⟩ mate1 hn1 (by omega) FX
    exact ownOff_cons (fun b hb => ho _ (by k_memK) b (sub5 b hb)) (ownOff_cons (fun b hb => ho (D1, _) (by k_memK) b (sub5 b hb)) fun p hp b hb => ho p (.tail _ (.tail _ (.tail _ hp))) b (sub5 b hb))
end
end Mine
namespace Mine
theorem t163o {w : World} {mg mb : Str → Option Value} {g : Heap} (T : TopAt w mg mb g) : ∃ o n vs, g.get? 163 = some o ∧ o.cls = .type "list" ∧ o.data = .seq (List.toArray vs) n ∧ o.dict = none ∧ PairsIn g vs poolP := by
  refine ⟨_, _, _, T.X 163 _ (by k_is), rfl, rfl, rfl, ?_⟩
  repeat (refine .cons (tupK T.X (by k_is)) ?_)
  exact .nil
theorem ownOff_nil {adr : List Addr} : OwnOff [] adr := fun _ h => nomatch h
theorem ne8 {a d x dx sd kd K l2 l1 : Addr} (h1 : @Ne Nat a d) (h2 : @Ne Nat a x) (h3 : @Ne Nat a dx) (h4 : @Ne Nat a sd) (h5 : @Ne Nat a kd) (h6 : @Ne Nat a K) (h7 : @Ne Nat a l2) (h8 : @Ne Nat a l1) : ∀ b ∈ [d, x, dx, sd, kd, K, l2, l1], @Ne Nat a b :=
  List.forall_mem_cons.mpr ⟨h1, List.forall_mem_cons.mpr ⟨h2, List.forall_mem_cons.mpr ⟨h3, List.forall_mem_cons.mpr ⟨h4, List.forall_mem_cons.mpr ⟨h5, List.forall_mem_cons.mpr ⟨h6, List.forall_mem_cons.mpr ⟨h7, List.forall_mem_cons.mpr ⟨h8, List.forall_mem_nil _⟩⟩⟩⟩⟩⟩⟩⟩
theorem ne5a {a d x dx sd kd : Addr} (h1 : @Ne Nat a d) (h2 : @Ne Nat a x) (h3 : @Ne Nat a dx) (h4 : @Ne Nat a sd) (h5 : @Ne Nat a kd) : ∀ b ∈ [d, x, dx, sd, kd], @Ne Nat a b :=
  List.forall_mem_cons.mpr ⟨h1, List.forall_mem_cons.mpr ⟨h2, List.forall_mem_cons.mpr ⟨h3, List.forall_mem_cons.mpr ⟨h4, List.forall_mem_cons.mpr ⟨h5, List.forall_mem_nil _⟩⟩⟩⟩⟩
theorem r_le {r : Int} (h1 : 0 ≤ r) (h2 : r < 8) : 0 ≤ 2 + r ∧ (2 + r).toNat ≤ 9 := by omega
section
local macro_rules | `(tactic| walk_at "call type:list") => `(tactic| (k_here; (with_reducible show wpAny _ _ (call (Value.type "list") [Value.ref _]) _ _ _); k_dflt (refine' Mine.list_strs (by k_asm) (by k_asm) ?hl ?hi ?hz ?_; (case hl => exact Mine.list_keeps (by assumption) (Fr.keep (by k_asm))); (case hi => assumption); (case hz => decide +kernel)); intro D' c' h' F' N' l1; (try k_lt l1); (walk_at "splits")))
local macro_rules | `(tactic| walk_at "call type:dict") => `(tactic| (k_here; (with_reducible show wpAny _ _ (call (Value.type "dict") [Value.ref _]) _ _ _); k_dflt (refine' Mine.dict_pairs_K (by exact rfl) (by k_asm) (by k_asm) ?L ?hx ?hc ?hd ?hn ?hp ?hnd ?hz ?_; (case L => exact TopRead.nolimit (by k_asm)); (case hx | hc | hd | hn | hp => assumption); (case hnd | hz => decide +kernel)); intro D' h' tk' o' kvs' F' N' l1 lo' hd' ht'; (try k_lt l1); (walk_at "splits")))
theorem law_body {w : World} {s : Shared} {g : Heap} {L a : Addr} {vs : List Value} {ns : List Int} {oN oK : Obj} {m mg mb : Str → Option Value} {b : List Stmt} {scope : Scope} {qual : Str} {f : Addr} {cdv : Value} {Q : Flow → Shared → Prop}
    (hb : b = lawB) (hsc : scope = lawScope) (T : TopAt w mg mb g) (F : Fr g L s.heap m) (N : News g L s.heap [(L + 1 + 1, oN), (L + 1, oK)]) (hm : m (Str.ofString "script") = some (.ref a)) (hl : g.IsList a vs.toArray) (hi : IntsAre vs ns) (hz : ns.length ≤ 63)
    (dN : Obj.data oN = Data.cell none) (dK : Obj.data oK = Data.cell none)
    (hQ : ∀ h' tk, Part g h' → Q (.ret (.bool true)) { s with heap := h', toks := tk }) :
    wpAny (model pg w) (lv 0) (execs b (envOfC qual scope L f cdv)) Q NE s := by
  obtain rfl : b = _ :: _ := hb
  obtain rfl : scope = ⟨_, _, _, _, _⟩ := hsc
  have X := T.X
  have TT := T.T
  obtain ⟨v172, h172, i172⟩ := t172 T
  obtain ⟨o163, n163, v163, g163, c163, d163, x163, p163⟩ := t163o T
  k_steps
  unfold Stop
  rename IsRange _ _ _ _ _ _ _ _ => hr
  rename Fr _ _ _ _ => F5
  rename News _ _ _ _ => N5
  rename NeM _ _ _ _ => nm
  rename IsDeck _ _ _ _ => hD
  rename IsCells _ => hC
  rename TabIs _ poolP => tN
  rename IsSt _ _ (stOf wFirstOn) => hS
  rename Obj.IsDictOf (PySem.strKind _ _) _ [] => hbad
  clear hbad
  rename IsSt _ _ [] => hK
  rename Obj.IsDictOf (PySem.intKind _ _) _ [] => hQd
  rename Obj.data _ = Data.cell (some _) => dN5
  revert dN5
  rename Obj.data _ = Data.cell (some _) => dK5
  intro dN5
  rename _ < (8 : Int) => hr2
  rename (0 : Int) ≤ _ => hr1
  refine' law_loop (Q := _) rfl rfl T ⟨nm, ?d1, ?d2, ?d3, ?d4, ?d5, hC⟩ hr (Int.toNat_of_nonneg ?r1).symm ?r2 F5 (News.of N5 ?hN) rfl rfl rfl rfl hD hS hK hQd ?hNd tN dN5 dK5 ?lK ?lN i172 ?oE ?oF ?fin
  case hN =>
    dsimp only [core]
    simp only [List.cons_append, List.nil_append]
    walk_at "ledin"
  case r1 => exact (r_le hr1 hr2).1
  case r2 => exact (r_le hr1 hr2).2
  case hNd => assumption
  case lK => assumption
  case lN => assumption
  case d5 => assumption
  case d1 => show @Ne Nat _ _; k_ne
  case d2 => show @Ne Nat _ _; k_ne
  case d3 => show @Ne Nat _ _; k_ne
  case d4 => show @Ne Nat _ _; k_ne
  case oE => exact ownOff_cons (ne8 (by k_ne) (by k_ne) (by k_ne) (by k_ne) (by k_ne) (by k_ne) (by k_ne) (by k_ne)) (ownOff_cons (ne8 (by k_ne) (by k_ne) (by k_ne) (by k_ne) (by k_ne) (by k_ne) (by k_ne) (by k_ne)) (ownOff_cons (ne8 (by k_ne) (by k_ne) (by k_ne) (by k_ne) (by k_ne) (by k_ne) (by k_ne) (by k_ne)) ownOff_nil))
  case oF => exact ownOff_cons (ne5a (by k_ne) (by k_ne) (by k_ne) (by k_ne) (by k_ne)) (ownOff_cons (ne5a (by k_ne) (by k_ne) (by k_ne) (by k_ne) (by k_ne)) (ownOff_cons (ne5a (by k_ne) (by k_ne) (by k_ne) (by k_ne) (by k_ne)) ownOff_nil))
  case fin =>
    intro h6 tk6 m6 D6 vs6 nn6 oD6 oS6 oK6 n6 st6 kp6 ys6 rest6 S6 M6 q1 q2 FX6
    exact law_end rfl rfl T FX6 S6 q1 q2 M6 fun h7 tk7 P7 => hQ h7 tk7 P7
end
end Mine
end
namespace Mine
theorem post_ok (a : WData) : PySem.Challenge.rw_og0234_01.row.claim.post [a] (WData.bool true) [a] = true := by with_unfolding_all rfl
end Mine
theorem PySem.Challenge.cw_og0234_01_holds : PySem.Challenge.rw_og0234_01.Holds := by
  refine Mine.hd ?_
  k_go0
  all_goals (try k_fold)
  rename Top _ _ _ _ _ _ => T0
  rename Frag.In _ _ => X0
  rename Fr _ _ _ _ => F0
  rename News _ _ _ _ => N0
  rename Heap.IsList _ _ _ => L0
  rename IntsAre _ _ => I0
  rename ¬ (_ < _) => C0
  rename Obj.data _ = _ => dK0
  revert dK0
  rename Obj.data _ = _ => dN0
  intro dK0
  rename Shared.gens _ = _ => G0
  have T : Mine.TopAt _ _ _ _ := ⟨X0, topRead_of T0⟩
  refine Mine.Under.wp (B := Mine.lv 0) (Mine.law_body (Q := _) rfl rfl T F0 N0 rfl L0 I0 ?hz dN0 dK0 fun h' tk P => ?hq) rfl rfl rfl rfl ?hd ?hu
  case hd => exact Nat.le_of_ble_eq_true rfl
  case hu => exact Nat.le_of_ble_eq_true rfl
  case hz => omega
  case hq =>
    show GoodW _ _ _ _ _ _ _
    exact ⟨.inl ⟨.bool true, .bool true, [], rfl, fun _ => rfl, .bool _, Mine.post_ok _, fun _ => ⟨.nil, fun _ h => nomatch h⟩⟩, fun b o e => P.keep b o e, rfl, G0⟩
