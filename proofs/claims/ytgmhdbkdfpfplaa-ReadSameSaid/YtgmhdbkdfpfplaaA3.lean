/- Single operations are sound: calls, panics. -/
import Derived.Test.YtgmhdbkdfpfplaaA2
import Derived.IntWalk
import Derived.ProofKit
import Derived.Carry
import Derived.OpenShut
import Derived.ChangeCalls
set_option linter.unusedVariables false
set_option linter.unusedSimpArgs false
namespace Go.Ab

section
variable {P : Program} {o : Oper} {Γ : Ctx} {s : AS} {a : Act} {w : World} {g : G} {k kp : TV → AS → Prop}

theorem callH_sound (hs : Sim Γ s a.tmps w g) {f : FuncId} {vs : List TV} {xs : List Value} (hv : TRL w g vs xs) (hrf : ∀ v ∈ vs, RefV s.h v) (hrun : (execOp a.eval o).run P w = (callFunc f xs.toArray).run P w)
    (h : callH stdE (Runs P) f s.h s.nr vs (fun v h => k v ⟨s.t, h⟩) (fun v h => kp v ⟨s.t, h⟩)) : OpS P o Γ a.tmps a w k kp := by
  obtain ⟨ln, hsubln, out, hR, hcl, hok, _, hout⟩ := h
  generalize hvs : lend stdE s.h ln vs = vs' at hR hok hout
  generalize hids : reach s.h 500 (idsL vs') [] = ids at hR hok hout
  obtain ⟨o1, o2, o3, o4'⟩ := okIds_eq hok
  have o4 : ∀ i ∈ ids, ∀ x ∈ idsO (nthO s.h i), x ∈ ids := fun i hi => (o4' i hi).2
  have hnd : ids.Nodup := by rw [← hids]; exact reach_nodup _ _ _ _ (by simp)
  have hpl : ∀ π ∈ plsL vs', OkP s.h π := by
    intro π hπ
    rw [← hvs] at hπ
    obtain ⟨v, hv, h1⟩ := plsL_mem.1 (lend_pls ln vs π hπ)
    exact hrf v hv π h1
  have hmem : ∀ i ∈ ids, ∃ p, OkP s.h ⟨i, p⟩ := by
    intro i hi
    rw [← hids] at hi
    rcases reach_mem _ _ _ _ _ hi with h1 | h1 | ⟨j, h1⟩
    · simp at h1
    · rw [idsL_pls] at h1
      obtain ⟨π, h2, rfl⟩ := List.mem_map.1 h1
      exact ⟨π.path, hpl π h2⟩
    · cases ho : nthO s.h j with
      | none => rw [ho] at h1; simp [idsO] at h1
      | some o0 =>
        rw [ho, idsO_pls] at h1
        obtain ⟨π, h2, rfl⟩ := List.mem_map.1 h1
        exact ⟨π.path, hs.refH j o0 ho π h2⟩
  have hlt : ∀ i ∈ ids, i < s.h.length := fun i hi => by obtain ⟨p, hp⟩ := hmem i hi; exact OkP_lt hp
  have hgd : ∀ {k i : Nat}, ids[k]? = some i → ids.getD k 0 = i := fun e => by simp [List.getD_eq_getElem?_getD, e]
  have hvL : TRL w (g.lend s.h ln) vs' xs := by
    rw [← hvs]
    exact lend_tr hs.hok ln vs xs (fun _ h => h) (hv.mono (fun _ _ => rfl) (fun b hb => .inl hb) fun _ _ => ⟨rfl, rfl⟩)
  have hv0 : TRL w (g.hand ids (g.lend s.h ln).Im) (renL (idx ids) vs') xs := by
    refine renL_tr hvL (fun _ _ => rfl) (fun _ h => h) fun π hπ => ?_
    have hm : π.root ∈ ids := o3 _ (by rw [idsL_pls]; exact List.mem_map.2 ⟨π, hπ, rfl⟩)
    simp only [G.hand, G.lend, Place.ren, hgd (idx_get hm)]
    exact ⟨trivial, trivial⟩
  have hk0 : HOK w (g.hand ids (g.lend s.h ln).Im) (pickO s.h (idx ids) ids) := by
    refine hand_hok hs.hok hs.refH hlt hnd o4 (fun b hb => .inl hb) (fun π v hm => ?_) (fun b hb => ?_)
    · rintro (h1 | ⟨π', v', h2, e⟩)
      · exact hs.hok.dis _ v h1
      · have := hs.hok.inj _ _ v' v e
        exact o1 _ hm (this ▸ h2)
    · rcases hb with h1 | ⟨π', v', h2, rfl⟩
      · exact hs.hok.im b h1
      · exact hs.hok.lt _ v'
  have hokr : ∀ π, OkP s.h π → π.root ∈ ids → OkP (pickO s.h (idx ids) ids) (π.ren (idx ids)) := by
    intro π v hm
    have hl := hlt _ hm
    have e : nthO s.h π.root = some s.h[π.root] := by rw [nthO_eq]; exact List.getElem?_eq_getElem hl
    refine OkP_ren (r := π.root) (r' := idx ids π.root) (o := s.h[π.root]) (f := idx ids) e ?_ v
    rw [pickO_get, idx_get hm, Option.map_some, e]
  have hr1 : ∀ v ∈ renL (idx ids) vs', RefV (pickO s.h (idx ids) ids) v := by
    intro v hv π hπ
    have : π ∈ plsL (renL (idx ids) vs') := plsL_mem.2 ⟨v, hv, hπ⟩
    rw [renL_pls] at this
    obtain ⟨π0, h1, rfl⟩ := List.mem_map.1 this
    exact hokr π0 (hpl π0 h1) (o3 _ (by rw [idsL_pls]; exact List.mem_map.2 ⟨π0, h1, rfl⟩))
  have hr2 : RefH (pickO s.h (idx ids) ids) := by
    intro r ob e π hπ
    obtain ⟨i, o0, h1, h2, rfl⟩ := hand_get hlt e
    have key : ∃ π0 ∈ plsOb o0, π = π0.ren (idx ids) := by
      cases o0 with
      | box cs =>
        simp only [renO, plsOb, renL_pls] at hπ
        obtain ⟨π0, a1, a2⟩ := List.mem_map.1 hπ
        exact ⟨π0, a1, a2.symm⟩
      | lit z els =>
        simp only [renO, plsOb] at hπ
        obtain ⟨e0, he, a1⟩ := plsLL_mem.1 hπ
        obtain ⟨e1, he1, rfl⟩ := List.mem_map.1 he
        rw [renL_pls] at a1
        obtain ⟨π0, a2, a3⟩ := List.mem_map.1 a1
        exact ⟨π0, plsLL_mem.2 ⟨e1, he1, a2⟩, a3.symm⟩
      | row nn z els => simp [renO, plsOb] at hπ
      | dead => simp [renO, plsOb] at hπ
      | free => simp [renO, plsOb] at hπ
    obtain ⟨π0, h5, rfl⟩ := key
    exact hokr π0 (hs.refH i o0 h2 π0 h5) (o4 i (List.mem_of_getElem? h1) _ (by rw [h2, idsO_pls]; exact List.mem_map.2 ⟨π0, h5, rfl⟩))
  have hnf : ∀ r, nthO (pickO s.h (idx ids) ids) r ≠ some .free := by
    intro r e
    obtain ⟨i, o0, h1, h2, h3⟩ := hand_get hlt e
    obtain ⟨p, hp⟩ := hmem i (List.mem_of_getElem? h1)
    cases o0 <;> simp [renO] at h3
    unfold OkP at hp
    simp only [h2] at hp
  have hnr : ∀ i ∈ ids, i ∉ s.nr := o2
  intro next Q hn hp
  unfold Oper.wp
  rw [hrun]
  have hD := hR.run w _ xs hv0 hk0 hr1 hr2 hnf
  unfold Does at hD
  have key : ∀ e w', OutR ⟨w, g.hand ids (g.lend s.h ln).Im, pickO s.h (idx ids) ids, 0⟩ w' e out → match e with
      | .returned v => next (a.put o.dst v) w'
      | .panicked chain => Q (.panic chain) a w'
      | .outgrown => LetsOut Q := by
    intro e w' ho
    cases out with
    | ret v objs =>
      obtain ⟨x, g1, rfl, h1, h2, h3, h4, h5⟩ := ho
      obtain ⟨g2, h6⟩ := call_back (Γ := Γ) (tm := a.tmps) (s := s) hs hlt hnd hnr h1 h2 h3 h4 h5 o1 (hcl.imp id fun h => h)
      exact hn _ _ x w' g2 hout h6
    | pan v objs =>
      obtain ⟨x, g1, rfl, h1, h2, h3, h4, h5⟩ := ho
      obtain ⟨g2, h6⟩ := call_back (Γ := Γ) (tm := a.tmps) (s := s) hs hlt hnd hnr h1 h2 h3 h4 h5 o1 (hcl.imp id fun h => h)
      exact hp _ _ x w' g2 hout h6
  split at hD
  · rename_i f' args w1 hrun'
    rw [hrun']
    exact hD.mono fun e w' ho => by have := key e w' ho; cases e <;> exact this
  · rename_i v w1 hrun'
    rw [hrun']
    exact key _ _ hD
  · exact hD.elim

theorem call_sound (hs : Sim Γ s a.tmps w g) {c : Call} {f : FuncId} {xs : List X} (ho : o.op = .call c) (hc : c.callee = .value (.func f)) (h1 : opXs c.args.toList = some xs)
    (h : callH stdE (Runs P) f s.h s.nr (evs s.ev xs) (fun v h => k v ⟨s.t, h⟩) (fun v h => kp v ⟨s.t, h⟩)) : OpS P o Γ a.tmps a w k kp := by
  obtain ⟨h2, h3⟩ := evs_sound hs h1
  refine callH_sound hs h2 h3 ?_ h
  simp only [execOp, ho, resolve, hc, Act.eval, Deferred.ofValue, Sem.run_bind, Sem.run_pure, Result.andThen_ok, invoke]
  congr 2
  simp [← Array.toList_map]
theorem calld_sound (hs : Sim Γ s a.tmps w g) {c : Call} {y : Operand} {x : X} {xs : List X} (ho : o.op = .call c) (hc : c.callee = .value y) (hy : opX y = some x) (h1 : opXs c.args.toList = some xs)
    (h : match s.ev x with
      | .fn f caps => callH stdE (Runs P) f s.h s.nr (evs s.ev xs ++ caps) (fun v h => k v ⟨s.t, h⟩) (fun v h => kp v ⟨s.t, h⟩)
      | .p (.fn f) => callH stdE (Runs P) f s.h s.nr (evs s.ev xs) (fun v h => k v ⟨s.t, h⟩) (fun v h => kp v ⟨s.t, h⟩)
      | _ => False) : OpS P o Γ a.tmps a w k kp := by
  obtain ⟨h2, h3⟩ := evs_sound hs h1
  obtain ⟨hv, hrf⟩ := hs.ev' hy
  generalize hx : a.eval y = vx at hv
  split at h
  · rename_i f caps he
    rw [he] at hv hrf
    cases hv with
    | fn _ _ vs hcs =>
      refine callH_sound hs (h2.append hcs) (fun v hv => ?_) ?_ h
      · rcases List.mem_append.1 hv with hv | hv
        · exact h3 v hv
        · exact fun π hπ => hrf π (by simp only [plsV]; exact plsL_mem.2 ⟨v, hv, hπ⟩)
      · simp only [execOp, ho, resolve, hc, hx, Deferred.ofValue, Sem.run_bind, Sem.run_pure, Result.andThen_ok, invoke]
        congr 2
        simp [← Array.toList_map]
  · rename_i f he
    rw [he] at hv hrf
    cases hv with
    | p _ _ hir =>
      cases hir with
      | fn =>
      refine callH_sound hs h2 h3 ?_ h
      simp only [execOp, ho, resolve, hc, hx, Deferred.ofValue, Sem.run_bind, Sem.run_pure, Result.andThen_ok, invoke]
      congr 2
      simp [← Array.toList_map]
  · exact h.elim

theorem panic_sound (hs : Sim Γ s a.tmps w g) {y : Operand} {x : X} {sl : Option Nat} (hrun : (execOp a.eval o).run P w = ((Instr.panic (a.eval y)).run P w).andThen fun v w => .ok (.value v) w) (h1 : opX y = some x)
    (h : wpS stdI stdB stdE sl (.panic x) s k kp) : OpS P o Γ a.tmps a w k kp := by
  obtain ⟨hv, hrf⟩ := hs.ev' h1
  simp only [wpS, wpK] at h
  intro next Q hn hp
  unfold Oper.wp
  rw [hrun]
  generalize hx : a.eval y = vx at hv
  split at h
  · rename_i t v he
    rw [he] at hv hrf
    cases hv with
    | p _ _ hir =>
      cases hir with
      | ifs _ _ z hz =>
        have : ((Instr.panic (.iface t z)).run P w) = .halt (.panic (.iface t z)) w := by simp [Instr.panic, goPanic, Sem.run]
        rw [this]
        exact hp _ s _ w g h ⟨hs, .p _ _ (.ifs t v z hz), hrf⟩
  · rename_i t v he
    rw [he] at hv hrf
    cases hv with
    | p _ _ hir =>
      cases hir with
      | ifa _ _ vs hz =>
        have : ∀ z, ((Instr.panic (.iface t z)).run P w) = .halt (.panic (.iface t z)) w := fun z => by simp [Instr.panic, goPanic, Sem.run]
        rw [this]
        exact hp _ s _ w g h ⟨hs, .p _ _ (.ifa t v vs hz), hrf⟩
  · exact h.elim

theorem run_callFunc {f : FuncId} {args : Array Value} {fn : Func} {c : Code} (hf : P.funcs[f]? = some fn) (hb : fn.body = some c) (hn : (fn.name == "runtime.NumGoroutine") = false) : (callFunc f args).run P w = .ok (.enter f args) w := by
  unfold callFunc
  simp only [Sem.run_bind, program, Sem.run, hf, Result.andThen_ok]
  simp [hn, hb, Sem.run]
end
end Go.Ab
/- Operations are sound: what precedes them; each kind. -/
set_option linter.unusedVariables false
set_option linter.unusedSimpArgs false
namespace Go.Ab

theorem Sim.drop {Γ : Ctx} {s : AS} {tm : Array Value} {w : World} {g : G} (hs : Sim Γ s tm w g) {r : Nat} : Sim Γ ⟨s.t, setO s.h r .dead⟩ tm w g := by
  have hget : ∀ q, nthO (setO s.h r .dead) q = if q = r ∧ r < s.h.length then some .dead else nthO s.h q := fun q => nthO_setO _ _ _ _
  have hvp : ∀ π, VP (setO s.h r .dead) π → VP s.h π := by
    intro π v
    have h0 := hget π.root
    split at h0
    · unfold VP at v
      rw [h0] at v
      exact v.elim
    · exact (VP_congr h0).1 v
  have hok : ∀ π, OkP s.h π → OkP (setO s.h r .dead) π := by
    intro π v
    have h0 := hget π.root
    split at h0
    · unfold OkP
      rw [h0]
      trivial
    · exact (OkP_congr h0).2 v
  refine hs.re (fun π => π) hs.tmp rfl (fun q o e => ?_) (fun π v => ⟨hvp π v, rfl⟩) (fun _ _ _ _ e => e) (fun _ _ => ⟨rfl, rfl⟩) (fun q hq => ?_) (by simpa [setO_eq] using hs.frm.len) (fun i π hπ => hok π (hs.refT i π hπ)) (fun q o e π hπ => ?_)
  · rw [hget] at e
    split at e
    · cases e; trivial
    · exact hs.hok.ob q o e
  · rw [hget]
    split
    · simp
    · exact hs.frm.nofree q hq
  · rw [hget] at e
    split at e
    · cases e; simp [plsOb] at hπ
    · exact hok π (hs.refH q o e π hπ)

theorem rootIs_kill (b : Nat) {l : List TV} {π : Place} (h : π ∈ plsL (killL (rootIs b) l)) : π.root ≠ b := by
  have := (killL_pls l π h).2
  intro e
  simp only [rootIs, e] at this
  rw [Nat.beq_refl] at this
  cases this
theorem rootIs_killV (b : Nat) {v : TV} {π : Place} (h : π ∈ plsV (killV (rootIs b) v)) : π.root ≠ b := by
  have := (killV_pls v π h).2
  intro e
  simp only [rootIs, e] at this
  rw [Nat.beq_refl] at this
  cases this
theorem mapO_mapO (f g : List TV → List TV) (o : Ob) : mapO f (mapO g o) = mapO (fun l => f (g l)) o := by
  cases o <;> simp [mapO]

theorem Sim.pre {Γ : Ctx} {s : AS} {tm : Array Value} {w : World} {g : G} (hs : Sim Γ s tm w g) {nb : Nat} (hnb : Γ.h0.length ≤ nb) (p : Pre) : ∃ g', Sim Γ (s.pre stdE nb p) tm w g' := by
  cases p with
  | frz r =>
    simp only [AS.pre]
    split
    · rename_i z0 els e
      exact ⟨_, hs.frz e⟩
    · exact ⟨g, hs⟩
  | thaw i z =>
    simp only [AS.pre]
    split
    · rename_i v e
      exact ⟨_, hs.thaw e⟩
    · exact ⟨g, hs⟩
  | thawB r j z =>
    simp only [AS.pre]
    split
    · rename_i cs e
      split
      · rename_i cs' e2
        exact ⟨_, hs.thawB e e2⟩
      · exact ⟨g, hs⟩
    · exact ⟨g, hs⟩
  | kill r => exact ⟨g, hs.kill _⟩
  | mov a b =>
    simp only [AS.pre]
    split
    · rename_i o h1 h2 h3 h4
      have hb : nthO s.h b = some .dead := by
        cases e : nthO s.h b with
        | none => rw [e] at h2; simp [deadO] at h2
        | some o => rw [e] at h2; cases o <;> simp [deadO] at h2; rfl
      have h3 := Nat.le_of_ble_eq_true h3
      have h4 := Nat.ne_of_beq_eq_false h4
      have hk := hs.kill (rootIs b)
      have ha' : nthO (⟨s.t.map (killL (rootIs b)), mapH (killL (rootIs b)) s.h⟩ : AS).h a = some (mapO (killL (rootIs b)) o) := by
        simp only [nthO_mapH, h1, Option.map_some]
      have hb' : nthO (⟨s.t.map (killL (rootIs b)), mapH (killL (rootIs b)) s.h⟩ : AS).h b = some .dead := by
        simp only [nthO_mapH, hb, Option.map_some, mapO]
      have hm := hk.mov ha' hb' (by omega) h4 (fun i π hπ => ?_) (fun r ob e π hπ => ?_)
      · have he : mapH (fun l => renL (movF a b) (killL (rootIs b) l)) (setO (setO s.h b o) a .dead) =
            mapH (renL (movF a b)) (setO (setO (mapH (killL (rootIs b)) s.h) b (mapO (killL (rootIs b)) o)) a .dead) := by
          refine nthO_ext fun r => ?_
          simp only [nthO_mapH, nthO_setO, mapH_length]
          have hl1 : (setO s.h b o).length = s.h.length := by simp [setO_eq]
          have hl2 : (setO (mapH (killL (rootIs b)) s.h) b (mapO (killL (rootIs b)) o)).length = s.h.length := by simp [setO_eq, mapH_length]
          rw [hl1, hl2]
          split
          · rfl
          · split
            · simp [mapO_mapO]
            · cases nthO s.h r <;> simp [mapO_mapO]
        rw [he]
        exact ⟨_, hm⟩
      · rw [show (⟨s.t.map (killL (rootIs b)), mapH (killL (rootIs b)) s.h⟩ : AS).t = s.t.map (killL (rootIs b)) from rfl, getT_kill] at hπ
        exact rootIs_killV b hπ
      · change nthO (mapH (killL (rootIs b)) s.h) r = some ob at e
        rw [nthO_mapH] at e
        cases ho : nthO s.h r with
        | none => rw [ho] at e; cases e
        | some o0 =>
          rw [ho] at e
          simp only [Option.map_some, Option.some.injEq] at e
          subst e
          cases o0 with
          | box cs => exact rootIs_kill b hπ
          | lit z els =>
            simp only [mapO, plsOb] at hπ
            obtain ⟨e, he, h5⟩ := plsLL_mem.1 hπ
            obtain ⟨e0, he0, rfl⟩ := List.mem_map.1 he
            exact rootIs_kill b h5
          | row nn z els => simp [mapO, plsOb] at hπ
          | dead => simp [mapO, plsOb] at hπ
          | free => simp [mapO, plsOb] at hπ
    · exact ⟨g, hs⟩
  | dead => exact ⟨g, hs.app_dead⟩
  | drop r =>
    simp only [AS.pre]
    split
    · exact ⟨g, hs⟩
    · exact ⟨g, hs.drop⟩
theorem Sim.pres {Γ : Ctx} {tm : Array Value} {w : World} {nb : Nat} (hnb : Γ.h0.length ≤ nb) : ∀ (l : List Pre) {s : AS} {g : G}, Sim Γ s tm w g → ∃ g', Sim Γ (s.pres stdE nb l) tm w g'
  | [], s, g, hs => ⟨g, hs⟩
  | p :: l, s, g, hs => by
    obtain ⟨g1, h1⟩ := hs.pre hnb p
    exact Sim.pres hnb l h1

/-- At a loop's head. -/
theorem Sim.norm {Γ : Ctx} {s : AS} {tm : Array Value} {w : World} {g : G} (hs : Sim Γ s tm w g) {live : List Nat} {m : Nat} (hm : Γ.h0.length ≤ m) : Sim Γ (s.norm live m) tm w g := by
  have hk := hs.kill fun pl => Nat.ble m pl.root
  have hget : ∀ r, nthO (mapH (killL fun pl => Nat.ble m pl.root) (takeH m s.h)) r = if r < m then nthO (mapH (killL fun pl => Nat.ble m pl.root) s.h) r else none := by
    intro r
    rw [nthO_mapH, nthO_mapH, takeH_eq, nthO_eq, nthO_eq, List.getElem?_take]
    split <;> simp
  have hvp : ∀ π, VP (mapH (killL fun pl => Nat.ble m pl.root) (takeH m s.h)) π → VP (mapH (killL fun pl => Nat.ble m pl.root) s.h) π := by
    intro π v
    have h0 := hget π.root
    split at h0
    · exact (VP_congr h0).1 v
    · unfold VP at v
      rw [h0] at v
      exact v.elim
  have hok : ∀ π, OkP (mapH (killL fun pl => Nat.ble m pl.root) s.h) π → π.root < m → OkP (mapH (killL fun pl => Nat.ble m pl.root) (takeH m s.h)) π := by
    intro π v hl
    have h0 := hget π.root
    rw [if_pos hl] at h0
    exact (OkP_congr h0).2 v
  have hlow : ∀ {v : TV} {π : Place}, π ∈ plsV (killV (fun pl => Nat.ble m pl.root) v) → π.root < m := by
    intro v π h
    have := (killV_pls v π h).2
    refine Nat.lt_of_not_le fun h => ?_
    have h2 := Nat.ble_eq_true_of_le h
    rw [h2] at this
    cases this
  have hlowL : ∀ {l : List TV} {π : Place}, π ∈ plsL (killL (fun pl => Nat.ble m pl.root) l) → π.root < m := by
    intro l π h
    have := (killL_pls l π h).2
    refine Nat.lt_of_not_le fun h => ?_
    have h2 := Nat.ble_eq_true_of_le h
    rw [h2] at this
    cases this
  have ht : ∀ i, getT ((keepT s.t live (blankT s.t)).map (killL fun pl => Nat.ble m pl.root)) i = .un ∨ getT ((keepT s.t live (blankT s.t)).map (killL fun pl => Nat.ble m pl.root)) i = killV (fun pl => Nat.ble m pl.root) (getT s.t i) := by
    intro i
    rw [getT_kill]
    rcases getT_keep s.t live (blankT s.t) i with h | h
    · rw [h]; exact .inr rfl
    · rw [h, getT_blank]; exact .inl rfl
  refine hk.re (fun π => π) (fun i => ?_) rfl (fun r o e => ?_) (fun π v => ⟨hvp π v, rfl⟩) (fun _ _ _ _ e => e) (fun _ _ => ⟨rfl, rfl⟩) (fun r hr => ?_) ?_ (fun i => ?_) (fun r o e π hπ => ?_)
  · rcases ht i with h | h
    · rw [h]; exact .un _
    · rw [h]
      have := hk.tmp i
      rwa [show (⟨s.t.map (killL fun pl => Nat.ble m pl.root), mapH (killL fun pl => Nat.ble m pl.root) s.h⟩ : AS).t = s.t.map (killL fun pl => Nat.ble m pl.root) from rfl, getT_kill] at this
  · rw [hget] at e
    split at e
    · exact hk.hok.ob r o e
    · cases e
  · rw [hget]
    split
    · exact hk.frm.nofree r hr
    · simp
  · rw [mapH_length, takeH_eq, List.length_take]
    have := hs.frm.len
    omega
  · rcases ht i with h | h
    · rw [h]; intro π hπ; simp [plsV] at hπ
    · rw [h]
      intro π hπ
      have := hk.refT i π (by rw [show (⟨s.t.map (killL fun pl => Nat.ble m pl.root), mapH (killL fun pl => Nat.ble m pl.root) s.h⟩ : AS).t = s.t.map (killL fun pl => Nat.ble m pl.root) from rfl, getT_kill]; exact hπ)
      exact hok π this (hlow hπ)
  · rw [hget] at e
    split at e
    · refine hok π (hk.refH r o e π hπ) ?_
      rw [nthO_mapH] at e
      cases ho : nthO s.h r with
      | none => rw [ho] at e; cases e
      | some o0 =>
        rw [ho] at e
        simp only [Option.map_some, Option.some.injEq] at e
        subst e
        cases o0 with
        | box cs => exact hlowL hπ
        | lit z els =>
          simp only [mapO, plsOb] at hπ
          obtain ⟨e, he, h5⟩ := plsLL_mem.1 hπ
          obtain ⟨e0, he0, rfl⟩ := List.mem_map.1 he
          exact hlowL h5
        | row nn z els => simp [mapO, plsOb] at hπ
        | dead => simp [mapO, plsOb] at hπ
        | free => simp [mapO, plsOb] at hπ
    · cases e
end Go.Ab
/- Operations are sound: each kind. -/
set_option linter.unusedVariables false
set_option linter.unusedSimpArgs false
namespace Go.Ab

/-- One operation, with nothing that precedes it. -/
def wpB (R : Ro) (sl : Option Nat) (kk : K) (s : AS) (k kp : TV → AS → Prop) : Prop :=
  match kk with
  | .call f xs => callH stdE R f s.h s.nr (evs s.ev xs) (fun v h => k v ⟨s.t, h⟩) (fun v h => kp v ⟨s.t, h⟩)
  | .calld x xs => (match s.ev x with
    | .fn f caps => callH stdE R f s.h s.nr (evs s.ev xs ++ caps) (fun v h => k v ⟨s.t, h⟩) (fun v h => kp v ⟨s.t, h⟩)
    | .p (.fn f) => callH stdE R f s.h s.nr (evs s.ev xs) (fun v h => k v ⟨s.t, h⟩) (fun v h => kp v ⟨s.t, h⟩)
    | _ => False)
  | .app w b x y => appH stdI stdE sl w b (s.ev x) (s.ev y) s.h (fun v h => k v ⟨s.t, h⟩)
  | c => wpS stdI stdB stdE sl c s k kp

section
variable {P : Program} {o : Oper} {Γ : Ctx} {s : AS} {a : Act} {w : World} {g : G} {k kp : TV → AS → Prop} {sl : Option Nat}

theorem compBin_sound (hs : Sim Γ s a.tmps w g) {op : BinOp} {t u : TypeId} {y1 y2 : Operand} {kk : K} (ho : o.op = .binOp op t y1 y2 u) (hc : compBin P op t y1 y2 = some kk) (h : wpB (Runs P) sl kk s k kp) : OpS P o Γ a.tmps a w k kp := by
  unfold compBin at hc
  split at hc
  · -- numbers
    split at hc
    · rename_i x1 x2 h1 h2
      cases op <;> simp only [Option.some.injEq] at hc <;> subst hc <;>
        first
          | exact cmp_sound (sl := sl) hs ho h1 h2 (by simp) h
          | exact ari_sound (sl := sl) hs ho h1 h2 (by simp) h
    · cases hc
  · rename_i ht
    split at hc
    · rename_i x1 x2 h1 h2
      simp only [Option.some.injEq] at hc
      subst hc
      exact beq_sound (sl := sl) hs ho h1 h2 ht (.inl ⟨rfl, rfl⟩) h
    · rename_i x1 x2 h1 h2
      simp only [Option.some.injEq] at hc
      subst hc
      exact beq_sound (sl := sl) hs ho h1 h2 ht (.inr ⟨rfl, rfl⟩) h
    · cases hc
  · split at hc
    · rename_i x1 x2 h1 h2
      cases op <;> simp only [Option.some.injEq, reduceCtorEq] at hc <;> subst hc <;>
        first
          | exact scmp_sound (sl := sl) hs ho h1 h2 (by simp) h
          | exact cat_sound (sl := sl) hs ho h1 h2 h
    · cases hc
  · rename_i fs ht
    split at hc
    · cases hc
    · rename_i hgd
      have hgd : P.eqGuardType P.depth t = false := by simpa using hgd
      split at hc
      · rename_i pl a b hp h1 h2
        simp only [Option.some.injEq] at hc
        subst hc
        exact aeq_sound (sl := sl) hs ho h1 h2 ht hgd hp (.inl ⟨rfl, rfl⟩) h
      · rename_i pl a b hp h1 h2
        simp only [Option.some.injEq] at hc
        subst hc
        exact aeq_sound (sl := sl) hs ho h1 h2 ht hgd hp (.inr ⟨rfl, rfl⟩) h
      · cases hc
  · rename_i d _ hd
    split at hc
    · rename_i kd hk
      split at hc
      · rename_i hn
        split at hc
        · rename_i x1 h1
          simp only [Option.some.injEq] at hc
          subst hc
          exact eqnil_sound (sl := sl) hs ho hd hk (.inl ⟨rfl, rfl⟩) (.inl ⟨hn, h1⟩) h
        · rename_i x1 h1
          simp only [Option.some.injEq] at hc
          subst hc
          exact eqnil_sound (sl := sl) hs ho hd hk (.inr ⟨rfl, rfl⟩) (.inl ⟨hn, h1⟩) h
        · cases hc
      · split at hc
        · rename_i hn
          split at hc
          · rename_i x1 h1
            simp only [Option.some.injEq] at hc
            subst hc
            exact eqnil_sound (sl := sl) hs ho hd hk (.inl ⟨rfl, rfl⟩) (.inr ⟨hn, h1⟩) h
          · rename_i x1 h1
            simp only [Option.some.injEq] at hc
            subst hc
            exact eqnil_sound (sl := sl) hs ho hd hk (.inr ⟨rfl, rfl⟩) (.inr ⟨hn, h1⟩) h
          · cases hc
        · cases hc
    · cases hc
  · cases hc

theorem compK_sound (hs : Sim Γ s a.tmps w g) (hsl : SlotOk sl s.h) {kk : K} (hc : compK P o = some kk) (h : wpB (Runs P) sl kk s k kp) : OpS P o Γ a.tmps a w k kp := by
  unfold compK at hc
  split at hc
  · rename_i y ho
    obtain ⟨x, h1, rfl⟩ := Option.map_eq_some_iff.1 hc
    exact mv_sound (sl := sl) hs (.inl ho) h1 h
  · rename_i y ho
    obtain ⟨x, h1, rfl⟩ := Option.map_eq_some_iff.1 hc
    exact mv_sound (sl := sl) hs (.inr ho) h1 h
  · rename_i y1 y2 y3 ho
    split at hc
    · rename_i x1 x2 x3 h1 h2 h3
      simp only [Option.some.injEq] at hc
      subst hc
      exact pick_sound (sl := sl) hs ho h1 h2 h3 h
    · cases hc
  · rename_i t ho
    obtain ⟨z, hz, rfl⟩ := Option.map_eq_some_iff.1 hc
    exact alloc_sound (sl := sl) hs hsl ho hz h
  · rename_i t y ho
    obtain ⟨x, h1, rfl⟩ := Option.map_eq_some_iff.1 hc
    exact box_sound (sl := sl) hs hsl ho h1 h
  · rename_i t ps ho
    split at hc
    · rename_i fs z ht hz
      split at hc
      · rename_i pls hpl
        split at hc
        · rename_i q hq
          split at hc
          · rename_i hall
            simp only [Option.some.injEq] at hc
            subst hc
            exact build_sound (sl := sl) hs ho hz (.inl ⟨fs, pls, ht, hpl, rfl⟩) hq (fun q hm => by have := List.all_eq_true.1 hall q hm; simpa [Nat.blt_eq] using this) h
          · cases hc
        · cases hc
      · cases hc
    · rename_i m e z ht hz
      split at hc
      · rename_i ie hie
        split at hc
        · rename_i q hq
          split at hc
          · rename_i hall
            simp only [Option.some.injEq] at hc
            subst hc
            exact build_sound (sl := sl) hs ho hz (.inr ⟨m, e, ie, ht, hie, rfl⟩) hq (fun q hm => by have := List.all_eq_true.1 hall q hm; simpa [Nat.blt_eq] using this) h
          · cases hc
        · cases hc
      · cases hc
    · cases hc
  · rename_i t n ps ho
    split at hc
    · rename_i e ht
      split at hc
      · rename_i w' z q h1 h2 h3
        split at hc
        · rename_i hcond
          simp only [Option.some.injEq] at hc
          subst hc
          simp only [Bool.and_eq_true, decide_eq_true_eq, Nat.blt_eq] at hcond
          obtain ⟨⟨⟨c1, c2⟩, c3⟩, c4⟩ := hcond
          exact bsl_sound (sl := sl) hs hsl ho ht h1 h2 h3 c1 c2 (isLen_eq c3) c4 h
        · cases hc
      · cases hc
    · cases hc
  · rename_i t y ho
    split at hc
    · rename_i n gg x h1 h2 h3
      simp only [Option.some.injEq] at hc
      subst hc
      exact ld_sound (sl := sl) hs ho h1 h2 h3 h
    · cases hc
  · rename_i t y1 y2 ho
    split at hc
    · rename_i n x1 x2 h1 h2 h3
      simp only [Option.some.injEq] at hc
      subst hc
      exact st_sound (sl := sl) hs ho h1 h2 h3 (by omega) h
    · cases hc
  · rename_i y ho
    obtain ⟨x, h1, rfl⟩ := Option.map_eq_some_iff.1 hc
    exact nilck_sound (sl := sl) hs ho h1 h
  · rename_i op t y1 y2 u ho
    exact compBin_sound hs ho hc h
  · rename_i t y ho
    obtain ⟨x, h1, rfl⟩ := Option.map_eq_some_iff.1 hc
    exact not_sound (sl := sl) hs ho h1 h
  · rename_i t y ho
    split at hc
    · rename_i kd ht
      obtain ⟨x, h1, rfl⟩ := Option.map_eq_some_iff.1 hc
      exact neg_sound (sl := sl) hs ho h1 h
    · cases hc
  · rename_i t u y ho
    split at hc
    · rename_i kq kd ht hu
      obtain ⟨x, h1, rfl⟩ := Option.map_eq_some_iff.1 hc
      exact conv_sound (sl := sl) hs ho h1 ht hu h
    · rename_i e ht hu
      split at hc
      · rename_i he
        obtain ⟨x, h1, rfl⟩ := Option.map_eq_some_iff.1 hc
        exact b2s_sound (sl := sl) hs ho ht he hu h1 h
      · cases hc
    · rename_i e ht hu
      split at hc
      · rename_i he
        obtain ⟨x, h1, rfl⟩ := Option.map_eq_some_iff.1 hc
        exact s2b_sound (sl := sl) hs hsl ho ht hu he h1 h
      · cases hc
    · rename_i ht hu
      obtain ⟨x, h1, rfl⟩ := Option.map_eq_some_iff.1 hc
      obtain ⟨hv, hrf⟩ := hs.ev' h1
      simp only [wpB, wpS, wpK] at h
      generalize hx : a.eval y = vx at hv
      split at h
      · rename_i l he
        rw [he] at hv hrf
        obtain ⟨rfl, hl⟩ := tr_str hv
        refine OpS.pure_ hs ?_ h hv hrf
        simp [execOp, ho, hx, convert, Sem.run_bind, underlying, Sem.run, ht, hu]
      · exact h.elim
    · cases hc
  · rename_i t y ho
    split at hc
    · cases hc
    · cases hc
    · rename_i d hn1 hn2
      obtain ⟨x, h1, rfl⟩ := Option.map_eq_some_iff.1 hc
      cases hd : P.underlying t with
      | none => exact absurd hd hn2
      | some d => exact mki_sound (sl := sl) hs ho hd (fun ms e => hn1 ms (by rw [hd, e])) h1 h
  · rename_i f first caps ho
    split at hc
    · rename_i hf
      obtain ⟨xs, h1, rfl⟩ := Option.map_eq_some_iff.1 hc
      exact mkf_sound (sl := sl) hs ho hf h1 h
    · cases hc
  · rename_i t l c ho
    split at hc
    · rename_i e ht
      split at hc
      · rename_i i z x1 x2 h1 h2 h3 h4
        split at hc
        · rename_i hcond
          simp only [Option.some.injEq] at hc
          subst hc
          simp only [Bool.and_eq_true, Nat.blt_eq] at hcond
          exact mks_sound (sl := sl) hs hsl ho ht h1 h2 (isLen_eq hcond.2) hcond.1 h3 h4 h
        · cases hc
      · cases hc
    · cases hc
  · rename_i t y lo hi mx ho
    split at hc
    · rename_i x xl xh ht h1 h2 h3 h4
      simp only [Option.some.injEq] at hc
      subst hc
      have : mx = none := by
        cases mx with
        | none => rfl
        | some m => simp [opO] at h4
      subst this
      exact ssl_sound (sl := sl) hs ho ht h1 h2 h3 h
    · rename_i e x xl xh xm ht h1 h2 h3 h4
      split at hc
      · cases hc
      · rename_i hcond
        obtain ⟨w', h5, rfl⟩ := Option.map_eq_some_iff.1 hc
        exact sls_sound (sl := sl) hs ho ht h5 h1 h2 h3 h4 (fun e => by subst e; simp at hcond; exact hcond) h
    · cases hc
  · rename_i t y i ho
    split at hc
    · rename_i fs x ht h1
      obtain ⟨f, hf, hc⟩ := Option.bind_eq_some_iff.1 hc
      split at hc
      · rename_i n hn
        simp only [Option.some.injEq] at hc
        subst hc
        exact fa_sound (sl := sl) hs ho ht hf hn h1 h
      · cases hc
    · cases hc
  · rename_i t y i ho
    split at hc
    · rename_i fs x ht h1
      obtain ⟨f, hf, hc⟩ := Option.bind_eq_some_iff.1 hc
      split at hc
      · rename_i n gg hn hg
        simp only [Option.some.injEq] at hc
        subst hc
        exact fld_sound (sl := sl) hs ho ht hf hn hg h1 h
      · cases hc
    · cases hc
  · rename_i t y1 y2 ho
    split at hc
    · rename_i e x1 x2 ht h1 h2
      obtain ⟨w', h5, rfl⟩ := Option.map_eq_some_iff.1 hc
      exact ia_sound (sl := sl) hs ho ht h5 h1 h2 h
    · rename_i n e x1 x2 ht h1 h2
      obtain ⟨w', h5, rfl⟩ := Option.map_eq_some_iff.1 hc
      exact iaA_sound (sl := sl) hs ho ht h5 h1 h2 h
    · cases hc
  · rename_i t y1 y2 ho
    split at hc
    · rename_i x1 x2 ht h1 h2
      simp only [Option.some.injEq] at hc
      subst hc
      exact ixS_sound (sl := sl) hs ho ht h1 h2 h
    · cases hc
  · rename_i y i ho
    obtain ⟨x, h1, rfl⟩ := Option.map_eq_some_iff.1 hc
    exact ext_sound (sl := sl) hs ho h1 h
  · rename_i c ho
    split at hc
    · rename_i f hcal
      obtain ⟨xs, h1, rfl⟩ := Option.map_eq_some_iff.1 hc
      exact call_sound hs ho hcal h1 h
    · rename_i y hnf hcal
      split at hc
      · rename_i x xs h1 h2
        simp only [Option.some.injEq] at hc
        subst hc
        exact calld_sound hs ho hcal h1 h2 h
      · cases hc
    · rename_i hcal
      split at hc
      · rename_i y t hargs hty
        split at hc
        · rename_i e ht
          obtain ⟨x, h1, rfl⟩ := Option.map_eq_some_iff.1 hc
          exact len_sound (sl := sl) hs ho hcal hargs hty ht (.inl ⟨⟨e, rfl⟩, rfl⟩) h1 h
        · rename_i ht
          obtain ⟨x, h1, rfl⟩ := Option.map_eq_some_iff.1 hc
          exact len_sound (sl := sl) hs ho hcal hargs hty ht (.inr ⟨rfl, rfl⟩) h1 h
        · cases hc
      · cases hc
    · rename_i hcal
      split at hc
      · rename_i y1 y2 t u hargs hty
        have key : ∀ e, P.underlying t = some (.slice e) → ((∃ e', P.underlying u = some (.slice e')) ∨ P.underlying u = some .string) → compApp P e y1 y2 = some kk → OpS P o Γ a.tmps a w k kp := by
          intro e ht hu hc
          unfold compApp at hc
          split at hc
          · rename_i ie z x1 x2 h1 h2 h3 h4
            split at hc
            · rename_i hcond
              simp only [Option.some.injEq] at hc
              subst hc
              simp only [Bool.and_eq_true, Nat.blt_eq] at hcond
              obtain ⟨⟨c1, c2⟩, c3⟩ := hcond
              exact app_sound (sl := sl) hs hsl ho hcal hargs hty ht hu h1 h2 (isLen_eq c3) c1 c2 h3 h4 h
            · cases hc
          · cases hc
        split at hc
        · rename_i e e' ht hu
          exact key e ht (.inl ⟨e', hu⟩) hc
        · rename_i e ht hu
          exact key e ht (.inr hu) hc
        · cases hc
      · cases hc
    · rename_i hcal
      split at hc
      · rename_i y hargs
        obtain ⟨x, h1, rfl⟩ := Option.map_eq_some_iff.1 hc
        refine panic_sound (sl := sl) hs ?_ h1 h
        have : c.args = #[y] := arr_of hargs
        simp [execOp, ho, resolve, hcal, invoke, builtin, this, Sem.run_bind]
      · cases hc
    · cases hc
  · rename_i y ho
    obtain ⟨x, h1, rfl⟩ := Option.map_eq_some_iff.1 hc
    refine panic_sound (sl := sl) hs ?_ h1 h
    simp only [execOp, ho, Sem.run_bind, Sem.run_pure]
  · cases hc
end
end Go.Ab
/- Operations and lists of them are sound. -/
set_option linter.unusedVariables false
set_option linter.unusedSimpArgs false
namespace Go.Ab

theorem wpA_wpB {R : Ro} {nb : Nat} {dr : Bool} {sl : Option Nat} {d : Option Nat} {kk : K} {gg : Option (Nat × Bool)} {s : AS} {k : AS → Prop} {kp : TV → AS → Prop} (h : wpA stdI stdB stdE R nb dr sl ⟨d, kk, gg⟩ s k kp) :
    ∃ pre, drOk dr pre ∧ wpB R sl kk (s.pres stdE nb pre) (fun v s' => k (s'.put d v)) kp := by
  have hd : drOk dr [] := by cases dr <;> simp [drOk]
  cases kk with
  | call f xs => exact h
  | calld x xs =>
    obtain ⟨pre, h1, h2⟩ := h
    refine ⟨pre, h1, ?_⟩
    simp only [wpCd] at h2
    simp only [wpB]
    split at h2
    · rename_i e; rw [e]; exact h2
    · rename_i e; rw [e]; exact h2
    · exact h2.elim
  | app w b x y => exact h
  | _ => exact ⟨[], hd, h⟩

section
variable {P : Program} {Γ : Ctx} {s : AS} {a : Act} {w : World} {g : G}

theorem Sim.put' (hs : Sim Γ s a.tmps w g) {d : Option Nat} (hd : dstOk Γ.n d = true) {v : TV} {x : Value} (h : TR w g v x) (hr : RefV s.h v) : Sim Γ (s.put d v) (a.put d x).tmps w g := by
  cases d with
  | none => exact hs
  | some d => exact hs.put (by simpa [dstOk, Nat.blt_eq] using hd) h hr
theorem put_defers {d : Option Nat} {x : Value} : (a.put d x).defers = a.defers := by cases d <;> rfl

theorem oper_sound (hs : Sim Γ s a.tmps w g) {nb : Nat} (hnb : Γ.h0.length ≤ nb) {sl : Option Nat} (hsl : SlotOk sl s.h) {dr : Bool} (hdr : dr = false → sl = none) {ops : Array Oper} {o : Oper} {ko : KO} (hc : compO P Γ.n ops o = some ko)
    {k : AS → Prop} {kp : TV → AS → Prop} (h : wpG stdI stdB stdE (Runs P) nb dr sl ko s k kp) {next : Act → World → Prop} {Q : Exit → Act → World → Prop}
    (hn : ∀ s' x w' g', k s' → Sim Γ s' (a.put o.dst x).tmps w' g' → next (a.put o.dst x) w')
    (hp : ∀ v s' x w' g', kp v s' → SimV Γ a.tmps v s' x w' g' → Q (.panic [{ v := x, recovered := false }]) a w') :
    if Region.wanted o (yielded ops a.tmps) then o.wp P a w next Q else next (a.put o.dst undef) w := by
  unfold compO at hc
  split at hc
  case isFalse => cases hc
  rename_i hd
  have key : ∀ {kk : K} {gg : Option (Nat × Bool)}, compK P o = some kk → wpA stdI stdB stdE (Runs P) nb dr sl ⟨o.dst, kk, gg⟩ s k kp → o.wp P a w next Q := by
    intro kk gg hk hw
    obtain ⟨pre, h1, h2⟩ := wpA_wpB hw
    obtain ⟨g1, hs1⟩ := hs.pres (nb := nb) hnb pre
    have hsl1 : SlotOk sl (s.pres stdE nb pre).h := by
      cases dr with
      | true =>
        simp only [drOk] at h1
        subst h1
        exact hsl
      | false =>
        have := hdr rfl
        subst this
        intro i hi; cases hi
    exact compK_sound hs1 hsl1 hk h2 next Q (fun v s' x w' g' hk hs' => hn _ x w' g' hk (hs'.1.put' hd hs'.2.1 hs'.2.2)) hp
  split at hc
  · rename_i kk hk hg
    simp only [Option.some.injEq] at hc
    subst hc
    simp only [Region.wanted, hg, if_true]
    exact key hk h
  · rename_i kk j want hk hg
    split at hc
    · rename_i t ht
      simp only [Option.some.injEq] at hc
      subst hc
      simp only [wpG] at h
      have hy : ∀ b, getT s.t t = .p (.bool b) → yielded ops a.tmps j = some b := by
        intro b e
        have h1 := hs.tmp t
        rw [e] at h1
        have h2 := tr_bool h1
        unfold yielded
        rw [ht]
        simp only [Option.bind_some]
        cases e2 : a.tmps[t]? with
        | none => simp [Array.getD_eq_getD_getElem?, e2, undef] at h2
        | some y =>
          simp only [Array.getD_eq_getD_getElem?, e2, Option.getD_some] at h2
          subst h2
          rfl
      split at h
      · rename_i b e
        have hyb := hy b e
        simp only [Region.wanted, hg, hyb]
        have hskip : k (s.put o.dst .un) → next (a.put o.dst undef) w := fun hk => hn _ undef w g hk (hs.put' hd (.un _) (fun i hi => by simp [plsV] at hi))
        split at h
        · simp only [beq_self_eq_true, if_true]; exact key hk h
        · simp only [beq_self_eq_true, if_true]; exact key hk h
        · exact hskip h
        · exact hskip h
      · exact h.elim
    · cases hc
  · cases hc

/-- What holds behind code. -/
structure Post (Γ : Ctx) (ds : List Deferred) (q : AX → AS → Prop) (Q : Exit → Act → World → Prop) : Prop where
  nrm : ∀ s a w g, q .nrm s → Sim Γ s a.tmps w g → a.defers = ds → Q .normal a w
  ext : ∀ id s a w g, q (.ext id) s → Sim Γ s a.tmps w g → a.defers = ds → Q (.exit id) a w
  ret : ∀ s a w g, q .ret s → Sim Γ s a.tmps w g → a.defers = ds → Q .ret a w
  pan : ∀ v s a x w g, q (.pan v) s → SimV Γ a.tmps v s x w g → a.defers = ds → Q (.panic [{ v := x, recovered := false }]) a w

theorem ops_sound {nb : Nat} (hnb : Γ.h0.length ≤ nb) {ops : Array Oper} {q : AX → AS → Prop} {Q : Exit → Act → World → Prop} (hq : Post Γ a.defers q Q) :
    ∀ (l : List Oper) (i : Nat) (kos : List KO), ops.toList.drop i = l → compOs P Γ.n ops l = some kos → ∀ (s : AS) (a' : Act) (w : World) (g : G), Sim Γ s a'.tmps w g → a'.defers = a.defers →
      Go.Ab.wpOps stdI stdB stdE (Runs P) nb kos s (q .nrm) (fun v s => q (.pan v) s) → Go.wpOps P ops Q (List.range' i l.length) a' w
  | [], i, kos, _, hc, s, a', w, g, hs, hd, h => by
    simp only [compOs, Option.some.injEq] at hc
    subst hc
    exact hq.nrm s a' w g h hs hd
  | o :: l, i, kos, hl, hc, s, a', w, g, hs, hd, h => by
    simp only [compOs] at hc
    split at hc
    · rename_i ko kos' h1 h2
      simp only [Option.some.injEq] at hc
      subst hc
      have hi : ops[i]? = some o := by
        have : ops.toList[i]? = some o := by
          have h3 : (ops.toList.drop i)[0]? = some o := by rw [hl]; rfl
          simpa using h3
        simpa using this
      have hl' : ops.toList.drop (i + 1) = l := by
        rw [← List.drop_drop, hl]; rfl
      simp only [List.length_cons, List.range'_succ, Go.wpOps, hi]
      have := oper_sound (sl := none) (dr := false) (next := Go.wpOps P ops Q (List.range' (i + 1) l.length)) (Q := Q) hs hnb (fun i hi => by cases hi) (fun _ => rfl) h1 h
        (fun s' x w' g' hk hs' => ops_sound hnb hq l (i + 1) kos' hl' h2 s' _ w' g' hs' (by rw [put_defers]; exact hd) hk)
        (fun v s' x w' g' hk hs' => hq.pan v s' a' x w' g' hk hs' hd)
      split
      · rename_i hw
        rw [if_pos hw] at this
        exact .inl this
      · rename_i hw
        rw [if_neg hw] at this
        exact this
    · cases hc

theorem reg_sound {nb : Nat} (hnb : Γ.h0.length ≤ nb) {id : Nat} {ops : Array Oper} {kos : List KO} (hc : compOs P Γ.n ops ops.toList = some kos) {q : AX → AS → Prop} {Q : Exit → Act → World → Prop} (hq : Post Γ a.defers q Q) (hs : Sim Γ s a.tmps w g)
    (h : Go.Ab.wpOps stdI stdB stdE (Runs P) nb kos s (q .nrm) (fun v s => q (.pan v) s)) : (Code.region id ops false).wp P Q a w := by
  refine wp_region ?_
  have := ops_sound (P := P) hnb hq ops.toList 0 kos rfl hc s a w g hs rfl h
  rwa [Array.length_toList, ← List.range_eq_range'] at this
end
end Go.Ab
/- Operations look at their operands and their footprint alone. -/
set_option linter.unusedVariables false
set_option linter.unusedSimpArgs false
namespace Go.Ab

/-- What lies at a place of the memory: 0 is how many objects there are, r + 1 the object r. -/
def hval (h : List Ob) : Nat → Option Ob × Nat
  | 0 => (none, h.length)
  | r + 1 => (nthO h r, 0)
theorem hval_ext {h h' : List Ob} (e : ∀ m, hval h m = hval h' m) : h = h' := nthO_ext fun r => by have := e (r + 1); simpa [hval] using this
theorem hval_succ {h h' : List Ob} {r : Nat} : hval h (r + 1) = hval h' (r + 1) ↔ nthO h r = nthO h' r := by simp [hval]

def fK (sl : Option Nat) (kk : K) (s : AS) (hh : List Ob) : List Nat × List Nat :=
  match sl with
  | some i => ((i + 1) :: (fpK s kk).1, (i + 1) :: (fpK s kk).2)
  | none => ((fpK s kk).1 ++ rng s.h.length (hh.length - s.h.length), (fpK s kk).2 ++ rng s.h.length (hh.length - s.h.length))

structure LocB (R : Ro) (sl : Option Nat) (kk : K) (s : AS) (F W : List Nat) (v : TV) (hh : List Ob) (pn : Bool) : Prop where
  keep : ∀ m, m ∉ W → hval hh m = hval s.h m
  sub : ∀ m ∈ W, m ∈ F
  same : clsK kk < 2 → hh = s.h
  loc : ∀ c : AS, (∀ x ∈ opsX kk, c.ev x = s.ev x) → (∀ m ∈ F, hval c.h m = hval s.h m) → (isCall kk = true → ∀ r, r + 1 ∈ W → r ∉ c.nr) →
    ∃ hh', (∀ m ∈ W, hval hh' m = hval hh m) ∧ (∀ m, m ∉ W → hval hh' m = hval c.h m) ∧ ∀ k kp, (if pn = true then kp v ⟨c.t, hh'⟩ else k v ⟨c.t, hh'⟩) → wpB R sl kk c k kp

theorem rng_zero (a n : Nat) (h : n = 0) : rng a n = [] := by subst h; rfl
theorem mem_rng {a n m : Nat} : m ∈ rng a n ↔ a < m ∧ m ≤ a + n := by
  induction n generalizing a with
  | zero => simp [rng]
  | succ n ih => simp only [rng, List.mem_cons, ih]; omega
theorem mem_sucs {l : List Nat} {m : Nat} : m + 1 ∈ sucs l ↔ m ∈ l := by
  induction l with
  | nil => simp [sucs]
  | cons a l ih => simp [sucs, ih]
theorem zero_sucs {l : List Nat} : 0 ∉ sucs l := by
  induction l with
  | nil => simp [sucs]
  | cons a l ih => simp [sucs, ih]

/-- What only computes. -/
theorem loc0 {R : Ro} {kk : K} {s : AS} {v : TV} {pn : Bool} (hf : fpK s kk = ([], []))
    (hw : ∀ c : AS, (∀ x ∈ opsX kk, c.ev x = s.ev x) → ∀ k kp, (if pn = true then kp v c else k v c) → wpB R none kk c k kp) :
    LocB R none kk s (fK none kk s s.h).1 (fK none kk s s.h).2 v s.h pn := by
  have e : fK none kk s s.h = ([], []) := by simp [fK, hf, rng_zero]
  rw [e]
  exact ⟨fun _ _ => rfl, by simp, fun _ => rfl, fun c hc _ _ => ⟨c.h, by simp, fun _ _ => rfl, fun k kp hk => hw c hc k kp hk⟩⟩

def Ext (R : Ro) (sl : Option Nat) (kk : K) (s : AS) (k kp : TV → AS → Prop) : Prop :=
  ∃ v hh, (k v ⟨s.t, hh⟩ ∧ LocB R sl kk s (fK sl kk s hh).1 (fK sl kk s hh).2 v hh false) ∨ (kp v ⟨s.t, hh⟩ ∧ LocB R sl kk s (fK sl kk s hh).1 (fK sl kk s hh).2 v hh true)

theorem ext0 {R : Ro} {kk : K} {s : AS} {k kp : TV → AS → Prop} {v : TV} (hf : fpK s kk = ([], [])) (hk : k v s)
    (hw : ∀ c : AS, (∀ x ∈ opsX kk, c.ev x = s.ev x) → ∀ k kp : TV → AS → Prop, k v c → wpB R none kk c k kp) : Ext R none kk s k kp :=
  ⟨v, s.h, .inl ⟨hk, loc0 hf fun c hc k kp h => hw c hc k kp (by simpa using h)⟩⟩

section
variable {R : Ro} {s : AS} {k kp : TV → AS → Prop}

theorem evO_congr {c : AS} {x : Option X} (h : ∀ y ∈ x.toList, c.ev y = s.ev y) : evO c.ev x = evO s.ev x := by
  cases x with
  | none => rfl
  | some y => simp [evO, h y (by simp)]
theorem evs_congr {c : AS} {xs : List X} (h : ∀ y ∈ xs, c.ev y = s.ev y) : evs c.ev xs = evs s.ev xs := by
  induction xs with
  | nil => rfl
  | cons a l ih => simp only [evs, h a (by simp), ih fun y hy => h y (List.mem_cons_of_mem _ hy)]
theorem buildC_congr {c : AS} : ∀ {ps : List (Nat × Nat × X)} {cs : List TV}, (∀ q ∈ ps, c.ev q.2.2 = s.ev q.2.2) → wpK.buildC c.ev cs ps = wpK.buildC s.ev cs ps
  | [], cs, _ => rfl
  | (off, n, x) :: ps, cs, h => by
    have h1 := h (off, n, x) (by simp)
    simp only at h1
    simp only [wpK.buildC, h1]
    split
    · split
      · exact buildC_congr fun q hq => h q (List.mem_cons_of_mem _ hq)
      · rfl
    · rfl
theorem bslC_congr {c : AS} {w : Nat} : ∀ {ps : List (Nat × X)} {els : List (List TV)}, (∀ q ∈ ps, c.ev q.2 = s.ev q.2) → wpK.bslC c.ev w els ps = wpK.bslC s.ev w els ps
  | [], els, _ => rfl
  | (i, x) :: ps, els, h => by
    have h1 := h (i, x) (by simp)
    simp only at h1
    simp only [wpK.bslC, h1]
    split
    · exact bslC_congr fun q hq => h q (List.mem_cons_of_mem _ hq)
    · rfl

theorem ext_mv {x : X} (h : wpB R none (.mv x) s k kp) : Ext R none (.mv x) s k kp := by
  simp only [wpB, wpS, wpK] at h
  exact ext0 rfl h fun c hc k kp hk => by simp only [wpB, wpS, wpK]; rw [hc x (by simp [opsX])]; exact hk
theorem ext_pick {x y z : X} (h : wpB R none (.pick x y z) s k kp) : Ext R none (.pick x y z) s k kp := by
  simp only [wpB, wpS, wpK] at h
  split at h
  · rename_i v hv
    split at h
    · exact ext0 rfl h fun c hc k kp hk => by simp only [wpB, wpS, wpK]; rw [hc x (by simp [opsX]), hv, hc y (by simp [opsX])]; exact hk
    · exact ext0 rfl h fun c hc k kp hk => by simp only [wpB, wpS, wpK]; rw [hc x (by simp [opsX]), hv, hc z (by simp [opsX])]; exact hk
  · exact h.elim
theorem ext_build {z : List PV} {ps : List (Nat × Nat × X)} (h : wpB R none (.build z ps) s k kp) : Ext R none (.build z ps) s k kp := by
  simp only [wpB, wpS, wpK] at h
  split at h
  · rename_i cs hcs
    exact ext0 rfl h fun c hc k kp hk => by
      simp only [wpB, wpS, wpK]
      rw [buildC_congr (fun q hq => hc q.2.2 (by simp only [opsX, List.mem_map]; exact ⟨q, hq, rfl⟩)), hcs]; exact hk
  · exact h.elim
theorem ext_nilck {x : X} (h : wpB R none (.nilck x) s k kp) : Ext R none (.nilck x) s k kp := by
  simp only [wpB, wpS, wpK] at h
  split at h <;> first | exact h.elim | (rename_i hv; exact ext0 rfl h fun c hc k kp hk => by simp only [wpB, wpS, wpK]; rw [hc x (by simp [opsX]), hv]; exact hk)
theorem ext_ari {op : BinOp} {kd : IntKind} {x y : X} (h : wpB R none (.ari op kd x y) s k kp) : Ext R none (.ari op kd x y) s k kp := by
  cases op
  all_goals
    simp only [wpB, wpS, wpK] at h
    split at h
    · rename_i k1 a k2 b h1 h2
      split at h
      · first
          | (refine h _ fun hb hk => ?_
             refine ext0 rfl hk fun c hc k kp hk => ?_
             simp only [wpB, wpS, wpK]
             rw [hc x (by simp [opsX]), hc y (by simp [opsX]), h1, h2]
             simp only [*]
             first | exact fun q hq => hq hb hk | exact fun q hq => hq trivial hk | exact fun q hq => hq hk | trivial | simp_all)
          | (refine ext0 rfl h fun c hc k kp hk => ?_
             simp only [wpB, wpS, wpK]
             rw [hc x (by simp [opsX]), hc y (by simp [opsX]), h1, h2]
             simp only [*])
      · exact h.elim
    · exact h.elim
theorem ext_cmp {op : BinOp} {x y : X} (h : wpB R none (.cmp op x y) s k kp) : Ext R none (.cmp op x y) s k kp := by
  simp only [wpB, wpS, wpK] at h
  split at h
  · rename_i k1 a k2 b h1 h2
    split at h
    · rename_i hk
      exact ext0 rfl h fun c hc k kp hk => by simp only [wpB, wpS, wpK]; rw [hc x (by simp [opsX]), hc y (by simp [opsX]), h1, h2]; simp only [*]
    · exact h.elim
  · exact h.elim
theorem ext_beq {ne : Bool} {x y : X} (h : wpB R none (.beq ne x y) s k kp) : Ext R none (.beq ne x y) s k kp := by
  simp only [wpB, wpS, wpK] at h
  split at h
  · rename_i a b h1 h2
    exact ext0 rfl h fun c hc k kp hk => by simp only [wpB, wpS, wpK]; rw [hc x (by simp [opsX]), hc y (by simp [opsX]), h1, h2]; exact hk
  · exact h.elim
theorem ext_aeq {ne : Bool} {pl : List (Nat × Nat)} {x y : X} (h : wpB R none (.aeq ne pl x y) s k kp) : Ext R none (.aeq ne pl x y) s k kp := by
  simp only [wpB, wpS, wpK] at h
  split at h
  · rename_i a b h1 h2
    split at h
    · rename_i r hr
      exact ext0 rfl h fun c hc k kp hk => by simp only [wpB, wpS, wpK]; rw [hc x (by simp [opsX]), hc y (by simp [opsX]), h1, h2]; simp only [hr]; exact hk
    · exact h.elim
  · exact h.elim
theorem ext_scmp {op : BinOp} {x y : X} (h : wpB R none (.scmp op x y) s k kp) : Ext R none (.scmp op x y) s k kp := by
  simp only [wpB, wpS, wpK] at h
  split at h
  · rename_i a b h1 h2
    exact ext0 rfl h fun c hc k kp hk => by simp only [wpB, wpS, wpK]; rw [hc x (by simp [opsX]), hc y (by simp [opsX]), h1, h2]; exact hk
  · exact h.elim
theorem ext_cat {x y : X} (h : wpB R none (.cat x y) s k kp) : Ext R none (.cat x y) s k kp := by
  simp only [wpB, wpS, wpK] at h
  split at h
  · rename_i a b h1 h2
    refine h _ fun hb hk => ?_
    exact ext0 rfl hk fun c hc k kp hk => by simp only [wpB, wpS, wpK]; rw [hc x (by simp [opsX]), hc y (by simp [opsX]), h1, h2]; exact fun q hq => hq hb hk
  · exact h.elim
theorem ext_eqnil {kd : Nat} {ne : Bool} {x : X} (h : wpB R none (.eqnil kd ne x) s k kp) : Ext R none (.eqnil kd ne x) s k kp := by
  simp only [wpB, wpS, wpK] at h
  split at h <;> first | exact h.elim | (rename_i hv; exact ext0 rfl h fun c hc k kp hk => by simp only [wpB, wpS, wpK]; rw [hc x (by simp [opsX]), hv]; exact hk)
theorem ext_not {x : X} (h : wpB R none (.not x) s k kp) : Ext R none (.not x) s k kp := by
  simp only [wpB, wpS, wpK] at h
  split at h <;> first | exact h.elim | (rename_i hv; exact ext0 rfl h fun c hc k kp hk => by simp only [wpB, wpS, wpK]; rw [hc x (by simp [opsX]), hv]; exact hk)
theorem ext_conv {kd : IntKind} {x : X} (h : wpB R none (.conv kd x) s k kp) : Ext R none (.conv kd x) s k kp := by
  simp only [wpB, wpS, wpK] at h
  split at h <;> first | exact h.elim | (rename_i hv; exact ext0 rfl h fun c hc k kp hk => by simp only [wpB, wpS, wpK]; rw [hc x (by simp [opsX]), hv]; exact hk)
theorem ext_sid {x : X} (h : wpB R none (.sid x) s k kp) : Ext R none (.sid x) s k kp := by
  simp only [wpB, wpS, wpK] at h
  split at h <;> first | exact h.elim | (rename_i hv; exact ext0 rfl h fun c hc k kp hk => by simp only [wpB, wpS, wpK]; rw [hc x (by simp [opsX]), hv]; exact hk)
theorem ext_mki {t : TypeId} {x : X} (h : wpB R none (.mki t x) s k kp) : Ext R none (.mki t x) s k kp := by
  simp only [wpB, wpS, wpK] at h
  split at h
  · rename_i v hv
    exact ext0 rfl h fun c hc k kp hk => by simp only [wpB, wpS, wpK]; rw [hc x (by simp [opsX]), hv]; exact hk
  · rename_i cs hv
    split at h
    · rename_i l hl
      exact ext0 rfl h fun c hc k kp hk => by simp only [wpB, wpS, wpK]; rw [hc x (by simp [opsX]), hv]; simp only [hl]; exact hk
    · rename_i hl
      exact ext0 rfl h fun c hc k kp hk => by simp only [wpB, wpS, wpK]; rw [hc x (by simp [opsX]), hv]; simp only [hl]; exact hk
  · rename_i hn1 hn2
    refine ext0 rfl h fun c hc k kp hk => ?_
    simp only [wpB, wpS, wpK]
    rw [hc x (by simp [opsX])]
    split
    · rename_i v hv; exact absurd hv (hn1 v)
    · rename_i v hv; exact absurd hv (hn2 v)
    · exact hk
theorem ext_mkf {f : FuncId} {caps : List X} (h : wpB R none (.mkf f caps) s k kp) : Ext R none (.mkf f caps) s k kp := by
  simp only [wpB, wpS, wpK] at h
  exact ext0 rfl h fun c hc k kp hk => by simp only [wpB, wpS, wpK]; rw [evs_congr (xs := caps) (fun y hy => hc y hy)]; exact hk
theorem ext_ssl {x : X} {lo hi : Option X} (h : wpB R none (.ssl x lo hi) s k kp) : Ext R none (.ssl x lo hi) s k kp := by
  simp only [wpB, wpS, wpK] at h
  split at h
  · rename_i l hv
    obtain ⟨a, b, r, h1, h2, h3, h4, h5, h6⟩ := h
    refine ext0 rfl h6 fun c hc k kp hk => ?_
    simp only [wpB, wpS, wpK]
    rw [hc x (by simp [opsX]), hv, evO_congr (x := lo) (fun y hy => hc y (by simp [opsX] at hy ⊢; simp [hy])), evO_congr (x := hi) (fun y hy => hc y (by simp [opsX] at hy ⊢; simp [hy]))]
    exact ⟨a, b, r, h1, h2, h3, h4, h5, hk⟩
  · exact h.elim
theorem ext_sls {w : Nat} {x : X} {lo hi mx : Option X} (h : wpB R none (.sls w x lo hi mx) s k kp) : Ext R none (.sls w x lo hi mx) s k kp := by
  have hcong : ∀ c : AS, (∀ y ∈ opsX (.sls w x lo hi mx), c.ev y = s.ev y) → c.ev x = s.ev x ∧ evO c.ev lo = evO s.ev lo ∧ evO c.ev hi = evO s.ev hi ∧ evO c.ev mx = evO s.ev mx := fun c hc =>
    ⟨hc x (by simp [opsX]), evO_congr (x := lo) (fun y hy => hc y (by simp [opsX] at hy ⊢; simp [hy])), evO_congr (x := hi) (fun y hy => hc y (by simp [opsX] at hy ⊢; simp [hy])), evO_congr (x := mx) (fun y hy => hc y (by simp [opsX] at hy ⊢; simp [hy]))⟩
  simp only [wpB, wpS, wpK] at h
  split at h
  · rename_i nn z els hv
    split at h
    · obtain ⟨a, b, r, h1, h2, h3, h4, h5, h6, h7⟩ := h
      refine ext0 rfl h7 fun c hc k kp hk => ?_
      obtain ⟨e1, e2, e3, e4⟩ := hcong c hc
      simp only [wpB, wpS, wpK]
      rw [e1, e2, e3, hv]
      exact ⟨a, b, r, h1, h2, h3, h4, h5, h6, hk⟩
    · exact h.elim
  · rename_i nn pl z off len hv
    obtain ⟨a, b, o', l', h1, h2, h3, h4, h5, h6, h7, h8, h9, h10⟩ := h
    refine ext0 rfl h10 fun c hc k kp hk => ?_
    obtain ⟨e1, e2, e3, e4⟩ := hcong c hc
    simp only [wpB, wpS, wpK]
    rw [e1, e2, e3, e4, hv]
    exact ⟨a, b, o', l', h1, h2, h3, h4, h5, h6, h7, h8, h9, hk⟩
  · exact h.elim
theorem ext_fa {off : Nat} {x : X} (h : wpB R none (.fa off x) s k kp) : Ext R none (.fa off x) s k kp := by
  simp only [wpB, wpS, wpK] at h
  split at h <;> first | exact h.elim | (rename_i hv; exact ext0 rfl h fun c hc k kp hk => by simp only [wpB, wpS, wpK]; rw [hc x (by simp [opsX]), hv]; exact hk)
theorem ext_fld {off n : Nat} {g : Bool} {x : X} (h : wpB R none (.fld off n g x) s k kp) : Ext R none (.fld off n g x) s k kp := by
  simp only [wpB, wpS, wpK] at h
  split at h
  · rename_i cs hv
    split at h
    · rename_i v hl
      exact ext0 rfl h fun c hc k kp hk => by simp only [wpB, wpS, wpK]; rw [hc x (by simp [opsX]), hv]; simp only [hl]; exact hk
    · exact h.elim
  · exact h.elim
theorem ext_ia {w : Nat} {x y : X} (h : wpB R none (.ia w x y) s k kp) : Ext R none (.ia w x y) s k kp := by
  simp only [wpB, wpS, wpK] at h
  split at h
  · rename_i nn z els kd v h1 h2
    obtain ⟨n, cs, e1, e2, e3, e4⟩ := h
    exact ext0 rfl e4 fun c hc k kp hk => by simp only [wpB, wpS, wpK]; rw [hc x (by simp [opsX]), hc y (by simp [opsX]), h1, h2]; exact ⟨n, cs, e1, e2, e3, hk⟩
  · rename_i nn pl z off len kd v h1 h2
    split at h
    · rename_i hb
      obtain ⟨n, m, e1, e2, e3, e4⟩ := h
      exact ext0 rfl e4 fun c hc k kp hk => by simp only [wpB, wpS, wpK]; rw [hc x (by simp [opsX]), hc y (by simp [opsX]), h1, h2]; simp only [hb]; exact ⟨n, m, e1, e2, e3, hk⟩
    · exact h.elim
  · exact h.elim
theorem ext_iaA {m w : Nat} {x y : X} (h : wpB R none (.iaA m w x y) s k kp) : Ext R none (.iaA m w x y) s k kp := by
  simp only [wpB, wpS, wpK] at h
  split at h
  · rename_i pl z a j kd v h1 h2
    obtain ⟨n, jj, e1, e2, e3, e4⟩ := h
    exact ext0 rfl e4 fun c hc k kp hk => by simp only [wpB, wpS, wpK]; rw [hc x (by simp [opsX]), hc y (by simp [opsX]), h1, h2]; exact ⟨n, jj, e1, e2, e3, hk⟩
  · exact h.elim
theorem ext_ixS {x y : X} (h : wpB R none (.ixS x y) s k kp) : Ext R none (.ixS x y) s k kp := by
  simp only [wpB, wpS, wpK] at h
  split at h
  · rename_i l kd v h1 h2
    obtain ⟨n, c0, e1, e2, e3⟩ := h
    exact ext0 rfl e3 fun c hc k kp hk => by simp only [wpB, wpS, wpK]; rw [hc x (by simp [opsX]), hc y (by simp [opsX]), h1, h2]; exact ⟨n, c0, e1, e2, hk⟩
  · exact h.elim
theorem ext_ext {x : X} {i : Nat} (h : wpB R none (.ext x i) s k kp) : Ext R none (.ext x i) s k kp := by
  simp only [wpB, wpS, wpK] at h
  split at h
  · rename_i vs hv
    split at h
    · rename_i v hl
      exact ext0 rfl h fun c hc k kp hk => by simp only [wpB, wpS, wpK]; rw [hc x (by simp [opsX]), hv]; simp only [hl]; exact hk
    · exact h.elim
  · exact h.elim
theorem ext_len {b : Bool} {x : X} (h : wpB R none (.len b x) s k kp) : Ext R none (.len b x) s k kp := by
  simp only [wpB, wpS, wpK] at h
  split at h <;> first | exact h.elim | (rename_i hv; exact ext0 rfl h fun c hc k kp hk => by simp only [wpB, wpS, wpK]; rw [hc x (by simp [opsX]), hv]; exact hk)
theorem ext_panic {x : X} (h : wpB R none (.panic x) s k kp) : Ext R none (.panic x) s k kp := by
  simp only [wpB, wpS, wpK] at h
  split at h <;> first
    | exact h.elim
    | (rename_i hv
       exact ⟨_, s.h, .inr ⟨h, loc0 rfl fun c hc k kp hk => by simp only [wpB, wpS, wpK]; rw [hc x (by simp [opsX]), hv]; simpa using hk⟩⟩)
end
end Go.Ab
/- Operations look at their operands and their footprint alone: the memory. -/
set_option linter.unusedVariables false
set_option linter.unusedSimpArgs false
namespace Go.Ab

section
variable {R : Ro} {s : AS} {k kp : TV → AS → Prop}

theorem ext1 {kk : K} {v : TV} {F : List Nat} (hf : fpK s kk = (F, [])) (hk : k v s)
    (hw : ∀ c : AS, (∀ x ∈ opsX kk, c.ev x = s.ev x) → (∀ m ∈ F, hval c.h m = hval s.h m) → ∀ k kp : TV → AS → Prop, k v c → wpB R none kk c k kp) : Ext R none kk s k kp := by
  have e : fK none kk s s.h = (F, []) := by simp [fK, hf, rng_zero]
  refine ⟨v, s.h, .inl ⟨hk, ?_⟩⟩
  rw [e]
  exact ⟨fun _ _ => rfl, by simp, fun _ => rfl, fun c hc hF _ => ⟨c.h, by simp, fun _ _ => rfl, fun k kp hk => hw c hc hF k kp (by simpa using hk)⟩⟩

theorem hval_setO {h : List Ob} {i : Nat} {o : Ob} (hi : i < h.length) (m : Nat) : hval (setO h i o) m = if m = i + 1 then (some o, 0) else hval h m := by
  cases m with
  | zero => simp [hval, setO_eq]
  | succ r =>
    simp only [hval, nthO_setO]
    by_cases e : r = i
    · rw [if_pos ⟨e, hi⟩, if_pos (by omega)]
    · rw [if_neg (fun h => e h.1), if_neg (by omega)]
theorem hval_lt {h h' : List Ob} {i : Nat} {o : Ob} (e : nthO h i = some o) (hv : hval h' (i + 1) = hval h (i + 1)) : i < h'.length := nthO_lt ((hval_succ.1 hv).trans e)

theorem extA {kk : K} {v : TV} {i : Nat} {ob : Ob} (h2 : clsK kk = 2) (hf : fpK s kk = ([], [])) (hfree : nthO s.h i = some .free) (hk : k v ⟨s.t, setO s.h i ob⟩)
    (hw : ∀ c : AS, (∀ x ∈ opsX kk, c.ev x = s.ev x) → ∀ k kp : TV → AS → Prop, k v ⟨c.t, setO c.h i ob⟩ → wpB R (some i) kk c k kp) : Ext R (some i) kk s k kp := by
  have e : fK (some i) kk s (setO s.h i ob) = ([i + 1], [i + 1]) := by simp [fK, hf]
  refine ⟨v, setO s.h i ob, .inl ⟨hk, ?_⟩⟩
  rw [e]
  have hl := nthO_lt hfree
  refine ⟨fun m hm => ?_, by simp, fun h => by omega, fun c hc hF _ => ?_⟩
  · rw [hval_setO hl, if_neg (by simpa using hm)]
  · have hlc := hval_lt hfree (hF (i + 1) (by simp))
    refine ⟨setO c.h i ob, fun m hm => ?_, fun m hm => ?_, fun k kp hk => hw c hc k kp (by simpa using hk)⟩
    · rw [hval_setO hl, hval_setO hlc]
      simp only [List.mem_singleton] at hm
      rw [if_pos hm, if_pos hm]
    · rw [hval_setO hlc, if_neg (by simpa using hm)]

theorem ext_ld {n : Nat} {g : Bool} {a : X} (h : wpB R none (.ld n g a) s k kp) : Ext R none (.ld n g a) s k kp := by
  simp only [wpB, wpS, wpK] at h
  split at h
  · rename_i cs j hv
    split at h
    · rename_i v hl
      exact ext0 (by simp [fpK, hv]) h fun c hc k kp hk => by simp only [wpB, wpS, wpK]; rw [hc a (by simp [opsX]), hv]; simp only [hl]; exact hk
    · exact h.elim
  · rename_i pl z i j hv
    have hfp : fpK s (.ld n g a) = ([pl.root + 1], []) := by simp [fpK, hv]
    split at h
    · rename_i cs ho
      split at h
      · rename_i hp
        split at h
        · rename_i v hl
          exact ext1 hfp h fun c hc hF k kp hk => by
            have e := hval_succ.1 (hF (pl.root + 1) (by simp))
            simp only [wpB, wpS, wpK]; rw [hc a (by simp [opsX]), hv]; simp only [e, ho, hp, hl]; exact hk
        · exact h.elim
      · exact h.elim
    · rename_i z' els ho
      split at h
      · rename_i hp
        split at h
        · rename_i cs hcs
          split at h
          · rename_i hlen
            split at h
            · rename_i v hl
              exact ext1 hfp h fun c hc hF k kp hk => by
                have e := hval_succ.1 (hF (pl.root + 1) (by simp))
                simp only [wpB, wpS, wpK]; rw [hc a (by simp [opsX]), hv]; simp only [e, ho, hp, hcs, hlen, hl]; exact hk
            · exact h.elim
          · exact h.elim
        · exact h.elim
      · exact h.elim
    · rename_i nn z' els ho
      obtain ⟨b, r, cs, e1, e2, h⟩ := h
      split at h
      · rename_i hlen
        split at h
        · rename_i v hl
          exact ext1 hfp h fun c hc hF k kp hk => by
            have e := hval_succ.1 (hF (pl.root + 1) (by simp))
            simp only [wpB, wpS, wpK]; rw [hc a (by simp [opsX]), hv]; simp only [e, ho]
            exact ⟨b, r, cs, e1, e2, by simp only [hlen, hl]; exact hk⟩
        · exact h.elim
      · exact h.elim
    · exact h.elim
  · exact h.elim
theorem ext_b2s {x : X} (h : wpB R none (.b2s x) s k kp) : Ext R none (.b2s x) s k kp := by
  simp only [wpB, wpS, wpK] at h
  split at h
  · rename_i nn z els hv
    obtain ⟨l, e1, e2⟩ := h
    exact ext0 (by simp [fpK, hv]) e2 fun c hc k kp hk => by simp only [wpB, wpS, wpK]; rw [hc x (by simp [opsX]), hv]; exact ⟨l, e1, hk⟩
  · rename_i nn pl z off len hv
    split at h
    · rename_i nn' z' els ho
      obtain ⟨b, r, l, e1, e2, e3, e4, e5⟩ := h
      exact ext1 (F := [pl.root + 1]) (by simp [fpK, hv]) e5 fun c hc hF k kp hk => by
        have e := hval_succ.1 (hF (pl.root + 1) (by simp))
        simp only [wpB, wpS, wpK]; rw [hc x (by simp [opsX]), hv]; simp only [e, ho]
        exact ⟨b, r, l, e1, e2, e3, e4, hk⟩
    · exact h.elim
  · exact h.elim

theorem ext_box {i : Nat} {x : X} (hfree : nthO s.h i = some .free) (h : wpB R (some i) (.box x) s k kp) : Ext R (some i) (.box x) s k kp := by
  simp only [wpB, wpS, wpK] at h
  exact extA rfl rfl hfree h fun c hc k kp hk => by simp only [wpB, wpS, wpK]; rw [hc x (by simp [opsX])]; exact hk
theorem ext_alloc {i : Nat} {z : List PV} (hfree : nthO s.h i = some .free) (h : wpB R (some i) (.alloc z) s k kp) : Ext R (some i) (.alloc z) s k kp := by
  simp only [wpB, wpS, wpK] at h
  exact extA rfl rfl hfree h fun c hc k kp hk => by simp only [wpB, wpS, wpK]; exact hk
theorem ext_bsl {i w : Nat} {z : List (List PV)} {ps : List (Nat × X)} (hfree : nthO s.h i = some .free) (h : wpB R (some i) (.bsl w z ps) s k kp) : Ext R (some i) (.bsl w z ps) s k kp := by
  simp only [wpB, wpS, wpK] at h
  split at h
  · rename_i els he
    exact extA rfl rfl hfree h fun c hc k kp hk => by
      simp only [wpB, wpS, wpK]
      rw [bslC_congr (s := s) (fun q hq => hc q.2 (by simp only [opsX, List.mem_map]; exact ⟨q, hq, rfl⟩)), he]; exact hk
  · exact h.elim
theorem ext_s2b {i : Nat} {x : X} (hfree : nthO s.h i = some .free) (h : wpB R (some i) (.s2b x) s k kp) : Ext R (some i) (.s2b x) s k kp := by
  simp only [wpB, wpS, wpK] at h
  split at h
  · rename_i l hv
    exact extA rfl rfl hfree h fun c hc k kp hk => by simp only [wpB, wpS, wpK]; rw [hc x (by simp [opsX]), hv]; exact hk
  · exact h.elim
theorem ext_mks {i w b : Nat} {z : List PV} {x y : X} (hfree : nthO s.h i = some .free) (h : wpB R (some i) (.mks w b z x y) s k kp) : Ext R (some i) (.mks w b z x y) s k kp := by
  simp only [wpB, wpS, wpK] at h
  split at h
  · rename_i k1 n k2 m h1 h2
    obtain ⟨els, e1, e2, e3, e4, e5⟩ := h
    exact extA rfl rfl hfree e5 fun c hc k kp hk => by simp only [wpB, wpS, wpK]; rw [hc x (by simp [opsX]), hc y (by simp [opsX]), h1, h2]; exact ⟨els, e1, e2, e3, e4, hk⟩
  · exact h.elim
end

/-! ### rows that are taken up -/
theorem lowW_loc {LI : PI → Int} : ∀ (cs : List TV) (h h' : List Ob) (cv : List PV) (h2 : List Ob) (q : Prop), lowW LI h cs = some (cv, h2, q) → (∀ r ∈ idsL cs, nthO h' r = nthO h r) →
    ∃ h2', lowW LI h' cs = some (cv, h2', q) ∧ (∀ r ∈ idsL cs, nthO h2' r = nthO h2 r) ∧ (∀ r, r ∉ idsL cs → nthO h2' r = nthO h' r ∧ nthO h2 r = nthO h r) ∧ h2.length = h.length ∧ h2'.length = h'.length
  | [], h, h', cv, h2, q, e, _ => by
    simp only [lowW, Option.some.injEq, Prod.mk.injEq] at e
    obtain ⟨rfl, rfl, rfl⟩ := e
    exact ⟨h', by simp [lowW], by simp [idsL], fun _ _ => ⟨rfl, rfl⟩, rfl, rfl⟩
  | .p c :: l, h, h', cv, h2, q, e, hr => by
    simp only [lowW] at e
    split at e
    · rename_i r h1 q1 e1
      simp only [Option.some.injEq, Prod.mk.injEq] at e
      obtain ⟨rfl, rfl, rfl⟩ := e
      obtain ⟨h2', f1, f2, f3, f4, f5⟩ := lowW_loc l h h' r h1 q1 e1 (fun r hr' => hr r (by simp [idsL, idsV, hr']))
      exact ⟨h2', by simp only [lowW, f1], by simpa [idsL, idsV] using f2, by simpa [idsL, idsV] using f3, f4, f5⟩
    · cases e
  | .fn f [] :: l, h, h', cv, h2, q, e, hr => by
    simp only [lowW] at e
    split at e
    · rename_i r h1 q1 e1
      simp only [Option.some.injEq, Prod.mk.injEq] at e
      obtain ⟨rfl, rfl, rfl⟩ := e
      obtain ⟨h2', f1, f2, f3, f4, f5⟩ := lowW_loc l h h' r h1 q1 e1 (fun r hr' => hr r (by simp [idsL, idsV, hr']))
      exact ⟨h2', by simp only [lowW, f1], by simpa [idsL, idsV] using f2, by simpa [idsL, idsV] using f3, f4, f5⟩
    · cases e
  | .sl nn ⟨r0, []⟩ z off len :: l, h, h', cv, h2, q, e, hr => by
    simp only [lowW] at e
    split at e
    · rename_i nn' z' els ho
      split at e
      · rename_i r h1 q1 hb e1
        simp only [Option.some.injEq, Prod.mk.injEq] at e
        obtain ⟨rfl, rfl, rfl⟩ := e
        have ho' : nthO h' r0 = some (.row nn' z' els) := by rw [hr r0 (by simp [idsL, idsV])]; exact ho
        have hl := nthO_lt ho
        have hl' := nthO_lt ho'
        have hag : ∀ r1 ∈ idsL l, nthO (setO h' r0 .dead) r1 = nthO (setO h r0 .dead) r1 := by
          intro r1 h1
          rw [nthO_setO, nthO_setO]
          by_cases e : r1 = r0
          · rw [if_pos ⟨e, hl'⟩, if_pos ⟨e, hl⟩]
          · rw [if_neg (fun h => e h.1), if_neg (fun h => e h.1)]
            exact hr r1 (by simp [idsL, idsV, h1])
        obtain ⟨h2', f1, f2, f3, f4, f5⟩ := lowW_loc l _ _ r h1 q1 e1 hag
        refine ⟨h2', by simp only [lowW, ho', hb, f1], fun r1 h3 => ?_, fun r1 h3 => ?_, by simpa [setO_eq] using f4, by simpa [setO_eq] using f5⟩
        · by_cases h4 : r1 ∈ idsL l
          · exact f2 r1 h4
          · obtain ⟨g1, g2⟩ := f3 r1 h4
            simp only [idsL, idsV, List.mem_append, List.mem_singleton, h4, or_false] at h3
            subst h3
            rw [g1, g2, nthO_setO, nthO_setO, if_pos ⟨rfl, hl'⟩, if_pos ⟨rfl, hl⟩]
        · simp only [idsL, idsV, List.mem_append, List.mem_singleton, not_or] at h3
          obtain ⟨g1, g2⟩ := f3 r1 h3.2
          rw [g1, g2, nthO_setO, nthO_setO, if_neg (fun h => h3.1 h.1), if_neg (fun h => h3.1 h.1)]
          exact ⟨rfl, rfl⟩
      · cases e
    · cases e
  | .un :: l, h, h', cv, h2, q, e, hr => by simp [lowW] at e
  | .agg _ :: l, h, h', cv, h2, q, e, hr => by simp [lowW] at e
  | .ptr _ _ _ _ :: l, h, h', cv, h2, q, e, hr => by simp [lowW] at e
  | .cptr _ _ :: l, h, h', cv, h2, q, e, hr => by simp [lowW] at e
  | .sl _ ⟨_, _ :: _⟩ _ _ _ :: l, h, h', cv, h2, q, e, hr => by simp [lowW] at e
  | .fn _ (_ :: _) :: l, h, h', cv, h2, q, e, hr => by simp [lowW] at e
  | .tup _ :: l, h, h', cv, h2, q, e, hr => by simp [lowW] at e
  | .map _ :: l, h, h', cv, h2, q, e, hr => by simp [lowW] at e
  | .ifv _ _ :: l, h, h', cv, h2, q, e, hr => by simp [lowW] at e
theorem lowWs_loc {LI : PI → Int} : ∀ (els : List (List TV)) (h h' : List Ob) (cv : List (List PV)) (h2 : List Ob) (q : Prop), lowWs LI h els = some (cv, h2, q) → (∀ r ∈ idsLL els, nthO h' r = nthO h r) →
    ∃ h2', lowWs LI h' els = some (cv, h2', q) ∧ (∀ r ∈ idsLL els, nthO h2' r = nthO h2 r) ∧ (∀ r, r ∉ idsLL els → nthO h2' r = nthO h' r ∧ nthO h2 r = nthO h r) ∧ h2.length = h.length ∧ h2'.length = h'.length
  | [], h, h', cv, h2, q, e, _ => by
    simp only [lowWs, Option.some.injEq, Prod.mk.injEq] at e
    obtain ⟨rfl, rfl, rfl⟩ := e
    exact ⟨h', by simp [lowWs], by simp [idsLL], fun _ _ => ⟨rfl, rfl⟩, rfl, rfl⟩
  | v :: l, h, h', cv, h2, q, e, hr => by
    simp only [lowWs] at e
    split at e
    · rename_i c h1 q1 e1
      split at e
      · rename_i r h3 q3 e3
        simp only [Option.some.injEq, Prod.mk.injEq] at e
        obtain ⟨rfl, rfl, rfl⟩ := e
        obtain ⟨h1', f1, f2, f3, f4, f5⟩ := lowW_loc v h h' c h1 q1 e1 (fun r hr' => hr r (by simp [idsLL, hr']))
        have hag : ∀ r1 ∈ idsLL l, nthO h1' r1 = nthO h1 r1 := by
          intro r1 hr1
          by_cases h4 : r1 ∈ idsL v
          · exact f2 r1 h4
          · obtain ⟨g1, g2⟩ := f3 r1 h4
            rw [g1, g2]
            exact hr r1 (by simp [idsLL, hr1])
        obtain ⟨h3', g1, g2, g3, g4, g5⟩ := lowWs_loc l h1 h1' r h3 q3 e3 hag
        refine ⟨h3', by simp only [lowWs, f1, g1], fun r1 hr1 => ?_, fun r1 hr1 => ?_, by omega, by omega⟩
        · by_cases h4 : r1 ∈ idsLL l
          · exact g2 r1 h4
          · obtain ⟨p1, p2⟩ := g3 r1 h4
            rw [p1, p2]
            simp only [idsLL, List.mem_append, h4, or_false] at hr1
            exact f2 r1 hr1
        · simp only [idsLL, List.mem_append, not_or] at hr1
          obtain ⟨p1, p2⟩ := g3 r1 hr1.2
          obtain ⟨p3, p4⟩ := f3 r1 hr1.1
          rw [p1, p2]
          exact ⟨p3, p4⟩
      · cases e
    · cases e

theorem srcW_loc {LI : PI → Int} {LE : PE → List (List PV)} {w : Nat} {h h' : List Ob} {y : TV} {els : List (List PV)} {h1 : List Ob} {q : Prop} (e : srcW LI LE w h y = some (els, h1, q))
    (hr : ∀ r ∈ idsV y ++ srcIds h y, nthO h' r = nthO h r) :
    ∃ h1', srcW LI LE w h' y = some (els, h1', q) ∧ (∀ r ∈ idsV y ++ srcIds h y, nthO h1' r = nthO h1 r) ∧ (∀ r, r ∉ idsV y ++ srcIds h y → nthO h1' r = nthO h' r ∧ nthO h1 r = nthO h r) ∧ h1.length = h.length ∧ h1'.length = h'.length := by
  unfold srcW at e
  split at e
  · simp only [Option.some.injEq, Prod.mk.injEq] at e
    obtain ⟨rfl, rfl, rfl⟩ := e
    exact ⟨h', rfl, by simp [idsV, srcIds], fun _ _ => ⟨rfl, rfl⟩, rfl, rfl⟩
  · simp only [Option.some.injEq, Prod.mk.injEq] at e
    obtain ⟨rfl, rfl, rfl⟩ := e
    exact ⟨h', rfl, by simp [idsV, srcIds], fun _ _ => ⟨rfl, rfl⟩, rfl, rfl⟩
  · rename_i nn0 pl z off len
    have hroot : nthO h' pl.root = nthO h pl.root := hr pl.root (by simp [idsV])
    split at e
    · rename_i nn z' els0 ho
      split at e
      · rename_i b r hrow
        simp only [Option.some.injEq, Prod.mk.injEq] at e
        obtain ⟨rfl, rfl, rfl⟩ := e
        refine ⟨h', by simp only [srcW, hroot, ho, hrow], fun r1 h1 => hr r1 h1, fun _ _ => ⟨rfl, rfl⟩, rfl, rfl⟩
      · cases e
    · rename_i z0 els0 ho
      split at e
      · rename_i els' h2 q2 hp e2
        simp only [Option.some.injEq, Prod.mk.injEq] at e
        obtain ⟨rfl, rfl, rfl⟩ := e
        have hl := nthO_lt ho
        have ho' := hroot.trans ho
        have hl' := nthO_lt ho'
        have hids : ∀ r1, r1 ∈ idsV (.sl nn0 pl z off len) ++ srcIds h (.sl nn0 pl z off len) ↔ r1 = pl.root ∨ r1 ∈ idsLL els0 := by
          intro r1
          simp [idsV, srcIds, ho, idsO]
        have hag : ∀ r1 ∈ idsLL els0, nthO (setO h' pl.root .dead) r1 = nthO (setO h pl.root .dead) r1 := by
          intro r1 h1
          rw [nthO_setO, nthO_setO]
          by_cases e : r1 = pl.root
          · rw [if_pos ⟨e, hl'⟩, if_pos ⟨e, hl⟩]
          · rw [if_neg (fun h => e h.1), if_neg (fun h => e h.1)]
            exact hr r1 ((hids r1).2 (.inr h1))
        obtain ⟨h2', f1, f2, f3, f4, f5⟩ := lowWs_loc els0 _ _ _ _ _ e2 hag
        refine ⟨h2', by simp only [srcW, hroot, ho, hp, f1], fun r1 h3 => ?_, fun r1 h3 => ?_, by simpa [setO_eq] using f4, by simpa [setO_eq] using f5⟩
        · by_cases h4 : r1 ∈ idsLL els0
          · exact f2 r1 h4
          · obtain ⟨g1, g2⟩ := f3 r1 h4
            have h5 := ((hids r1).1 h3).resolve_right h4
            subst h5
            rw [g1, g2, nthO_setO, nthO_setO, if_pos ⟨rfl, hl'⟩, if_pos ⟨rfl, hl⟩]
        · have h5 : ¬ (r1 = pl.root ∨ r1 ∈ idsLL els0) := fun h => h3 ((hids r1).2 h)
          obtain ⟨g1, g2⟩ := f3 r1 (fun h => h5 (.inr h))
          rw [g1, g2, nthO_setO, nthO_setO, if_neg (fun h => h5 (.inl h.1)), if_neg (fun h => h5 (.inl h.1))]
          exact ⟨rfl, rfl⟩
      · cases e
    · cases e
  · cases e

theorem dstW_loc {LI : PI → Int} {w : Nat} {h h' : List Ob} {x : TV} {old : List (List PV)} {nn : Bool} {len : Int} {h1 : List Ob} {q : Prop} (e : dstW LI w h x = some (old, nn, len, h1, q))
    (hr : ∀ r ∈ idsV x, nthO h' r = nthO h r) :
    ∃ h1', dstW LI w h' x = some (old, nn, len, h1', q) ∧ (∀ r ∈ idsV x, nthO h1' r = nthO h1 r) ∧ (∀ r, r ∉ idsV x → nthO h1' r = nthO h' r ∧ nthO h1 r = nthO h r) ∧ h1.length = h.length ∧ h1'.length = h'.length := by
  unfold dstW at e
  split at e
  · simp only [Option.some.injEq, Prod.mk.injEq] at e
    obtain ⟨rfl, rfl, rfl, rfl, rfl⟩ := e
    exact ⟨h', rfl, by simp [idsV], fun _ _ => ⟨rfl, rfl⟩, rfl, rfl⟩
  · rename_i nn0 r z off len0
    have hroot : nthO h' r = nthO h r := hr r (by simp [idsV])
    have key : ∀ o, nthO h r = some o → (∀ r1 ∈ idsV (.sl nn0 ⟨r, []⟩ z off len0), nthO (setO h' r .dead) r1 = nthO (setO h r .dead) r1) ∧ (∀ r1, r1 ∉ idsV (.sl nn0 ⟨r, []⟩ z off len0) → nthO (setO h' r .dead) r1 = nthO h' r1 ∧ nthO (setO h r .dead) r1 = nthO h r1) := by
      intro o ho
      have hl := nthO_lt ho
      have hl' := nthO_lt (hroot.trans ho)
      refine ⟨fun r1 h1 => ?_, fun r1 h1 => ?_⟩
      · simp only [idsV, List.mem_singleton] at h1
        subst h1
        rw [nthO_setO, nthO_setO, if_pos ⟨rfl, hl'⟩, if_pos ⟨rfl, hl⟩]
      · simp only [idsV, List.mem_singleton] at h1
        rw [nthO_setO, nthO_setO, if_neg (fun h => h1 h.1), if_neg (fun h => h1 h.1)]
        exact ⟨rfl, rfl⟩
    split at e
    · rename_i nn' z' els ho
      split at e
      · rename_i hb1 hb2
        simp only [Option.some.injEq, Prod.mk.injEq] at e
        obtain ⟨rfl, rfl, rfl, rfl, rfl⟩ := e
        exact ⟨setO h' r .dead, by simp only [dstW, hroot, ho, hb1, hb2], (key _ ho).1, (key _ ho).2, by simp [setO_eq], by simp [setO_eq]⟩
      · cases e
    · rename_i z' els ho
      split at e
      · rename_i els' hb1 hb2 hlow
        simp only [Option.some.injEq, Prod.mk.injEq] at e
        obtain ⟨rfl, rfl, rfl, rfl, rfl⟩ := e
        exact ⟨setO h' r .dead, by simp only [dstW, hroot, ho, hb1, hb2, hlow], (key _ ho).1, (key _ ho).2, by simp [setO_eq], by simp [setO_eq]⟩
      · cases e
    · cases e
  · cases e
end Go.Ab
/- Operations look at their operands and their footprint alone: stores, append, calls. -/
set_option linter.unusedVariables false
set_option linter.unusedSimpArgs false
namespace Go.Ab

section
variable {R : Ro} {s : AS} {k kp : TV → AS → Prop}

theorem extW {kk : K} {v : TV} {F : List Nat} {hh : List Ob} (h2 : clsK kk = 2) (hf : fpK s kk = (F, F)) (hlen : hh.length = s.h.length) (hkeep : ∀ m, m ∉ F → hval hh m = hval s.h m) (hk : k v ⟨s.t, hh⟩)
    (hw : ∀ c : AS, (∀ x ∈ opsX kk, c.ev x = s.ev x) → (∀ m ∈ F, hval c.h m = hval s.h m) →
      ∃ hh', (∀ m ∈ F, hval hh' m = hval hh m) ∧ (∀ m, m ∉ F → hval hh' m = hval c.h m) ∧ ∀ k kp : TV → AS → Prop, k v ⟨c.t, hh'⟩ → wpB R none kk c k kp) : Ext R none kk s k kp := by
  have e : fK none kk s hh = (F, F) := by simp [fK, hf, hlen, rng_zero]
  refine ⟨v, hh, .inl ⟨hk, ?_⟩⟩
  rw [e]
  refine ⟨hkeep, fun _ h => h, fun h => by omega, fun c hc hF _ => ?_⟩
  obtain ⟨hh', h1, h2, h3⟩ := hw c hc hF
  exact ⟨hh', h1, h2, fun k kp hk => h3 k kp (by simpa using hk)⟩

mutual
theorem idsV_cells : ∀ (v : TV) (r : Nat), r ∈ idsL (cellsOf v) → r ∈ idsV v
  | .agg cs, r, h => by simpa [cellsOf, idsV] using h
  | .un, r, h => by simp [cellsOf, idsL] at h
  | .p c, r, h => by simp [cellsOf, idsL, idsV] at h
  | .ptr a b c d, r, h => by simpa [cellsOf, idsL, idsV] using h
  | .cptr a b, r, h => by simp [cellsOf, idsL, idsV] at h
  | .sl a b c d e, r, h => by simpa [cellsOf, idsL, idsV] using h
  | .fn a b, r, h => by simpa [cellsOf, idsL, idsV] using h
  | .tup a, r, h => by simpa [cellsOf, idsL, idsV] using h
  | .map a, r, h => by simpa [cellsOf, idsL, idsV] using h
  | .ifv a b, r, h => by simpa [cellsOf, idsL, idsV] using h
end

theorem ext_st {n : Nat} {a v : X} (h : wpB R none (.st n a v) s k kp) : Ext R none (.st n a v) s k kp := by
  simp only [wpB, wpS, wpK] at h
  split at h
  · rename_i hlen hone
    split at h
    · rename_i pl z i j hv
      split at h
      · rename_i cs ho
        have hl := nthO_lt ho
        have hfp : fpK s (.st n a v) = ([pl.root + 1], [pl.root + 1]) := by simp [fpK, hv, ho]
        split at h
        · rename_i hp
          split at h
          · rename_i cs' hput
            refine extW rfl hfp (by simp [setO_eq]) (fun m hm => by rw [hval_setO hl, if_neg (by simpa using hm)]) h fun c hc hF => ?_
            have e := hval_succ.1 (hF (pl.root + 1) (by simp))
            have hlc := hval_lt ho (hF (pl.root + 1) (by simp))
            refine ⟨setO c.h pl.root (.box cs'), fun m hm => ?_, fun m hm => by rw [hval_setO hlc, if_neg (by simpa using hm)], fun k kp hk => ?_⟩
            · simp only [List.mem_singleton] at hm
              rw [hval_setO hlc, hval_setO hl, if_pos hm, if_pos hm]
            · simp only [wpB, wpS, wpK]
              rw [hc a (by simp [opsX]), hc v (by simp [opsX])]
              simp only [hlen, hone, hv, e, ho, hp, hput]
              exact hk
          · exact h.elim
        · exact h.elim
      · rename_i nn w els ho
        have hl := nthO_lt ho
        have hfp : fpK s (.st n a v) = ((pl.root + 1) :: sucs (idsV (s.ev v)), (pl.root + 1) :: sucs (idsV (s.ev v))) := by simp [fpK, hv, ho]
        split at h
        · rename_i cv h2 q hlow
          obtain ⟨hq, b, r, cs, cs', els', e1, e2, e3, e4, e5, e6, e7, h⟩ := h
          have hsub : ∀ r, r ∈ idsL (cellsOf (s.ev v)) → r + 1 ∈ (pl.root + 1) :: sucs (idsV (s.ev v)) := fun r hr => List.mem_cons_of_mem _ (mem_sucs.2 (idsV_cells _ r hr))
          obtain ⟨_, _, _, g3, g4, _⟩ := lowW_loc _ s.h s.h cv h2 q hlow (fun _ _ => rfl)
          refine extW rfl hfp (by simp [setO_eq, g4]) (fun m hm => ?_) h fun c hc hF => ?_
          · rw [hval_setO (by omega), if_neg (fun e => hm (by simp [e]))]
            cases m with
            | zero => simp [hval, g4]
            | succ r => exact hval_succ.2 (g3 r fun h => hm (hsub r h)).2
          · have e := hval_succ.1 (hF (pl.root + 1) (by simp))
            have hlc := hval_lt ho (hF (pl.root + 1) (by simp))
            obtain ⟨h2', f1, f2, f3, f4, f5⟩ := lowW_loc _ s.h c.h cv h2 q hlow (fun r hr => hval_succ.1 (hF _ (hsub r hr)))
            refine ⟨setO h2' pl.root (.row nn w els'), fun m hm => ?_, fun m hm => ?_, fun k kp hk => ?_⟩
            · rw [hval_setO (by omega), hval_setO (by omega)]
              split
              · rfl
              · rename_i hne
                cases m with
                | zero => simp only [List.mem_cons, zero_sucs, or_false] at hm; omega
                | succ r =>
                  refine hval_succ.2 ?_
                  by_cases hr : r ∈ idsL (cellsOf (s.ev v))
                  · exact f2 r hr
                  · obtain ⟨p1, p2⟩ := f3 r hr
                    rw [p1, p2]
                    exact hval_succ.1 (hF (r + 1) hm)
            · rw [hval_setO (by omega), if_neg (fun e => hm (by simp [e]))]
              cases m with
              | zero => simp [hval, f5]
              | succ r => exact hval_succ.2 (f3 r fun h => hm (hsub r h)).1
            · have e7' : deadO (nthO h2' pl.root) = false := by
                by_cases hr : pl.root ∈ idsL (cellsOf (s.ev v))
                · rw [f2 _ hr]; exact e7
                · obtain ⟨p1, p2⟩ := f3 _ hr
                  rw [p1, e, ← p2]; exact e7
              simp only [wpB, wpS, wpK]
              rw [hc a (by simp [opsX]), hc v (by simp [opsX])]
              simp only [hlen, hone, hv, e, ho, f1]
              exact ⟨hq, b, r, cs, cs', els', e1, e2, e3, e4, e5, e6, e7', hk⟩
        · exact h.elim
      · exact h.elim
    · exact h.elim
  · exact h.elim

theorem ext_app {i w b : Nat} {x y : X} (hfree : nthO s.h i = some .free) (h : wpB R (some i) (.app w b x y) s k kp) : Ext R (some i) (.app w b x y) s k kp := by
  simp only [wpB, appH] at h
  split at h
  · rename_i els h1 q1 hsrc
    split at h
    · rename_i old nn len h2 q2 hdst
      obtain ⟨c1, c2, n, nn', new, len', d1, d2, d3, d4, d5, d6, h⟩ := h
      have hI : ∀ (c : AS), (∀ m ∈ (fpK s (.app w b x y)).1, hval c.h m = hval s.h m) → (∀ r ∈ idsV (s.ev y) ++ srcIds s.h (s.ev y), nthO c.h r = nthO s.h r) ∧ ∀ r ∈ idsV (s.ev x), nthO c.h r = nthO s.h r := by
        intro c hc
        refine ⟨fun r hr => hval_succ.1 (hc (r + 1) ?_), fun r hr => hval_succ.1 (hc (r + 1) ?_)⟩
        · simp only [fpK]; exact mem_sucs.2 (List.mem_append.2 (.inr hr))
        · simp only [fpK]; exact mem_sucs.2 (List.mem_append.2 (.inl hr))
      have key : ∀ c : AS, (∀ m ∈ (fpK s (.app w b x y)).1, hval c.h m = hval s.h m) → ∃ h1' h2', srcW stdI stdE w c.h (s.ev y) = some (els, h1', q1) ∧ dstW stdI w h1' (s.ev x) = some (old, nn, len, h2', q2) ∧ h2'.length = c.h.length ∧ h2.length = s.h.length ∧
          (∀ m ∈ (fpK s (.app w b x y)).1, hval h2' m = hval h2 m) ∧ ∀ m, m ∉ (fpK s (.app w b x y)).1 → hval h2' m = hval c.h m ∧ hval h2 m = hval s.h m := by
        intro c hc
        obtain ⟨a1, a2⟩ := hI c hc
        obtain ⟨h1', f1, f2, f3, f4, f5⟩ := srcW_loc hsrc a1
        have hag : ∀ r ∈ idsV (s.ev x), nthO h1' r = nthO h1 r := by
          intro r hr
          by_cases h4 : r ∈ idsV (s.ev y) ++ srcIds s.h (s.ev y)
          · exact f2 r h4
          · obtain ⟨p1, p2⟩ := f3 r h4
            rw [p1, p2]; exact a2 r hr
        obtain ⟨h2', g1, g2, g3, g4, g5⟩ := dstW_loc hdst hag
        refine ⟨h1', h2', f1, g1, by omega, by omega, fun m hm => ?_, fun m hm => ?_⟩
        · cases m with
          | zero => simp only [fpK, zero_sucs] at hm
          | succ r =>
            simp only [fpK, mem_sucs] at hm
            refine hval_succ.2 ?_
            by_cases h4 : r ∈ idsV (s.ev x)
            · exact g2 r h4
            · obtain ⟨p1, p2⟩ := g3 r h4
              rw [p1, p2]
              exact f2 r ((List.mem_append.1 hm).resolve_left h4)
        · cases m with
          | zero => exact ⟨by simp [hval]; omega, by simp [hval]; omega⟩
          | succ r =>
            simp only [fpK, mem_sucs, List.mem_append, not_or] at hm
            obtain ⟨p1, p2⟩ := g3 r hm.1
            obtain ⟨p3, p4⟩ := f3 r (by simp [hm.2])
            exact ⟨hval_succ.2 (p1.trans p3), hval_succ.2 (p2.trans p4)⟩
      obtain ⟨_, _, _, _, _, hl2, _, hkeep⟩ := key s fun _ _ => rfl
      have hl := nthO_lt hfree
      have e : fK (some i) (.app w b x y) s (setO h2 i (.row nn' w new)) = ((i + 1) :: (fpK s (.app w b x y)).1, (i + 1) :: (fpK s (.app w b x y)).1) := by simp [fK, fpK]
      refine ⟨_, _, .inl ⟨h, ?_⟩⟩
      show LocB R (some i) (.app w b x y) s (fK (some i) (.app w b x y) s (setO h2 i (.row nn' w new))).1 (fK (some i) (.app w b x y) s (setO h2 i (.row nn' w new))).2 _ (setO h2 i (.row nn' w new)) false
      rw [e]
      refine ⟨fun m hm => ?_, fun _ h => h, fun h => by simp [clsK] at h, fun c hc hF _ => ?_⟩
      · simp only [List.mem_cons, not_or] at hm
        rw [hval_setO (by omega), if_neg hm.1]
        exact (hkeep m hm.2).2
      · obtain ⟨h1', h2', f1, f2, f3, f4, f5, f6⟩ := key c fun m hm => hF m (List.mem_cons_of_mem _ hm)
        have hlc := hval_lt hfree (hF (i + 1) (by simp))
        refine ⟨setO h2' i (.row nn' w new), fun m hm => ?_, fun m hm => ?_, fun k kp hk => ?_⟩
        · rw [hval_setO (by omega), hval_setO (by omega)]
          split
          · rfl
          · rename_i hne
            exact f5 m ((List.mem_cons.1 hm).resolve_left hne)
        · simp only [List.mem_cons, not_or] at hm
          rw [hval_setO (by omega), if_neg hm.1]
          exact (f6 m hm.2).1
        · simp only [wpB, appH]
          rw [hc x (by simp [opsX]), hc y (by simp [opsX])]
          simp only [f1, f2]
          simp only [Bool.false_eq_true, if_false] at hk
          exact ⟨c1, c2, n, nn', new, len', d1, d2, d3, d4, d5, d6, hk⟩
    · exact h.elim
  · exact h.elim

/-! ### calls -/
theorem reach_sub {h : List Ob} {RR : List Nat} (hcl : ∀ i ∈ RR, ∀ x ∈ idsO (nthO h i), x ∈ RR) : ∀ (n : Nat) (todo acc : List Nat), (∀ x ∈ todo, x ∈ RR) → (∀ x ∈ acc, x ∈ RR) → ∀ x ∈ reach h n todo acc, x ∈ RR := by
  intro n
  induction n with
  | zero => intro todo acc h1 h2 x hx; exact h2 x (by simpa [reach] using hx)
  | succ n ih =>
    intro todo acc h1 h2 x hx
    cases todo with
    | nil => exact h2 x (by simpa [reach] using hx)
    | cons i todo =>
      have hi := h1 i (by simp)
      simp only [reach] at hx
      split at hx
      · exact ih _ _ (fun y hy => h1 y (List.mem_cons_of_mem _ hy)) h2 x hx
      · refine ih _ _ (fun y hy => ?_) (fun y hy => ?_) x hx
        · rcases List.mem_append.1 hy with hy | hy
          · exact hcl i hi y hy
          · exact h1 y (List.mem_cons_of_mem _ hy)
        · rcases List.mem_append.1 hy with hy | hy
          · exact h2 y hy
          · simp only [List.mem_singleton] at hy; subst hy; exact hi
theorem reach_congr {h h' : List Ob} {RR : List Nat} (hcl : ∀ i ∈ RR, ∀ x ∈ idsO (nthO h i), x ∈ RR) (he : ∀ i ∈ RR, nthO h' i = nthO h i) : ∀ (n : Nat) (todo acc : List Nat), (∀ x ∈ todo, x ∈ RR) → reach h' n todo acc = reach h n todo acc := by
  intro n
  induction n with
  | zero => intro todo acc _; simp [reach]
  | succ n ih =>
    intro todo acc h1
    cases todo with
    | nil => simp [reach]
    | cons i todo =>
      have hi := h1 i (by simp)
      simp only [reach, he i hi]
      split
      · exact ih _ _ fun y hy => h1 y (List.mem_cons_of_mem _ hy)
      · refine ih _ _ fun y hy => ?_
        rcases List.mem_append.1 hy with hy | hy
        · exact hcl i hi y hy
        · exact h1 y (List.mem_cons_of_mem _ hy)
theorem lend_congr {LE : PE → List (List PV)} {h h' : List Ob} : ∀ (ln : List Nat) (vs : List TV), (∀ r ∈ ln, nthO h' r = nthO h r) → lend LE h' ln vs = lend LE h ln vs
  | [], vs, _ => rfl
  | r :: ln, vs, he => by
    simp only [lend, he r (by simp)]
    split
    · exact lend_congr ln _ fun r hr => he r (List.mem_cons_of_mem _ hr)
    · exact lend_congr ln _ fun r hr => he r (List.mem_cons_of_mem _ hr)
theorem pickO_congr {h h' : List Ob} {f : Nat → Nat} {ids : List Nat} (he : ∀ r ∈ ids, nthO h' r = nthO h r) : pickO h' f ids = pickO h f ids := by
  induction ids with
  | nil => rfl
  | cons a l ih => simp only [pickO, he a (by simp), ih fun r hr => he r (List.mem_cons_of_mem _ hr)]
theorem leL_eq : ∀ {l : List Nat} {os : List Ob}, leL l os = true → l.length ≤ os.length
  | [], _, _ => by simp
  | _ :: _, [], h => by simp [leL] at h
  | _ :: l, _ :: os, h => by simp only [leL] at h; simpa using leL_eq h

/-- A call at a state that agrees. -/
theorem callH_loc {f : FuncId} {h : List Ob} {nr : List Nat} {vs : List TV} {RR : List Nat} (hsub : ∀ x ∈ idsL vs, x ∈ RR) (hcl : ∀ i ∈ RR, ∀ x ∈ idsO (nthO h i), x ∈ RR) {k kp : TV → List Ob → Prop} (hw : callH stdE R f h nr vs k kp) :
    ∃ v hh pn, (if pn = true then kp v hh else k v hh) ∧ h.length ≤ hh.length ∧ (∀ r, r < h.length → r ∉ RR → nthO hh r = nthO h r) ∧
      ∀ (h' : List Ob) (nr' : List Nat), h'.length = h.length → (∀ i ∈ RR, nthO h' i = nthO h i) → (∀ i ∈ RR, i ∉ nr') →
        ∃ hh', hh'.length = hh.length ∧ (∀ r ∈ RR, nthO hh' r = nthO hh r) ∧ (∀ r, h.length ≤ r → nthO hh' r = nthO hh r) ∧ (∀ r, r < h.length → r ∉ RR → nthO hh' r = nthO h' r) ∧
          ∀ k' kp' : TV → List Ob → Prop, (if pn = true then kp' v hh' else k' v hh') → callH stdE R f h' nr' vs k' kp' := by
  obtain ⟨ln, hln, out, hR, hclo, hok, hle, hout⟩ := hw
  have hlnR : ∀ r ∈ ln, r ∈ RR := fun r hr => hsub r (subN_eq.1 hln r hr)
  generalize hvs : lend stdE h ln vs = vs' at hR hok hle hout
  have hvsub : ∀ x ∈ idsL vs', x ∈ RR := by
    intro x hx
    rw [← hvs, idsL_pls] at hx
    obtain ⟨π, h1, rfl⟩ := List.mem_map.1 hx
    exact hsub _ (by rw [idsL_pls]; exact List.mem_map.2 ⟨π, lend_pls ln vs π h1, rfl⟩)
  generalize hids : reach h 500 (idsL vs') [] = ids at hR hok hle hout
  obtain ⟨o1, o2, o3, o4⟩ := okIds_eq hok
  have hnd : ids.Nodup := by rw [← hids]; exact reach_nodup _ _ _ _ (by simp)
  have hidR : ∀ x ∈ ids, x ∈ RR := by rw [← hids]; exact reach_sub hcl _ _ _ hvsub (by simp)
  have hlt : ∀ i ∈ ids, i < h.length := fun i hi => by
    have := (o4 i hi).1
    cases e : nthO h i with
    | none => exact absurd e this
    | some o => exact nthO_lt e
  have hlen := leL_eq hle
  have hb := backO_get (f := nth0 ids h.length) ids out.objs h hlen hnd hlt
  have hbl := backO_length (f := nth0 ids h.length) ids out.objs h hlen
  obtain ⟨v, pn, hvp⟩ : ∃ v pn, ∀ (h' : List Ob) (k kp : TV → List Ob → Prop), h'.length = h.length → (outK ids h' k kp out ↔ if pn = true then kp v (backO (nth0 ids h.length) h' ids out.objs) else k v (backO (nth0 ids h.length) h' ids out.objs)) := by
    cases out with
    | ret u objs => exact ⟨renV (nth0 ids h.length) u, false, fun h' k kp e => by simp [outK, Out.objs, e]⟩
    | pan u objs => exact ⟨renV (nth0 ids h.length) u, true, fun h' k kp e => by simp [outK, Out.objs, e]⟩
  refine ⟨v, backO (nth0 ids h.length) h ids out.objs, pn, (hvp h k kp rfl).1 hout, by omega, fun r h1 h2 => ?_, fun h' nr' e1 e2 e3 => ?_⟩
  · rw [hb, if_neg (fun h => h2 (hidR r h)), if_pos h1]
  · have hb' := backO_get (f := nth0 ids h.length) ids out.objs h' hlen hnd (fun i hi => by rw [e1]; exact hlt i hi)
    have hbl' := backO_length (f := nth0 ids h.length) ids out.objs h' hlen
    refine ⟨backO (nth0 ids h.length) h' ids out.objs, by omega, fun r hr => ?_, fun r hr => ?_, fun r h1 h2 => ?_, fun k' kp' hk => ?_⟩
    · rw [hb, hb', e1]
      split
      · rfl
      · split
        · exact e2 r hr
        · rfl
    · have hge : ¬ r < h.length := by omega
      simp only [hb, hb', e1, if_neg hge]
    · rw [hb', if_neg (fun h => h2 (hidR r h)), e1, if_pos h1]
    · have hvs' : lend stdE h' ln vs = vs' := by rw [lend_congr ln vs fun r hr => e2 r (hlnR r hr)]; exact hvs
      have hids' : reach h' 500 (idsL vs') [] = ids := by rw [reach_congr hcl e2 _ _ _ hvsub]; exact hids
      refine ⟨ln, hln, ?_⟩
      unfold callV callI
      rw [hvs', hids']
      refine ⟨out, by rw [pickO_congr fun r hr => e2 r (hidR r hr)]; exact hR, hclo, ?_, hle, (hvp h' k' kp' e1).2 hk⟩
      unfold okIds
      rw [disj_eq.2 o1, disj_eq.2 (fun x hx => e3 x (hidR x hx)), subN_eq.2 o3]
      refine clsd_eq.2 fun i hi => ?_
      rw [e2 i (hidR i hi)]
      exact o4 i hi
end
end Go.Ab
/- Operations look at their operands and their footprint alone: each kind. -/
set_option linter.unusedVariables false
set_option linter.unusedSimpArgs false
namespace Go.Ab

theorem okR_eq {h : List Ob} {l ids : List Nat} (e : okR h l ids = true) : (∀ x ∈ l, x ∈ ids) ∧ ∀ i ∈ ids, ∀ x ∈ idsO (nthO h i), x ∈ ids := by
  unfold okR at e
  split at e
  · rename_i h1
    exact ⟨subN_eq.1 h1, fun i hi => (clsd_eq.1 e i hi).2⟩
  · cases e

section
variable {R : Ro} {s : AS} {k kp : TV → AS → Prop}

theorem ext_callH {kk : K} {f : FuncId} {vs : List TV} {RR : List Nat} (hfp : fpK s kk = (0 :: sucs RR, 0 :: sucs RR)) (hic : isCall kk = true) (h2c : clsK kk = 2) (hsub : ∀ x ∈ idsL vs, x ∈ RR) (hcl : ∀ i ∈ RR, ∀ x ∈ idsO (nthO s.h i), x ∈ RR)
    (h : callH stdE R f s.h s.nr vs (fun v h => k v ⟨s.t, h⟩) (fun v h => kp v ⟨s.t, h⟩))
    (hw : ∀ c : AS, (∀ x ∈ opsX kk, c.ev x = s.ev x) → ∀ k kp : TV → AS → Prop, callH stdE R f c.h c.nr vs (fun v h => k v ⟨c.t, h⟩) (fun v h => kp v ⟨c.t, h⟩) → wpB R none kk c k kp) : Ext R none kk s k kp := by
  obtain ⟨v, hh, pn, h1, h2, h3, h4⟩ := callH_loc hsub hcl h
  have e : fK none kk s hh = ((0 :: sucs RR) ++ rng s.h.length (hh.length - s.h.length), (0 :: sucs RR) ++ rng s.h.length (hh.length - s.h.length)) := by simp [fK, hfp]
  have hW : ∀ r, r + 1 ∈ (0 :: sucs RR) ++ rng s.h.length (hh.length - s.h.length) ↔ r ∈ RR ∨ (s.h.length ≤ r ∧ r < hh.length) := by
    intro r
    have : (s.h.length < r + 1 ∧ r + 1 ≤ s.h.length + (hh.length - s.h.length)) ↔ (s.h.length ≤ r ∧ r < hh.length) := by omega
    simp only [List.mem_append, List.mem_cons, mem_sucs, mem_rng, this, Nat.succ_ne_zero, false_or]
  have hloc : LocB R none kk s (fK none kk s hh).1 (fK none kk s hh).2 v hh pn := by
    rw [e]
    refine ⟨fun m hm => ?_, fun _ h => h, fun h => by omega, fun c hc hF hnr => ?_⟩
    · cases m with
      | zero => simp at hm
      | succ r =>
        simp only [hW, not_or] at hm
        refine hval_succ.2 ?_
        by_cases hr : r < s.h.length
        · exact h3 r hr hm.1
        · rw [nthO_none (by omega), nthO_none (by omega)]
    · have hl : c.h.length = s.h.length := by have := hF 0 (by simp); simpa [hval] using this
      have hR' : ∀ i ∈ RR, nthO c.h i = nthO s.h i := fun i hi => hval_succ.1 (hF (i + 1) ((hW i).2 (.inl hi)))
      obtain ⟨hh', g1, g2, g3, g4, g5⟩ := h4 c.h c.nr hl hR' fun i hi => hnr hic i ((hW i).2 (.inl hi))
      refine ⟨hh', fun m hm => ?_, fun m hm => ?_, fun k kp hk => hw c hc k kp (g5 _ _ ?_)⟩
      · cases m with
        | zero => simp [hval, g1]
        | succ r =>
          refine hval_succ.2 ?_
          rcases (hW r).1 hm with hr | hr
          · exact g2 r hr
          · exact g3 r hr.1
      · cases m with
        | zero => simp at hm
        | succ r =>
          simp only [hW, not_or] at hm
          refine hval_succ.2 ?_
          by_cases hr : r < s.h.length
          · exact g4 r hr hm.1
          · rw [nthO_none (by omega), nthO_none (by omega)]
      · cases pn <;> simpa using hk
  cases pn with
  | false => exact ⟨v, hh, .inl ⟨by simpa using h1, hloc⟩⟩
  | true => exact ⟨v, hh, .inr ⟨by simpa using h1, hloc⟩⟩

theorem ext_call {f : FuncId} {xs : List X} (hok : okK s (.call f xs) = true) (h : wpB R none (.call f xs) s k kp) : Ext R none (.call f xs) s k kp := by
  obtain ⟨o1, o2⟩ := okR_eq hok
  exact ext_callH rfl rfl rfl o1 o2 h fun c hc k kp hk => by
    simp only [wpB]
    rw [evs_congr (s := s) (xs := xs) (fun y hy => hc y hy)]; exact hk
theorem idsL_app (l m : List TV) : idsL (l ++ m) = idsL l ++ idsL m := by
  induction l with
  | nil => simp [idsL]
  | cons a l ih => simp [idsL, ih]
theorem ext_calld {x : X} {xs : List X} (hok : okK s (.calld x xs) = true) (h : wpB R none (.calld x xs) s k kp) : Ext R none (.calld x xs) s k kp := by
  obtain ⟨o1, o2⟩ := okR_eq hok
  simp only [wpB] at h
  split at h
  · rename_i f caps hv
    refine ext_callH rfl rfl rfl (fun y hy => o1 y ?_) o2 h fun c hc k kp hk => ?_
    · rw [idsL_app] at hy
      simp only [hv, idsV, List.mem_append] at hy ⊢
      exact hy.symm
    · simp only [wpB]
      rw [hc x (by simp [opsX]), hv, evs_congr (s := s) (xs := xs) (fun y hy => hc y (by simp [opsX, hy]))]; exact hk
  · rename_i f hv
    refine ext_callH rfl rfl rfl (fun y hy => o1 y (List.mem_append.2 (.inr hy))) o2 h fun c hc k kp hk => ?_
    simp only [wpB]
    rw [hc x (by simp [opsX]), hv, evs_congr (s := s) (xs := xs) (fun y hy => hc y (by simp [opsX, hy]))]; exact hk
  · exact h.elim

/-- Each kind. -/
theorem ext_B {sl : Option Nat} {kk : K} (h1 : ∀ i, sl = some i → allocK kk = true ∧ nthO s.h i = some .free) (h2 : sl = none → allocK kk = false) (hok : okK s kk = true) (h : wpB R sl kk s k kp) : Ext R sl kk s k kp := by
  cases sl with
  | none =>
    have h2 := h2 rfl
    cases kk with
    | mv x => exact ext_mv h
    | pick c a b => exact ext_pick h
    | box x => simp [allocK] at h2
    | alloc z => simp [allocK] at h2
    | build z ps => exact ext_build h
    | bsl w z ps => simp [allocK] at h2
    | ld n g a => exact ext_ld h
    | st n a v => exact ext_st h
    | nilck x => exact ext_nilck h
    | ari op k x y => exact ext_ari h
    | cmp op x y => exact ext_cmp h
    | beq ne x y => exact ext_beq h
    | aeq ne pl x y => exact ext_aeq h
    | scmp op x y => exact ext_scmp h
    | cat x y => exact ext_cat h
    | eqnil kd ne x => exact ext_eqnil h
    | not x => exact ext_not h
    | conv k x => exact ext_conv h
    | b2s x => exact ext_b2s h
    | s2b x => simp [allocK] at h2
    | sid x => exact ext_sid h
    | mki t x => exact ext_mki h
    | mkf f caps => exact ext_mkf h
    | mks w b z l c => simp [allocK] at h2
    | ssl x lo hi => exact ext_ssl h
    | sls w x lo hi mx => exact ext_sls h
    | fa off x => exact ext_fa h
    | fld off n g x => exact ext_fld h
    | ia w x i => exact ext_ia h
    | iaA n w x i => exact ext_iaA h
    | ixS x i => exact ext_ixS h
    | ext x i => exact ext_ext h
    | len str x => exact ext_len h
    | app w b x y => simp [allocK] at h2
    | call f xs => exact ext_call hok h
    | calld x xs => exact ext_calld hok h
    | panic x => exact ext_panic h
  | some i =>
    obtain ⟨ha, hf⟩ := h1 i rfl
    cases kk with
    | box x => exact ext_box hf h
    | alloc z => exact ext_alloc hf h
    | bsl w z ps => exact ext_bsl hf h
    | s2b x => exact ext_s2b hf h
    | mks w b z l c => exact ext_mks hf h
    | app w b x y => exact ext_app hf h
    | _ => simp [allocK] at ha
end
end Go.Ab
/- Orders: whatever the order, each place is as behind the last operation that turned it. -/
set_option linter.unusedVariables false
set_option linter.unusedSimpArgs false
namespace Go.Ab

section
variable {σ L V : Type} {val : σ → L → V} {n : Nat} {S : Nat → σ} {W F : Nat → L → Prop} {bef : Nat → Nat → Prop}

structure Tr (val : σ → L → V) (n : Nat) (S : Nat → σ) (W F : Nat → L → Prop) (bef : Nat → Nat → Prop) : Prop where
  lt : ∀ j k, bef j k → j < k
  wf : ∀ i ℓ, W i ℓ → F i ℓ
  keep : ∀ i ℓ, i < n → ¬ W i ℓ → val (S (i + 1)) ℓ = val (S i) ℓ
  apart : ∀ i k ℓ, i < k → k < n → ¬ bef i k → ¬ (W i ℓ ∧ F k ℓ) ∧ ¬ (W k ℓ ∧ F i ℓ)

/-- What lies at each place once the operations D are done. -/
def InvD (val : σ → L → V) (n : Nat) (S : Nat → σ) (W : Nat → L → Prop) (D : Nat → Prop) (c : σ) : Prop :=
  ∀ ℓ i, i ≤ n → (∀ j, j < n → W j ℓ → (D j ↔ j < i)) → val c ℓ = val (S i) ℓ

theorem Tr.chain (t : Tr val n S W F bef) {ℓ : L} {a : Nat} : ∀ (b : Nat), a ≤ b → b ≤ n → (∀ j, a ≤ j → j < b → ¬ W j ℓ) → val (S b) ℓ = val (S a) ℓ := by
  intro b
  induction b with
  | zero => intro h _ _; rw [show a = 0 by omega]
  | succ b ih =>
    intro h h2 h3
    by_cases e : a = b + 1
    · rw [e]
    · rw [t.keep b ℓ (by omega) (h3 b (by omega) (by omega))]
      exact ih (by omega) (by omega) fun j h4 h5 => h3 j h4 (by omega)

theorem InvD.start (t : Tr val n S W F bef) {D : Nat → Prop} (hD : ∀ j, j < n → ¬ D j) {c : σ} (hc : ∀ ℓ, val c ℓ = val (S 0) ℓ) : InvD val n S W D c := by
  intro ℓ i hi h
  rw [hc]
  refine (t.chain i (Nat.zero_le _) hi fun j _ hj hw => ?_).symm
  exact hD j (by omega) ((h j (by omega) hw).2 hj)

theorem InvD.at_ (t : Tr val n S W F bef) {D : Nat → Prop} {c : σ} (hI : InvD val n S W D c) (hcl : ∀ j k, D k → bef j k → D j) {k : Nat} (hk : k < n) (hn : ¬ D k) (hb : ∀ j, bef j k → D j) {ℓ : L} (hF : F k ℓ) : val c ℓ = val (S k) ℓ := by
  refine hI ℓ k (by omega) fun j hj hw => ?_
  rcases Nat.lt_trichotomy j k with h | h | h
  · refine ⟨fun _ => h, fun _ => ?_⟩
    by_cases hbj : bef j k
    · exact hb j hbj
    · exact absurd ⟨hw, hF⟩ (t.apart j k ℓ h hk hbj).1
  · subst h
    exact ⟨fun h => absurd h hn, fun h => absurd h (Nat.lt_irrefl _)⟩
  · refine ⟨fun hd => ?_, fun h2 => by omega⟩
    by_cases hbj : bef k j
    · exact absurd (hcl k j hd hbj) hn
    · exact absurd ⟨hw, hF⟩ (t.apart k j ℓ h hj hbj).2

theorem InvD.step (t : Tr val n S W F bef) {D D' : Nat → Prop} {c c' : σ} (hI : InvD val n S W D c) (hcl : ∀ j k, D k → bef j k → D j) {k : Nat} (hk : k < n) (hn : ¬ D k) (hD' : ∀ j, D' j ↔ D j ∨ j = k)
    (h1 : ∀ ℓ, W k ℓ → val c' ℓ = val (S (k + 1)) ℓ) (h2 : ∀ ℓ, ¬ W k ℓ → val c' ℓ = val c ℓ) : InvD val n S W D' c' := by
  intro ℓ i hi h
  by_cases hw : W k ℓ
  · rw [h1 ℓ hw]
    have hki : k < i := (h k hk hw).1 ((hD' k).2 (.inr rfl))
    refine (t.chain i (by omega) hi fun j h3 h4 hwj => ?_).symm
    have hd : D j := by
      rcases (hD' j).1 ((h j (by omega) hwj).2 h4) with h | h
      · exact h
      · omega
    by_cases hbj : bef k j
    · exact hn (hcl k j hd hbj)
    · exact (t.apart k j ℓ (by omega) (by omega) hbj).2 ⟨hwj, t.wf k ℓ hw⟩
  · rw [h2 ℓ hw]
    refine hI ℓ i hi fun j hj hwj => ?_
    have := h j hj hwj
    rw [hD'] at this
    have hne : j ≠ k := fun e => hw (e ▸ hwj)
    simpa [hne] using this

theorem InvD.end_ {D : Nat → Prop} {c : σ} (hI : InvD val n S W D c) (hD : ∀ j, j < n → D j) (ℓ : L) : val c ℓ = val (S n) ℓ :=
  hI ℓ n (Nat.le_refl _) fun j hj _ => ⟨fun _ => hj, fun _ => hD j hj⟩

/-- Each place is as it is somewhere on the way. -/
theorem InvD.some_ (t : Tr val n S W F bef) {D : Nat → Prop} {c : σ} (hI : InvD val n S W D c) (hcl : ∀ j k, D k → bef j k → D j) (ℓ : L) : ∃ i, i ≤ n ∧ val c ℓ = val (S i) ℓ := by
  have key : ∀ m, m ≤ n → ∃ i, i ≤ m ∧ (∀ j, j < m → W j ℓ → D j → j < i) ∧ (i = 0 ∨ ∃ q, i = q + 1 ∧ W q ℓ ∧ D q) := by
    intro m
    induction m with
    | zero => intro _; exact ⟨0, Nat.le_refl _, fun j hj => by omega, .inl rfl⟩
    | succ m ih =>
      intro hm
      by_cases e : W m ℓ ∧ D m
      · exact ⟨m + 1, Nat.le_refl _, fun j hj _ _ => hj, .inr ⟨m, rfl, e.1, e.2⟩⟩
      · obtain ⟨i, h1, h2, h3⟩ := ih (by omega)
        refine ⟨i, by omega, fun j hj hw hd => ?_, h3⟩
        by_cases e2 : j = m
        · subst e2; exact absurd ⟨hw, hd⟩ e
        · exact h2 j (by omega) hw hd
  obtain ⟨i, h1, h2, h3⟩ := key n (Nat.le_refl _)
  refine ⟨i, h1, hI ℓ i h1 fun j hj hw => ⟨fun hd => h2 j hj hw hd, fun hji => ?_⟩⟩
  rcases h3 with rfl | ⟨q, rfl, hwq, hdq⟩
  · omega
  · by_cases e : j = q
    · subst e; exact hdq
    · by_cases hb : bef j q
      · exact hcl j q hdq hb
      · exact absurd ⟨hw, t.wf q ℓ hwq⟩ (t.apart j q ℓ (by omega) (by omega) hb).1
end

/-! ### what surely lies ahead -/
theorem addN_mem {l m : List Nat} {x : Nat} : x ∈ addN l m ↔ x ∈ l ∨ x ∈ m := by
  induction m generalizing l with
  | nil => simp [addN]
  | cons a m ih =>
    simp only [addN]
    split
    · rename_i h
      rw [ih]
      have := (memN_eq a l).1 h
      simp only [List.mem_cons]
      constructor
      · rintro (h | h) <;> simp [h]
      · rintro (h | h | h)
        · exact .inl h
        · subst h; exact .inl this
        · exact .inr h
    · rw [ih]
      simp only [List.mem_cons]
      constructor
      · rintro ((h | h) | h) <;> simp [h]
      · rintro (h | h | h) <;> simp [h]
theorem bef1_mem {acc : List (List Nat)} {l : List Nat} {x : Nat} : x ∈ bef1 acc l ↔ ∃ j ∈ l, x = j ∨ x ∈ acc.getD j [] := by
  induction l with
  | nil => simp [bef1]
  | cons a l ih =>
    simp only [bef1, addN_mem, ih, List.mem_cons, exists_eq_or_imp, List.not_mem_nil, or_false]
theorem befs_prefix : ∀ (l : List Oper) (acc : List (List Nat)) (k : Nat), k < acc.length → (befs l acc).getD k [] = acc.getD k []
  | [], acc, k, _ => rfl
  | o :: l, acc, k, h => by
    simp only [befs]
    rw [befs_prefix l _ k (by simp; omega)]
    simp only [List.getD_eq_getElem?_getD]
    rw [List.getElem?_append_left h]
theorem befs_get : ∀ (l : List Oper) (acc : List (List Nat)) (i : Nat) (o : Oper), l[i]? = some o → ∃ acc', (befs l acc).getD (acc.length + i) [] = bef1 acc' (binding o) ∧ ∀ j, j < acc.length + i → acc'.getD j [] = (befs l acc).getD j []
  | [], acc, i, o, h => by simp at h
  | o' :: l, acc, 0, o, h => by
    simp only [List.getElem?_cons_zero, Option.some.injEq] at h
    subst h
    refine ⟨acc, ?_, fun j hj => ?_⟩
    · simp only [befs, Nat.add_zero]
      rw [befs_prefix l _ acc.length (by simp)]
      simp [List.getD_eq_getElem?_getD]
    · simp only [befs]
      rw [befs_prefix l _ j (by simp; omega)]
      simp only [List.getD_eq_getElem?_getD]
      rw [List.getElem?_append_left (by omega)]
  | o' :: l, acc, i + 1, o, h => by
    simp only [List.getElem?_cons_succ] at h
    obtain ⟨acc', h1, h2⟩ := befs_get l (acc ++ [bef1 acc (binding o')]) i o h
    simp only [List.length_append, List.length_cons, List.length_nil] at h1 h2
    refine ⟨acc', ?_, fun j hj => ?_⟩
    · simp only [befs]
      rw [← h1]
      congr 1
      omega
    · simp only [befs]
      exact h2 j (by omega)

section
variable {ops : Array Oper}
theorem befs_spec {k : Nat} {o : Oper} (ho : ops[k]? = some o) (hlt : ∀ j ∈ binding o, j < k) {x : Nat} :
    x ∈ (befs ops.toList []).getD k [] ↔ ∃ j ∈ binding o, x = j ∨ x ∈ (befs ops.toList []).getD j [] := by
  obtain ⟨acc', h1, h2⟩ := befs_get ops.toList [] k o (by simpa using ho)
  simp only [List.length_nil, Nat.zero_add] at h1 h2
  rw [h1, bef1_mem]
  constructor
  · rintro ⟨j, hj, h⟩
    exact ⟨j, hj, h.imp id fun h => by rw [← h2 j (hlt j hj)]; exact h⟩
  · rintro ⟨j, hj, h⟩
    exact ⟨j, hj, h.imp id fun h => by rw [h2 j (hlt j hj)]; exact h⟩
theorem befs_lt (hlt : ∀ k o, ops[k]? = some o → ∀ j ∈ binding o, j < k) : ∀ k x, k < ops.size → x ∈ (befs ops.toList []).getD k [] → x < k := by
  intro k
  induction k using Nat.strongRecOn with
  | _ k ih =>
    intro x hk hx
    have ho : ops[k]? = some ops[k] := Array.getElem?_eq_getElem hk
    obtain ⟨j, hj, h⟩ := (befs_spec ho (hlt k _ ho)).1 hx
    have hjk := hlt k _ ho j hj
    rcases h with rfl | h
    · exact hjk
    · have := ih j hjk x (by omega) h
      omega
theorem befs_closed (hlt : ∀ k o, ops[k]? = some o → ∀ j ∈ binding o, j < k) {D : Nat → Prop} (hD : ∀ k o, ops[k]? = some o → D k → ∀ j ∈ binding o, D j) : ∀ k x, k < ops.size → D k → x ∈ (befs ops.toList []).getD k [] → D x := by
  intro k
  induction k using Nat.strongRecOn with
  | _ k ih =>
    intro x hk hd hx
    have ho : ops[k]? = some ops[k] := Array.getElem?_eq_getElem hk
    obtain ⟨j, hj, h⟩ := (befs_spec ho (hlt k _ ho)).1 hx
    have hjk := hlt k _ ho j hj
    have hdj := hD k _ ho hd j hj
    rcases h with rfl | h
    · exact hdj
    · exact ih j hjk x (by omega) hdj h
end
end Go.Ab
/- Operations whose order is open: the trace in the text's order. -/
set_option linter.unusedVariables false
set_option linter.unusedSimpArgs false
namespace Go.Ab

def gd (o : KO) (s : AS) : Option Bool :=
  match o.g with
  | none => some true
  | some (j, w) => match getT s.t j with
    | .p (.bool b) => some (b == w)
    | _ => none
def SlotFit (sl : Option Nat) (o : KO) (s : AS) : Prop := (∀ i, sl = some i → allocK o.k = true ∧ nthO s.h i = some .free) ∧ (sl = none → allocK o.k = false)
inductive Good (R : Ro) (o : KO) (s s' : AS) (e : LogE) : Prop
  | exec (sl : Option Nat) (v : TV) (hh : List Ob) (hsl : SlotFit sl o s) (hg : gd o s = some true) (hs : s' = AS.put ⟨s.t, hh⟩ o.d v) (he : e = logE o sl s s') (loc : LocB R sl o.k s (fK sl o.k s hh).1 (fK sl o.k s hh).2 v hh false)
  | skip (sl : Option Nat) (hsl : SlotFit sl o s) (hg : gd o s = some false) (hs : s' = s.put o.d .un) (he : e = logE o sl s s')
inductive Stop (R : Ro) (o : KO) (s : AS) (e : LogE) (v : TV) (hh : List Ob) : Prop
  | mk (sl : Option Nat) (hsl : SlotFit sl o s) (hg : gd o s = some true) (he : e = logE o sl s ⟨s.t, hh⟩) (loc : LocB R sl o.k s (fK sl o.k s hh).1 (fK sl o.k s hh).2 v hh true)

theorem put_h (s : AS) (d : Option Nat) (v : TV) : (s.put d v).h = s.h := by cases d <;> rfl

theorem wpA_cases {R : Ro} {nb : Nat} {sl : Option Nat} {o : KO} {s : AS} {k : AS → Prop} {kp : TV → AS → Prop} (hsl : SlotFit sl o s) (hok : okK s o.k = true) (hg : gd o s = some true) (h : wpA stdI stdB stdE R nb true sl o s k kp) :
    (∃ s', k s' ∧ Good R o s s' (logE o sl s s')) ∨ ∃ v hh, kp v ⟨s.t, hh⟩ ∧ Stop R o s (logE o sl s ⟨s.t, hh⟩) v hh := by
  obtain ⟨d, kk, gg⟩ := o
  obtain ⟨pre, h1, h2⟩ := wpA_wpB h
  simp only [drOk] at h1
  subst h1
  obtain ⟨v, hh, h3⟩ := ext_B hsl.1 hsl.2 hok h2
  rcases h3 with ⟨h3, h4⟩ | ⟨h3, h4⟩
  · exact .inl ⟨_, h3, .exec sl v hh hsl hg rfl rfl h4⟩
  · exact .inr ⟨v, hh, h3, .mk sl hsl hg rfl h4⟩

theorem wpG_cases {R : Ro} {nb : Nat} {sl : Option Nat} {o : KO} {s : AS} {k : AS → Prop} {kp : TV → AS → Prop} (hsl : SlotFit sl o s) (hok : okK s o.k = true) (h : wpG stdI stdB stdE R nb true sl o s k kp) :
    (∃ s', k s' ∧ Good R o s s' (logE o sl s s')) ∨ ∃ v hh, kp v ⟨s.t, hh⟩ ∧ Stop R o s (logE o sl s ⟨s.t, hh⟩) v hh := by
  unfold wpG at h
  split at h
  · rename_i hg
    exact wpA_cases hsl hok (by simp [gd, hg]) h
  · rename_i j want hg
    split at h
    · rename_i b hb
      split at h
      · exact wpA_cases hsl hok (by simp [gd, hg, hb]) h
      · exact wpA_cases hsl hok (by simp [gd, hg, hb]) h
      · exact .inl ⟨_, h, .skip sl hsl (by simp [gd, hg, hb]) rfl rfl⟩
      · exact .inl ⟨_, h, .skip sl hsl (by simp [gd, hg, hb]) rfl rfl⟩
    · exact h.elim

theorem trace {R : Ro} {nb : Nat} {un : List (List Nat)} {n0 : List Nat} {all : List KO} {k : AS → Prop} {kp : TV → AS → Prop} : ∀ (os : List KO) (pns : List Bool) (nx : Nat) (log : List LogE) (s : AS),
    wpOpsD stdI stdB stdE R nb un n0 all os pns nx log s k kp → ∃ (T : Nat → AS) (E : Nat → LogE), T 0 = s ∧
      ((chkL n0 (log ++ (List.range os.length).map E) un = true ∧ k (T os.length) ∧ ∀ i o, os[i]? = some o → Good R o (T i) (T (i + 1)) (E i)) ∨
       ∃ m o v hh, os[m]? = some o ∧ pns[m]? = some true ∧ Stop R o (T m) (E m) v hh ∧ chkL n0 (log ++ (List.range (m + 1)).map E) un = true ∧ kp v ⟨blankD (T m).t all, hh⟩ ∧ ∀ i o, i < m → os[i]? = some o → Good R o (T i) (T (i + 1)) (E i))
  | [], pns, nx, log, s, h => by
    refine ⟨fun _ => s, fun _ => ⟨[], [], [], false⟩, rfl, .inl ?_⟩
    simp only [wpOpsD] at h
    exact ⟨by simpa using h.1, h.2, fun i o hi => by simp at hi⟩
  | o :: os, [], nx, log, s, h => by simp only [wpOpsD] at h
  | o :: os, pn :: pns, nx, log, s, h => by
    simp only [wpOpsD] at h
    obtain ⟨hok, hfr, h⟩ := h
    have hsl : SlotFit (slOf o.k nx) o s := by
      unfold slOf
      cases e : allocK o.k with
      | true =>
        simp only [e] at hfr
        refine ⟨fun i hi => ?_, fun hi => by cases hi⟩
        cases hi
        refine ⟨e, ?_⟩
        cases e2 : nthO s.h nx with
        | none => rw [e2] at hfr; simp [freeO] at hfr
        | some ob => rw [e2] at hfr; cases ob <;> simp [freeO] at hfr; rfl
      | false => exact ⟨fun i hi => (by cases hi), fun _ => e⟩
    generalize slOf o.k nx = sl at h hsl
    rcases wpG_cases hsl hok h with ⟨s', h1, h2⟩ | ⟨v, hh, h1, h2⟩
    · obtain ⟨T, E, h3, h4⟩ := trace os pns _ _ s' h1
      refine ⟨fun i => match i with | 0 => s | i + 1 => T i, fun i => match i with | 0 => logE o sl s s' | i + 1 => E i, rfl, ?_⟩
      have hlog : ∀ n, log ++ (List.range (n + 1)).map (fun i => match i with | 0 => logE o sl s s' | i + 1 => E i) = (log ++ [logE o sl s s']) ++ (List.range n).map E := by
        intro n
        rw [List.range_succ_eq_map, List.map_cons, List.map_map, List.append_assoc]
        rfl
      rcases h4 with ⟨h5, h6, h7⟩ | ⟨m, o1, v, hh, h5, h6, h7, h8, h9, h10⟩
      · left
        refine ⟨?_, h6, fun i o1 hi => ?_⟩
        · rw [List.length_cons, hlog]; exact h5
        · cases i with
          | zero =>
            simp only [List.getElem?_cons_zero, Option.some.injEq] at hi
            subst hi
            show Good R o s (T 0) _
            rw [h3]; exact h2
          | succ i => exact h7 i o1 (by simpa using hi)
      · right
        refine ⟨m + 1, o1, v, hh, by simpa using h5, by simpa using h6, h7, ?_, h9, fun i o2 him hi => ?_⟩
        · rw [hlog]; exact h8
        · cases i with
          | zero =>
            simp only [List.getElem?_cons_zero, Option.some.injEq] at hi
            subst hi
            show Good R o s (T 0) _
            rw [h3]; exact h2
          | succ i => exact h10 i o2 (by omega) (by simpa using hi)
    · cases pn with
      | false => exact h1.elim
      | true =>
        obtain ⟨h3, h4⟩ := h1
        refine ⟨fun _ => s, fun _ => logE o sl s ⟨s.t, hh⟩, rfl, .inr ⟨0, o, v, hh, rfl, rfl, h2, ?_, h4, fun i o1 hi => by omega⟩⟩
        simpa using h3

/-! ### what the log tells -/
theorem fpK_sub (s : AS) (kk : K) : ∀ m ∈ (fpK s kk).2, m ∈ (fpK s kk).1 := by
  intro m hm
  cases kk <;> simp only [fpK] at hm ⊢ <;> (try exact hm) <;> (split at hm <;> (try split at hm) <;> simp_all)
theorem logE_sub (o : KO) (sl : Option Nat) (s s' : AS) : ∀ m ∈ (logE o sl s s').w, m ∈ (logE o sl s s').f := by
  intro m hm
  cases sl with
  | some i =>
    simp only [logE, List.mem_cons] at hm ⊢
    exact hm.imp id (fpK_sub s o.k m)
  | none =>
    simp only [logE, List.mem_append] at hm ⊢
    exact hm.imp (fpK_sub s o.k m) id
theorem alloc_cls {kk : K} (h : allocK kk = true) : clsK kk = 2 := by cases kk <;> first | rfl | simp [allocK] at h
theorem logE_cls {o : KO} {sl : Option Nat} {s s' : AS} (hsl : SlotFit sl o s) (hh : clsK o.k < 2 → s'.h = s.h) : (clsK o.k = 0 → (logE o sl s s').f = [] ∧ (logE o sl s s').w = []) ∧ (clsK o.k < 2 → (logE o sl s s').w = []) := by
  have hn : clsK o.k < 2 → sl = none := by
    intro h
    cases sl with
    | none => rfl
    | some i =>
      have := alloc_cls (hsl.1 i rfl).1
      omega
  have h0 : clsK o.k = 0 → fpK s o.k = ([], []) := by
    intro h
    cases hk : o.k <;> rw [hk] at h <;> first | rfl | simp [clsK] at h
  have h1 : clsK o.k < 2 → (fpK s o.k).2 = [] := by
    intro h
    cases hk : o.k <;> rw [hk] at h <;> first | rfl | (simp only [fpK]; split <;> rfl) | simp [clsK] at h
  refine ⟨fun h => ?_, fun h => ?_⟩
  · have hs := hn (by omega)
    subst hs
    simp only [logE, h0 h, hh (by omega), Nat.sub_self, rng, List.append_nil, and_self]
  · have hs := hn h
    subst hs
    simp only [logE, h1 h, hh h, Nat.sub_self, rng, List.append_nil]
theorem Good.w_sub {R : Ro} {o : KO} {s s' : AS} {e : LogE} (g : Good R o s s' e) : ∀ m ∈ e.w, m ∈ e.f := by
  cases g with
  | exec sl v hh hsl hg hs he loc => rw [he]; exact logE_sub _ _ _ _
  | skip sl hsl hg hs he => rw [he]; exact logE_sub _ _ _ _
theorem Good.cls {R : Ro} {o : KO} {s s' : AS} {e : LogE} (g : Good R o s s' e) : (clsK o.k = 0 → e.f = [] ∧ e.w = []) ∧ (clsK o.k < 2 → e.w = []) := by
  cases g with
  | exec sl v hh hsl hg hs he loc =>
    rw [he]
    exact logE_cls hsl fun h => by rw [hs, put_h]; exact loc.same h
  | skip sl hsl hg hs he =>
    rw [he]
    exact logE_cls hsl fun h => by rw [hs, put_h]
theorem Stop.cls {R : Ro} {o : KO} {s : AS} {e : LogE} {v : TV} {hh : List Ob} (g : Stop R o s e v hh) : (clsK o.k = 0 → e.f = [] ∧ e.w = []) ∧ (clsK o.k < 2 → e.w = []) := by
  cases g with
  | mk sl hsl hg he loc =>
    rw [he]
    exact logE_cls hsl fun h => loc.same h
theorem logE_fK {o : KO} {sl : Option Nat} {s s' : AS} {hh : List Ob} (h : s'.h = hh) : (logE o sl s s').f = (fK sl o.k s hh).1 ∧ (logE o sl s s').w = (fK sl o.k s hh).2 := by
  subst h
  cases sl <;> exact ⟨rfl, rfl⟩
theorem logE_c {o : KO} {sl : Option Nat} {s s' : AS} : (logE o sl s s').c = isCall o.k := by cases sl <;> rfl
theorem logE_n {o : KO} {sl : Option Nat} {s s' : AS} : (logE o sl s s').n = nrD o.d s' := by cases sl <;> rfl

theorem chk1_spec {e : LogE} {log : List LogE} : ∀ {l : List Nat}, chk1 e log l = true → ∀ j ∈ l, ∃ e', log[j]? = some e' ∧ (∀ x ∈ e.w, x ∉ e'.f) ∧ ∀ x ∈ e'.w, x ∉ e.f
  | [], _, j, hj => by simp at hj
  | a :: l, h, j, hj => by
    simp only [chk1] at h
    split at h
    · rename_i e' he
      split at h
      · rename_i h1 h2
        rcases List.mem_cons.1 hj with rfl | hj
        · exact ⟨e', by rw [← nthO_eq]; exact he, disj_eq.1 h1, disj_eq.1 h2⟩
        · exact chk1_spec h j hj
      · cases h
    · cases h
theorem chkU_spec {log : List LogE} : ∀ {l : List LogE} {un : List (List Nat)}, chkU log l un = true → ∀ i e, l[i]? = some e → ∀ j ∈ un.getD i [], ∃ e', log[j]? = some e' ∧ (∀ x ∈ e.w, x ∉ e'.f) ∧ ∀ x ∈ e'.w, x ∉ e.f
  | [], un, _, i, e, hi, j, hj => by simp at hi
  | a :: l, [], h, i, e, hi, j, hj => by simp [chkU] at h
  | a :: l, u :: un, h, i, e, hi, j, hj => by
    simp only [chkU] at h
    split at h
    · rename_i h1
      cases i with
      | zero =>
        simp only [List.getElem?_cons_zero, Option.some.injEq] at hi
        subst hi
        exact chk1_spec h1 j (by simpa using hj)
      | succ i => exact chkU_spec h i e (by simpa using hi) j (by simpa only [List.getD_cons_succ] using hj)
    · cases h
theorem chkN_spec {N : List Nat} : ∀ {l : List LogE}, chkN N l = true → ∀ e ∈ l, e.c = true → ∀ r, r + 1 ∈ e.w → r ∉ N
  | [], _, e, he, _, _, _ => by simp at he
  | a :: l, h, e, he, hc, r, hr => by
    simp only [chkN] at h
    split at h
    · rename_i hac
      split at h
      · rename_i hd
        rcases List.mem_cons.1 he with rfl | he
        · exact fun hN => disj_eq.1 hd _ hr (mem_sucs.2 hN)
        · exact chkN_spec h e he hc r hr
      · cases h
    · rename_i hac
      rcases List.mem_cons.1 he with rfl | he
      · rw [hac] at hc; cases hc
      · exact chkN_spec h e he hc r hr
theorem allN_mem {l : List LogE} {e : LogE} (he : e ∈ l) : ∀ r ∈ e.n, r ∈ allN l := by
  induction l with
  | nil => simp at he
  | cons a l ih =>
    intro r hr
    simp only [allN, List.mem_append]
    rcases List.mem_cons.1 he with rfl | he
    · exact .inl hr
    · exact .inr (ih he r hr)
theorem chkL_spec {n0 : List Nat} {log : List LogE} {un : List (List Nat)} (h : chkL n0 log un = true) : chkU log log un = true ∧ chkN (n0 ++ allN log) log = true := by
  unfold chkL at h
  split at h
  · rename_i h1; exact ⟨h1, h⟩
  · cases h

/-! ### places of temporaries -/
def getP (t : List (List TV)) (a b : Nat) : TV := (t.getD a []).getD b .un
theorem getT_getP (t : List (List TV)) (i : Nat) : getT t i = getP t (i / 16) (i % 16) := rfl
def SameSh (t t' : List (List TV)) : Prop := ∀ a, (t.getD a []).length = (t'.getD a []).length
theorem getP_setT (t : List (List TV)) (d a b : Nat) (v : TV) : getP (setT t d v) a b = if d / 16 = a ∧ d % 16 = b ∧ b < (t.getD a []).length then v else getP t a b := setT2_getD t _ _ a b v
theorem setT2_len (t : List (List TV)) (i j a : Nat) (v : TV) : ((setT2 t i j v).getD a []).length = (t.getD a []).length := by
  induction t generalizing i a with
  | nil => simp [setT2]
  | cons r t ih =>
    cases i with
    | zero =>
      cases a with
      | zero => simp only [setT2, List.getD_cons_zero, setRow_length]
      | succ a => simp only [setT2, List.getD_cons_succ]
    | succ i =>
      cases a with
      | zero => simp only [setT2, List.getD_cons_zero]
      | succ a => simp only [setT2, List.getD_cons_succ]; exact ih i a
theorem setT_sh (t : List (List TV)) (d : Nat) (v : TV) : SameSh (setT t d v) t := fun a => setT2_len t _ _ a v
theorem put_sh (s : AS) (d : Option Nat) (v : TV) : SameSh (s.put d v).t s.t := by
  cases d with
  | none => exact fun _ => rfl
  | some d => exact setT_sh s.t d v
theorem SameSh.trans {a b c : List (List TV)} (h1 : SameSh a b) (h2 : SameSh b c) : SameSh a c := fun i => (h1 i).trans (h2 i)
theorem SameSh.symm {a b : List (List TV)} (h : SameSh a b) : SameSh b a := fun i => (h i).symm

inductive Vv where
  | t (v : TV)
  | h (x : Option Ob × Nat)
def valA (s : AS) : (Nat × Nat) ⊕ Nat → Vv
  | .inl p => .t (getP s.t p.1 p.2)
  | .inr m => .h (hval s.h m)
def dstAt (o : KO) (p : Nat × Nat) : Prop := ∃ d, o.d = some d ∧ d / 16 = p.1 ∧ d % 16 = p.2
def lookAt (o : KO) (p : Nat × Nat) : Prop := ∃ d, d ∈ looksK o ∧ d / 16 = p.1 ∧ d % 16 = p.2

theorem put_same {s : AS} {d : Option Nat} {v : TV} {o : KO} (hd : o.d = d) {p : Nat × Nat} (h : ¬ dstAt o p) : getP (s.put d v).t p.1 p.2 = getP s.t p.1 p.2 := by
  cases d with
  | none => rfl
  | some d =>
    show getP (setT s.t d v) p.1 p.2 = _
    rw [getP_setT, if_neg]
    rintro ⟨h1, h2, _⟩
    exact h ⟨d, hd, h1, h2⟩
theorem put_both {s c : AS} {d : Option Nat} {v : TV} {o : KO} (hd : o.d = d) {p : Nat × Nat} (h : dstAt o p) (hsh : SameSh c.t s.t) (he : getP c.t p.1 p.2 = getP s.t p.1 p.2) : getP (c.put d v).t p.1 p.2 = getP (s.put d v).t p.1 p.2 := by
  obtain ⟨d', h1, h2, h3⟩ := h
  rw [hd] at h1
  subst h1
  show getP (setT c.t d' v) p.1 p.2 = getP (setT s.t d' v) p.1 p.2
  rw [getP_setT, getP_setT, hsh p.1, he]
end Go.Ab
/- Operations whose order is open are sound. -/
set_option linter.unusedVariables false
set_option linter.unusedSimpArgs false
namespace Go.Ab

abbrev bsOf (ops : Array Oper) (k : Nat) : List Nat := (befs ops.toList []).getD k []

structure Su (R : Ro) (ops : Array Oper) (kos : List KO) (T : Nat → AS) (E : Nat → LogE) (m M : Nat) (N : List Nat) : Prop where
  len : kos.length = ops.size
  mle : m ≤ ops.size
  mM : M = m ∧ m = ops.size ∨ M = m + 1 ∧ m < ops.size
  lt : ∀ k o, ops[k]? = some o → ∀ j ∈ binding o, j < k
  tm : ∀ k i x y, k < ops.size → i < k → i ∉ bsOf ops k → kos[k]? = some x → kos[i]? = some y → apartT x y = true
  good : ∀ i o, i < m → kos[i]? = some o → Good R o (T i) (T (i + 1)) (E i)
  stop : m < ops.size → ∀ o, kos[m]? = some o → ∃ v hh, Stop R o (T m) (E m) v hh
  log : ∀ k i x y, k < M → i < k → i ∉ bsOf ops k → kos[k]? = some x → kos[i]? = some y → clsC (clsK y.k) (clsK x.k) = true → (∀ c ∈ (E k).w, c ∉ (E i).f) ∧ ∀ c ∈ (E i).w, c ∉ (E k).f
  nn : ∀ i o, i < M → kos[i]? = some o → isCall o.k = true → ∀ r, r + 1 ∈ (E i).w → r ∉ N
  nb0 : (∀ a b, ∀ r ∈ nestV (getP (T 0).t a b), r ∈ N) ∧ ∀ r ∈ nestH (T 0).h, r ∈ N
  nbE : ∀ i, i < M → ∀ r ∈ (E i).n, r ∈ N
  pn : m < ops.size → ∀ i o, i < ops.size → i ≠ m → kos[i]? = some o → i ∈ bsOf ops m ∨ m ∈ bsOf ops i ∨ (i < m ∧ clsK o.k < 2) ∨ (m < i ∧ mvO o = true)

def mvV (o : KO) (s : AS) : TV := match o.k with | .mv x => s.ev x | _ => .un
def mvS (o : Option KO) (s : AS) : AS :=
  match o with
  | some o => if mvO o = true then s.put o.d (mvV o s) else s
  | none => s
def extS (kos : List KO) (T : Nat → AS) (m : Nat) : Nat → AS
  | 0 => T 0
  | i + 1 => if i < m then T (i + 1) else if i = m then extS kos T m i else mvS kos[i]? (extS kos T m i)
theorem extS_le {kos : List KO} {T : Nat → AS} {m i : Nat} (h : i ≤ m) : extS kos T m i = T i := by
  cases i with
  | zero => rfl
  | succ i => simp only [extS]; rw [if_pos (by omega)]
def Wr (kos : List KO) (E : Nat → LogE) (m i : Nat) : (Nat × Nat) ⊕ Nat → Prop
  | .inl p => ∃ o, kos[i]? = some o ∧ (i < m ∨ m < i ∧ mvO o = true) ∧ dstAt o p
  | .inr c => i < m ∧ c ∈ (E i).w
def Fr (kos : List KO) (E : Nat → LogE) (m i : Nat) : (Nat × Nat) ⊕ Nat → Prop
  | .inl p => ∃ o, kos[i]? = some o ∧ (dstAt o p ∨ lookAt o p)
  | .inr c => i ≤ m ∧ c ∈ (E i).f

theorem at_inj {a b : Nat} {p : Nat × Nat} (h1 : a / 16 = p.1) (h2 : a % 16 = p.2) (h3 : b / 16 = p.1) (h4 : b % 16 = p.2) : a = b := by omega
theorem mvO_spec {o : KO} (h : mvO o = true) : o.g = none ∧ ((∃ i, o.k = .mv (.t i)) ∨ ∃ c, o.k = .mv (.c (.p c))) := by
  unfold mvO at h
  split at h
  · exact ⟨rfl, .inl ⟨_, rfl⟩⟩
  · exact ⟨rfl, .inr ⟨_, rfl⟩⟩
  · cases h
theorem clsC_false {a b : Nat} (h : ¬ clsC a b = true) : a = 0 ∨ b = 0 ∨ (a = 1 ∧ b = 1) := by
  unfold clsC at h
  split at h
  · exact .inl rfl
  · exact .inr (.inl rfl)
  · exact .inr (.inr ⟨rfl, rfl⟩)
  · exact absurd rfl h

section
variable {R : Ro} {ops : Array Oper} {kos : List KO} {T : Nat → AS} {E : Nat → LogE} {m M : Nat} {N : List Nat}

theorem Su.get (su : Su R ops kos T E m M N) {i : Nat} (h : i < ops.size) : ∃ o, kos[i]? = some o := ⟨_, List.getElem?_eq_getElem (by rw [su.len]; exact h)⟩
theorem Su.lenle (su : Su R ops kos T E m M N) {i : Nat} {o : KO} (h : kos[i]? = some o) : i < ops.size := by
  have := (List.getElem?_eq_some_iff.1 h).1
  rw [su.len] at this
  exact this
theorem Su.cls (su : Su R ops kos T E m M N) {i : Nat} (hi : i < ops.size) (h : i ≤ m) {o : KO} (ho : kos[i]? = some o) : (clsK o.k = 0 → (E i).f = [] ∧ (E i).w = []) ∧ (clsK o.k < 2 → (E i).w = []) := by
  by_cases e : i < m
  · exact (su.good i o e ho).cls
  · have e : i = m := by omega
    subst e
    obtain ⟨v, hh, hst⟩ := su.stop hi o ho
    exact hst.cls

theorem Su.tr (su : Su R ops kos T E m M N) : Tr valA ops.size (extS kos T m) (Wr kos E m) (Fr kos E m) (fun j k => k < ops.size ∧ j ∈ bsOf ops k) := by
  refine ⟨fun j k ⟨h1, h2⟩ => befs_lt su.lt k j h1 h2, fun i ℓ h => ?_, fun i ℓ hi h => ?_, fun i k ℓ hik hk hb => ?_⟩
  · cases ℓ with
    | inl p => obtain ⟨o, h1, h2, h3⟩ := h; exact ⟨o, h1, .inl h3⟩
    | inr c =>
      obtain ⟨h1, h2⟩ := h
      obtain ⟨o, ho⟩ := su.get (i := i) (by have := su.mle; omega)
      exact ⟨by omega, (su.good i o h1 ho).w_sub c h2⟩
  · obtain ⟨o, ho⟩ := su.get hi
    simp only [extS]
    by_cases e : i < m
    · rw [if_pos e, extS_le (by omega)]
      have hg := su.good i o e ho
      cases ℓ with
      | inl p =>
        have hnd : ¬ dstAt o p := fun hd => h ⟨o, ho, .inl e, hd⟩
        cases hg with
        | exec sl v hh hsl hgd hs he loc =>
          simp only [valA, hs, put_same (o := o) rfl hnd]
        | skip sl hsl hgd hs he => simp only [valA, hs, put_same (o := o) rfl hnd]
      | inr c =>
        have hnc : c ∉ (E i).w := fun hc => h ⟨e, hc⟩
        cases hg with
        | exec sl v hh hsl hgd hs he loc =>
          have h2 : (T (i + 1)).h = hh := by rw [hs, put_h]
          rw [he, (logE_fK h2).2] at hnc
          simp only [valA, h2, loc.keep c hnc]
        | skip sl hsl hgd hs he => simp only [valA, hs, put_h]
    · rw [if_neg e]
      by_cases e2 : i = m
      · rw [if_pos e2]
      · rw [if_neg e2, ho]
        simp only [mvS]
        split
        · rename_i hmv
          cases ℓ with
          | inl p =>
            have hnd : ¬ dstAt o p := fun hd => h ⟨o, ho, .inr ⟨by omega, hmv⟩, hd⟩
            simp only [valA, put_same (o := o) rfl hnd]
          | inr c => simp only [valA, put_h]
        · rfl
  · have hb : i ∉ bsOf ops k := fun h => hb ⟨hk, h⟩
    obtain ⟨x, hx⟩ := su.get hk
    obtain ⟨y, hy⟩ := su.get (i := i) (by omega)
    cases ℓ with
    | inl p =>
      have ha := su.tm k i x y hk hik hb hx hy
      unfold apartT at ha
      simp only [Bool.and_eq_true, disj_eq] at ha
      obtain ⟨a1, a2⟩ := ha
      have key : dstAt y p → dstAt x p ∨ lookAt x p → False := by
        rintro ⟨d, d1, d2, d3⟩ (⟨d', e1, e2, e3⟩ | ⟨d', e1, e2, e3⟩)
        · have := at_inj d2 d3 e2 e3
          subst this
          exact a1 d (by simp [dstL, e1]) (List.mem_append.2 (.inl (by simp [dstL, d1])))
        · have := at_inj d2 d3 e2 e3
          subst this
          exact a2 d (by simp [dstL, d1]) e1
      have key2 : dstAt x p → dstAt y p ∨ lookAt y p → False := by
        rintro ⟨d, d1, d2, d3⟩ (⟨d', e1, e2, e3⟩ | ⟨d', e1, e2, e3⟩)
        · have := at_inj d2 d3 e2 e3
          subst this
          exact a1 d (by simp [dstL, d1]) (List.mem_append.2 (.inl (by simp [dstL, e1])))
        · have := at_inj d2 d3 e2 e3
          subst this
          exact a1 d (by simp [dstL, d1]) (List.mem_append.2 (.inr e1))
      refine ⟨?_, ?_⟩
      · rintro ⟨⟨o, h1, _, h2⟩, o', h3, h4⟩
        rw [hy] at h1; cases h1
        rw [hx] at h3; cases h3
        exact key h2 h4
      · rintro ⟨⟨o, h1, _, h2⟩, o', h3, h4⟩
        rw [hx] at h1; cases h1
        rw [hy] at h3; cases h3
        exact key2 h2 h4
    | inr c =>
      have hcl : k ≤ m → (c ∈ (E i).w → c ∈ (E k).f → False) ∧ (c ∈ (E k).w → c ∈ (E i).f → False) := by
        intro hkm
        have hkM : k < M := by have := su.mM; omega
        have c1 := su.cls (by omega) (by omega) hy
        have c2 := su.cls hk hkm hx
        by_cases hcc : clsC (clsK y.k) (clsK x.k) = true
        · obtain ⟨l1, l2⟩ := su.log k i x y hkM hik hb hx hy hcc
          exact ⟨fun h1 h2 => l2 c h1 h2, fun h1 h2 => l1 c h1 h2⟩
        · rcases clsC_false hcc with h | h | ⟨h, h'⟩
          · obtain ⟨p1, p2⟩ := c1.1 h
            exact ⟨fun h1 _ => (by rw [p2] at h1; simp at h1), fun _ h2 => (by rw [p1] at h2; simp at h2)⟩
          · obtain ⟨p1, p2⟩ := c2.1 h
            exact ⟨fun _ h2 => (by rw [p1] at h2; simp at h2), fun h1 _ => (by rw [p2] at h1; simp at h1)⟩
          · have p1 := c1.2 (by omega)
            have p2 := c2.2 (by omega)
            exact ⟨fun h1 _ => (by rw [p1] at h1; simp at h1), fun h1 _ => (by rw [p2] at h1; simp at h1)⟩
      refine ⟨?_, ?_⟩
      · rintro ⟨⟨h1, h2⟩, h3, h4⟩
        exact (hcl h3).1 h2 h4
      · rintro ⟨⟨h1, h2⟩, h3, h4⟩
        exact (hcl (by omega)).2 h2 h4

/-! ### nested references -/
def nbV (N : List Nat) : Vv → Prop
  | .t v => ∀ r ∈ nestV v, r ∈ N
  | .h (some o, _) => ∀ r ∈ nestH [o], r ∈ N
  | .h (none, _) => True
theorem nestH_one {h : List Ob} {q : Nat} {o : Ob} (e : nthO h q = some o) : ∀ r ∈ nestH [o], r ∈ nestH h := by
  induction h generalizing q with
  | nil => simp [nthO] at e
  | cons a l ih =>
    intro r hr
    cases q with
    | zero =>
      simp only [nthO, Option.some.injEq] at e
      subst e
      cases a <;> simp [nestH] at hr ⊢ <;> exact .inl hr
    | succ q =>
      have := ih e r hr
      cases a <;> simp only [nestH, List.mem_append] <;> first | exact .inr this | exact this
theorem nestH_ex {h : List Ob} {r : Nat} (hr : r ∈ nestH h) : ∃ q o, nthO h q = some o ∧ r ∈ nestH [o] := by
  induction h with
  | nil => simp [nestH] at hr
  | cons a l ih =>
    have : r ∈ nestH [a] ∨ r ∈ nestH l := by
      cases a <;> simp [nestH] at hr ⊢ <;> exact hr
    rcases this with h | h
    · exact ⟨0, a, rfl, h⟩
    · obtain ⟨q, o, h1, h2⟩ := ih h
      exact ⟨q + 1, o, h1, h2⟩
theorem nestLL_ex {t : List (List TV)} {r : Nat} (hr : r ∈ nestLL t) : ∃ a b, r ∈ nestV (getP t a b) := by
  have hL : ∀ (l : List TV), r ∈ nestL l → ∃ b, r ∈ nestV (l.getD b .un) := by
    intro l
    induction l with
    | nil => intro h; simp [nestL] at h
    | cons v l ih =>
      intro h
      simp only [nestL, List.mem_append] at h
      rcases h with h | h
      · exact ⟨0, by simpa using h⟩
      · obtain ⟨b, hb⟩ := ih h
        exact ⟨b + 1, by simpa only [List.getD_cons_succ] using hb⟩
  induction t with
  | nil => simp [nestLL] at hr
  | cons v t ih =>
    simp only [nestLL, List.mem_append] at hr
    rcases hr with h | h
    · obtain ⟨b, hb⟩ := hL v h
      exact ⟨0, b, by simpa [getP] using hb⟩
    · obtain ⟨a, b, hb⟩ := ih h
      exact ⟨a + 1, b, by simpa only [getP, List.getD_cons_succ] using hb⟩
theorem nr_of {c : AS} (h : ∀ ℓ, nbV N (valA c ℓ)) : ∀ r ∈ c.nr, r ∈ N := by
  intro r hr
  rcases List.mem_append.1 hr with hr | hr
  · obtain ⟨a, b, h1⟩ := nestLL_ex hr
    exact h (.inl (a, b)) r h1
  · obtain ⟨q, o, h1, h2⟩ := nestH_ex hr
    have := h (.inr (q + 1))
    simp only [valA, hval, h1, nbV] at this
    exact this r h2
theorem nb_of {c : AS} (h1 : ∀ a b, ∀ r ∈ nestV (getP c.t a b), r ∈ N) (h2 : ∀ r ∈ nestH c.h, r ∈ N) : ∀ ℓ, nbV N (valA c ℓ) := by
  intro ℓ
  cases ℓ with
  | inl p => exact h1 p.1 p.2
  | inr q =>
    cases q with
    | zero => simp [valA, hval, nbV]
    | succ q =>
      simp only [valA, hval]
      cases e : nthO c.h q with
      | none => simp [nbV]
      | some o => exact fun r hr => h2 r (nestH_one e r hr)
theorem nb_put {s : AS} {d : Option Nat} {v : TV} {o : KO} (hd : o.d = d) (h : ∀ ℓ, nbV N (valA s ℓ)) (hv : ∀ r ∈ nestV v, r ∈ N) : ∀ ℓ, nbV N (valA (s.put d v) ℓ) := by
  intro ℓ
  cases ℓ with
  | inl p =>
    cases d with
    | none => exact h (.inl p)
    | some d =>
      show ∀ r ∈ nestV (getP (setT s.t d v) p.1 p.2), r ∈ N
      rw [getP_setT]
      split
      · exact hv
      · exact h (.inl p)
  | inr q =>
    show nbV N (.h (hval (s.put d v).h q))
    rw [put_h]
    exact h (.inr q)

theorem Su.nb (su : Su R ops kos T E m M N) : ∀ i, i ≤ ops.size → ∀ ℓ, nbV N (valA (extS kos T m i) ℓ) := by
  intro i
  induction i with
  | zero => intro _; exact nb_of su.nb0.1 su.nb0.2
  | succ i ih =>
    intro hi
    have ih := ih (by omega)
    obtain ⟨o, ho⟩ := su.get (i := i) (by omega)
    simp only [extS]
    by_cases e : i < m
    · rw [if_pos e]
      rw [extS_le (by omega)] at ih
      have hg := su.good i o e ho
      have hn := su.nbE i (by have := su.mM; omega)
      have key : ∀ sl, E i = logE o sl (T i) (T (i + 1)) → (∀ r ∈ nestH (T (i + 1)).h, r ∈ N) ∧ ∀ d, o.d = some d → ∀ r ∈ nestV (getT (T (i + 1)).t d), r ∈ N := by
        intro sl he
        rw [he, logE_n] at hn
        cases hd : o.d with
        | none => rw [hd] at hn; exact ⟨hn, fun d h => by cases h⟩
        | some d =>
          rw [hd] at hn
          refine ⟨fun r hr => hn r (List.mem_append.2 (.inr hr)), fun d' h => ?_⟩
          cases h
          exact fun r hr => hn r (List.mem_append.2 (.inl hr))
      obtain ⟨sl, v, s1, hs, he, ht⟩ : ∃ sl v s1, T (i + 1) = AS.put s1 o.d v ∧ E i = logE o sl (T i) (T (i + 1)) ∧ s1.t = (T i).t := by
        cases hg with
        | exec sl v hh hsl hgd hs he loc => exact ⟨sl, v, ⟨(T i).t, hh⟩, hs, he, rfl⟩
        | skip sl hsl hgd hs he => exact ⟨sl, .un, T i, hs, he, rfl⟩
      obtain ⟨k1, k2⟩ := key sl he
      refine nb_of (fun a b r hr => ?_) k1
      by_cases hd : dstAt o (a, b)
      · obtain ⟨d, d1, d2, d3⟩ := hd
        simp only at d2 d3
        subst d2 d3
        exact k2 d d1 r hr
      · rw [hs] at hr
        have := put_same (s := s1) (v := v) (o := o) rfl hd
        simp only at this
        rw [this, ht] at hr
        exact ih (.inl (a, b)) r hr
    · rw [if_neg e]
      by_cases e2 : i = m
      · rw [if_pos e2]; exact ih
      · rw [if_neg e2, ho]
        simp only [mvS]
        split
        · rename_i hmv
          refine nb_put (o := o) rfl ih ?_
          obtain ⟨_, ⟨j, hk⟩ | ⟨c, hk⟩⟩ := mvO_spec hmv
          · unfold mvV
            rw [hk]
            exact ih (.inl (j / 16, j % 16))
          · unfold mvV
            rw [hk]
            intro r hr
            simp [AS.ev, nestV] at hr
        · exact ih
end

/-! ### one operation -/
theorem wpB_wpA {R : Ro} {nb : Nat} {sl : Option Nat} {d : Option Nat} {kk : K} {gg : Option (Nat × Bool)} {s : AS} {k : AS → Prop} {kp : TV → AS → Prop} (h : wpB R sl kk s (fun v s' => k (s'.put d v)) kp) :
    wpA stdI stdB stdE R nb true sl ⟨d, kk, gg⟩ s k kp := by
  cases kk with
  | call f xs => exact ⟨[], rfl, h⟩
  | calld x xs =>
    refine ⟨[], rfl, ?_⟩
    simp only [wpB] at h
    simp only [AS.pres, wpCd]
    split at h
    · rename_i e; rw [e]; exact h
    · rename_i e; rw [e]; exact h
    · exact h.elim
  | app w b x y => exact ⟨[], rfl, h⟩
  | _ => exact h
theorem wpG_true {R : Ro} {nb : Nat} {sl : Option Nat} {o : KO} {s : AS} {k : AS → Prop} {kp : TV → AS → Prop} (hg : gd o s = some true) (h : wpA stdI stdB stdE R nb true sl o s k kp) : wpG stdI stdB stdE R nb true sl o s k kp := by
  unfold wpG
  unfold gd at hg
  split
  · exact h
  · rename_i j want e
    rw [e] at hg
    simp only at hg
    split at hg
    · rename_i b hb
      simp only [hb]
      cases b <;> cases want <;> simp at hg <;> exact h
    · cases hg
theorem wpG_false {R : Ro} {nb : Nat} {sl : Option Nat} {o : KO} {s : AS} {k : AS → Prop} {kp : TV → AS → Prop} (hg : gd o s = some false) (h : k (s.put o.d .un)) : wpG stdI stdB stdE R nb true sl o s k kp := by
  unfold wpG
  unfold gd at hg
  split
  · rename_i e
    rw [e] at hg
    cases hg
  · rename_i j want e
    rw [e] at hg
    simp only at hg
    split at hg
    · rename_i b hb
      simp only [hb]
      cases b <;> cases want <;> simp at hg <;> exact h
    · cases hg

theorem tmpsX_mem {l : List X} {i : Nat} (h : X.t i ∈ l) : i ∈ tmpsX l := by
  induction l with
  | nil => simp at h
  | cons a l ih =>
    rcases List.mem_cons.1 h with rfl | h2
    · simp [tmpsX]
    · cases a <;> simp [tmpsX, ih h2]
theorem looks_op {o : KO} {i : Nat} (h : X.t i ∈ opsX o.k) : i ∈ looksK o := by
  unfold looksK
  split
  · exact List.mem_cons_of_mem _ (tmpsX_mem h)
  · exact tmpsX_mem h

section
variable {R : Ro} {ops : Array Oper} {kos : List KO} {T : Nat → AS} {E : Nat → LogE} {m M : Nat} {N : List Nat}

/-- The operands and the guard read as on the trace. -/
theorem agree_ops {c s : AS} {o : KO} (h : ∀ p, lookAt o p → getP c.t p.1 p.2 = getP s.t p.1 p.2) : (∀ x ∈ opsX o.k, c.ev x = s.ev x) ∧ gd o c = gd o s := by
  have hT : ∀ i, i ∈ looksK o → getT c.t i = getT s.t i := fun i hi => h (i / 16, i % 16) ⟨i, hi, rfl, rfl⟩
  refine ⟨fun x hx => ?_, ?_⟩
  · cases x with
    | t i => exact hT i (looks_op hx)
    | c v => rfl
  · unfold gd
    cases hg : o.g with
    | none => rfl
    | some q =>
      obtain ⟨j, want⟩ := q
      have : j ∈ looksK o := by simp [looksK, hg]
      simp only [hT j this]

theorem Su.norm (su : Su R ops kos T E m M N) {k : Nat} (hk : k < m) {o : KO} (ho : kos[k]? = some o) {c : AS} (hF : ∀ ℓ, Fr kos E m k ℓ → valA c ℓ = valA (T k) ℓ) (hsh : SameSh c.t (T k).t) (hnr : ∀ r ∈ c.nr, r ∈ N) {nb : Nat} :
    ∃ sl, SlotOk sl c.h ∧ ∀ (K : AS → Prop) (kp : TV → AS → Prop), (∀ c', (∀ ℓ, Wr kos E m k ℓ → valA c' ℓ = valA (T (k + 1)) ℓ) → (∀ ℓ, ¬ Wr kos E m k ℓ → valA c' ℓ = valA c ℓ) → SameSh c'.t c.t → K c') → wpG stdI stdB stdE R nb true sl o c K kp := by
  have hl : ∀ p, lookAt o p → getP c.t p.1 p.2 = getP (T k).t p.1 p.2 := fun p hp => by have := hF (.inl p) ⟨o, ho, .inr hp⟩; simpa [valA] using this
  have hd : ∀ p, dstAt o p → getP c.t p.1 p.2 = getP (T k).t p.1 p.2 := fun p hp => by have := hF (.inl p) ⟨o, ho, .inl hp⟩; simpa [valA] using this
  have hh0 : ∀ q ∈ (E k).f, hval c.h q = hval (T k).h q := fun q hq => by have := hF (.inr q) ⟨by omega, hq⟩; simpa [valA] using this
  obtain ⟨hops, hgd⟩ := agree_ops hl
  have hslot : ∀ sl, SlotFit sl o (T k) → E k = logE o sl (T k) (T (k + 1)) → SlotOk sl c.h := by
    intro sl hsl he i hi
    subst hi
    have := hh0 (i + 1) (by rw [he]; simp [logE])
    rw [hval_succ.1 this]
    exact (hsl.1 i rfl).2
  have hg := su.good k o hk ho
  cases hg with
  | exec sl v hh hsl hg hs he loc =>
    have h2 : (T (k + 1)).h = hh := by rw [hs, put_h]
    obtain ⟨l1, l2⟩ := logE_fK (o := o) (sl := sl) (s := T k) h2
    rw [← he] at l1 l2
    rw [← l1, ← l2] at loc
    obtain ⟨hh', c1, c2, c3⟩ := loc.loc c hops hh0 fun hic r hr hrn => su.nn k o (by have := su.mM; omega) ho hic r hr (hnr r hrn)
    refine ⟨sl, hslot sl hsl he, fun K kp hK => wpG_true (by rw [hgd]; exact hg) ?_⟩
    obtain ⟨d, kk, gg⟩ := o
    refine wpB_wpA (c3 _ _ ?_)
    simp only [Bool.false_eq_true, if_false]
    refine hK _ (fun ℓ hw => ?_) (fun ℓ hw => ?_) (put_sh _ _ _)
    · cases ℓ with
      | inl p =>
        obtain ⟨o', q1, _, q2⟩ := hw
        rw [ho] at q1
        cases q1
        simp only [valA]
        rw [hs]
        exact congrArg _ (put_both (s := ⟨(T k).t, hh⟩) (c := ⟨c.t, hh'⟩) rfl q2 hsh (hd p q2))
      | inr q =>
        simp only [valA, put_h, h2]
        rw [c1 q hw.2]
    · cases ℓ with
      | inl p =>
        simp only [valA]
        refine congrArg _ (put_same (s := ⟨c.t, hh'⟩) (o := ⟨d, kk, gg⟩) rfl fun hd => hw ⟨_, ho, .inl hk, hd⟩)
      | inr q =>
        simp only [valA, put_h]
        rw [c2 q fun hq => hw ⟨hk, hq⟩]
  | skip sl hsl hg hs he =>
    refine ⟨sl, hslot sl hsl he, fun K kp hK => wpG_false (by rw [hgd]; exact hg) ?_⟩
    refine hK _ (fun ℓ hw => ?_) (fun ℓ hw => ?_) (put_sh _ _ _)
    · cases ℓ with
      | inl p =>
        obtain ⟨o', q1, _, q2⟩ := hw
        rw [ho] at q1
        cases q1
        simp only [valA]
        rw [hs]
        exact congrArg _ (put_both rfl q2 hsh (hd p q2))
      | inr q =>
        simp only [valA, put_h, hs]
        have hwf : q ∈ (E k).f := by rw [he]; exact logE_sub _ _ _ _ q (by rw [← he]; exact hw.2)
        rw [hh0 q hwf]
    · cases ℓ with
      | inl p =>
        simp only [valA]
        exact congrArg _ (put_same (o := o) rfl fun hd => hw ⟨_, ho, .inl hk, hd⟩)
      | inr q => simp only [valA, put_h]

theorem mv_step {o : KO} (hmv : mvO o = true) {c : AS} {nb : Nat} (K : AS → Prop) (kp : TV → AS → Prop) (hK : K (mvS (some o) c)) : wpG stdI stdB stdE R nb true none o c K kp := by
  obtain ⟨hg, hk⟩ := mvO_spec hmv
  refine wpG_true (by simp [gd, hg]) ?_
  simp only [mvS, if_pos hmv] at hK
  obtain ⟨d, kk, gg⟩ := o
  rcases hk with ⟨i, hk⟩ | ⟨v, hk⟩ <;> (simp only at hk; subst hk; exact hK)

theorem Su.stop_step (su : Su R ops kos T E m M N) (hm : m < ops.size) {o : KO} (ho : kos[m]? = some o) {v : TV} {hh : List Ob} (hst : Stop R o (T m) (E m) v hh) {c : AS} (hF : ∀ ℓ, Fr kos E m m ℓ → valA c ℓ = valA (T m) ℓ) (hall : ∀ q, hval c.h q = hval (T m).h q)
    (hnr : ∀ r ∈ c.nr, r ∈ N) {nb : Nat} : ∃ sl, SlotOk sl c.h ∧ ∀ (K : AS → Prop) (kp : TV → AS → Prop), kp v ⟨c.t, hh⟩ → wpG stdI stdB stdE R nb true sl o c K kp := by
  have hl : ∀ p, lookAt o p → getP c.t p.1 p.2 = getP (T m).t p.1 p.2 := fun p hp => by have := hF (.inl p) ⟨o, ho, .inr hp⟩; simpa [valA] using this
  obtain ⟨hops, hgd⟩ := agree_ops hl
  cases hst with
  | mk sl hsl hg he loc =>
    obtain ⟨l1, l2⟩ := logE_fK (o := o) (sl := sl) (s := T m) (s' := ⟨(T m).t, hh⟩) rfl
    rw [← he] at l1 l2
    rw [← l1, ← l2] at loc
    obtain ⟨hh', c1, c2, c3⟩ := loc.loc c hops (fun q _ => hall q) fun hic r hr hrn => su.nn m o (by have := su.mM; omega) ho hic r hr (hnr r hrn)
    have hhe : hh' = hh := hval_ext fun q => by
      by_cases hq : q ∈ (E m).w
      · exact c1 q hq
      · rw [c2 q hq, loc.keep q hq, hall q]
    subst hhe
    refine ⟨sl, fun i hi => ?_, fun K kp hK => wpG_true (by rw [hgd]; exact hg) ?_⟩
    · subst hi
      rw [hval_succ.1 (hall (i + 1))]
      exact (hsl.1 i rfl).2
    · obtain ⟨d, kk, gg⟩ := o
      exact wpB_wpA (c3 _ _ (by simpa using hK))
end
end Go.Ab
/- Operations whose order is open are sound: every order. -/
set_option linter.unusedVariables false
set_option linter.unusedSimpArgs false
namespace Go.Ab

theorem Sim.alike {Γ : Ctx} {s s' : AS} {tm : Array Value} {w : World} {g : G} (hs : Sim Γ s tm w g) (ht : ∀ i, getT s'.t i = .un ∨ getT s'.t i = getT s.t i) (hh : s'.h = s.h) : Sim Γ s' tm w g := by
  obtain ⟨t', h'⟩ := s'
  simp only at hh
  subst hh
  refine ⟨fun i => ?_, hs.n, hs.hok, hs.frm, fun i => ?_, hs.refH⟩
  · rcases ht i with e | e
    · rw [e]; exact .un _
    · rw [e]; exact hs.tmp i
  · rcases ht i with e | e
    · rw [e]; intro π hπ; simp [plsV] at hπ
    · rw [e]; exact hs.refT i
theorem Sim.drewN {Γ : Ctx} {s : AS} {tm : Array Value} {w : World} {g : G} (hs : Sim Γ s tm w g) (n : Nat) : Sim Γ s tm { w with drawn := n } g := by
  have hir : ∀ {Im : Nat → Prop} {c : PV} {x : Value}, IR w Im c x → IR { w with drawn := n } Im c x := fun h => h.mono (fun _ _ => rfl) (fun _ h => h)
  have htr : ∀ {v : TV} {x : Value}, TR w g v x → TR { w with drawn := n } g v x := fun h => h.mono (fun _ _ => rfl) (fun _ h => h) fun _ _ => ⟨rfl, rfl⟩
  refine ⟨fun i => htr (hs.tmp i), hs.n, ⟨fun r o e => ?_, hs.hok.inj, hs.hok.lt, hs.hok.dis, hs.hok.im⟩, ⟨hs.frm.os, hs.frm.tape, hs.frm.output, hs.frm.size, hs.frm.block, hs.frm.vp, hs.frm.im0, hs.frm.im1, hs.frm.root, hs.frm.nofree, hs.frm.len⟩, hs.refT, hs.refH⟩
  exact (hs.hok.ob r o e).keep (fun _ _ => rfl) (fun _ h => h) (fun _ _ _ => ⟨rfl, rfl, rfl⟩) (fun _ _ _ _ _ _ _ => ⟨rfl, rfl⟩) (fun _ _ _ _ _ _ _ _ => rfl) fun _ _ => ⟨rfl, rfl⟩

theorem Sim.frees {Γ : Ctx} {s : AS} {tm : Array Value} {w : World} {g : G} (hs : Sim Γ s tm w g) {l : List Ob} (hl : ∀ o ∈ l, o = .free) : Sim Γ ⟨s.t, s.h ++ l⟩ tm w g := by
  have hget : ∀ q, nthO (s.h ++ l) q = if q < s.h.length then nthO s.h q else nthO l (q - s.h.length) := by
    intro q
    rw [nthO_eq, nthO_eq, nthO_eq]
    split
    · rename_i h; rw [List.getElem?_append_left h]
    · rename_i h; rw [List.getElem?_append_right (by omega)]
  have hnew : ∀ q o, ¬ q < s.h.length → nthO (s.h ++ l) q = some o → o = .free := by
    intro q o h1 h2
    rw [hget, if_neg h1, nthO_eq] at h2
    exact hl o (List.mem_of_getElem? h2)
  have hvp : ∀ π, VP (s.h ++ l) π → VP s.h π := by
    intro π v
    by_cases e : π.root < s.h.length
    · exact (VP_congr (by rw [hget, if_pos e])).1 v
    · obtain ⟨o, h1, h2⟩ := VP_has.1 v
      have := hnew _ o e h1
      subst this
      exact h2.elim
  have hok : ∀ π, OkP s.h π → OkP (s.h ++ l) π := fun π v => (OkP_congr (by rw [hget, if_pos (OkP_lt v)])).2 v
  refine hs.re (fun π => π) hs.tmp rfl (fun r o e => ?_) (fun π v => ⟨hvp π v, rfl⟩) (fun _ _ _ _ e => e) (fun _ _ => ⟨rfl, rfl⟩) (fun r hr => ?_) (by have := hs.frm.len; simp; omega) (fun i π hπ => hok π (hs.refT i π hπ)) (fun r o e π hπ => ?_)
  · by_cases h : r < s.h.length
    · rw [hget, if_pos h] at e; exact hs.hok.ob r o e
    · rw [hnew r o h e]; trivial
  · have := hs.frm.len
    rw [hget, if_pos (by omega)]
    exact hs.frm.nofree r hr
  · by_cases h : r < s.h.length
    · rw [hget, if_pos h] at e; exact hok π (hs.refH r o e π hπ)
    · rw [hnew r o h e] at hπ; simp [plsOb] at hπ
theorem freeN_free : ∀ (l : List KO), ∀ o ∈ freeN l, o = .free
  | [], o, h => by simp [freeN] at h
  | a :: l, o, h => by
    simp only [freeN] at h
    split at h
    · rcases List.mem_cons.1 h with rfl | h
      · rfl
      · exact freeN_free l o h
    · exact freeN_free l o h

theorem blankD_get : ∀ (l : List KO) (t : List (List TV)) (a b : Nat), getP (blankD t l) a b = .un ∨ (getP (blankD t l) a b = getP t a b ∧ ∀ o ∈ l, ¬ dstAt o (a, b))
  | [], t, a, b => .inr ⟨rfl, by simp⟩
  | o :: l, t, a, b => by
    simp only [blankD]
    cases hd : o.d with
    | none =>
      simp only
      rcases blankD_get l t a b with h | ⟨h1, h2⟩
      · exact .inl h
      · refine .inr ⟨h1, fun o' ho' => ?_⟩
        rcases List.mem_cons.1 ho' with rfl | ho'
        · rintro ⟨d, d1, _⟩; rw [hd] at d1; cases d1
        · exact h2 o' ho'
    | some d =>
      simp only
      rcases blankD_get l (setT t d .un) a b with h | ⟨h1, h2⟩
      · exact .inl h
      · rw [getP_setT] at h1
        by_cases e : d / 16 = a ∧ d % 16 = b
        · left
          rw [h1]
          split
          · rfl
          · rename_i hn
            have : ¬ b < (t.getD a []).length := fun h => hn ⟨e.1, e.2, h⟩
            unfold getP
            simp only [List.getD_eq_getElem?_getD] at this ⊢
            rw [List.getElem?_eq_none (by omega)]
            rfl
        · right
          rw [if_neg (fun h => e ⟨h.1, h.2.1⟩)] at h1
          refine ⟨h1, fun o' ho' => ?_⟩
          rcases List.mem_cons.1 ho' with rfl | ho'
          · rintro ⟨d', d1, d2, d3⟩
            rw [hd] at d1
            cases d1
            exact e ⟨d2, d3⟩
          · exact h2 o' ho'

def unl (ops : Array Oper) (listed : Array Bool) : Nat := ((List.range ops.size).filter fun i => !listed.getD i true).length
theorem filter_lt {p q : Nat → Bool} {i : Nat} : ∀ (l : List Nat), i ∈ l → q i = true → p i = false → (∀ j, p j = true → q j = true) → (l.filter p).length < (l.filter q).length
  | [], h, _, _, _ => by simp at h
  | a :: l, h, h1, h2, h3 => by
    have hle : ∀ (l : List Nat), (l.filter p).length ≤ (l.filter q).length := by
      intro l
      induction l with
      | nil => simp
      | cons b l ih =>
        simp only [List.filter_cons]
        cases hp : p b with
        | true => simp only [h3 b hp, if_true, List.length_cons]; omega
        | false => cases q b <;> simp <;> omega
    simp only [List.filter_cons]
    rcases List.mem_cons.1 h with rfl | h
    · simp only [h1, h2, if_true, Bool.false_eq_true, if_false, List.length_cons]
      have := hle l
      omega
    · have ih := filter_lt l h h1 h2 h3
      cases hp : p a with
      | true => simp only [h3 a hp, if_true, List.length_cons]; omega
      | false => cases q a <;> simp <;> omega

section
variable {P : Program} {Γ : Ctx} {ops : Array Oper} {kos : List KO} {T : Nat → AS} {E : Nat → LogE} {m M : Nat} {N : List Nat}

theorem sim_any (su : Su (Runs P) ops kos T E m M N) {nb : Nat} (hnb : Γ.h0.length ≤ nb) (hc : compOs P Γ.n ops ops.toList = some kos) {ds : List Deferred} {q : AX → AS → Prop} {Q : Exit → Act → World → Prop} (hq : Post Γ ds q Q)
    (hend : m = ops.size → q .nrm (T m)) (hstop : m < ops.size → ∃ o v hh, kos[m]? = some o ∧ Stop (Runs P) o (T m) (E m) v hh ∧ q (.pan v) ⟨blankD (T m).t kos, hh⟩) :
    ∀ (fuel : Nat) (listed : Array Bool) (a : Act) (w : World) (c : AS) (g : G), listed.size = ops.size → unl ops listed ≤ fuel → (∀ (k : Nat) (o : Oper), ops[k]? = some o → listed[k]? = some true → ∀ j ∈ binding o, listed[j]? = some true) → (m < ops.size → listed[m]? ≠ some true) →
      InvD valA ops.size (extS kos T m) (Wr kos E m) (fun j => listed[j]? = some true) c → SameSh c.t (T 0).t → Sim Γ c a.tmps w g → a.defers = ds → wpAny P .any ops Q fuel listed a w := by
  have hco : ∀ (i : Nat) (o : Oper), ops[i]? = some o → ∃ ko, kos[i]? = some ko ∧ compO P Γ.n ops o = some ko := by
    have key : ∀ (l : List Oper) (ks : List KO), compOs P Γ.n ops l = some ks → ∀ (i : Nat) (o : Oper), l[i]? = some o → ∃ ko, ks[i]? = some ko ∧ compO P Γ.n ops o = some ko := by
      intro l
      induction l with
      | nil => intro ks _ i o hi; simp at hi
      | cons a l ih =>
        intro ks h i o hi
        simp only [compOs] at h
        split at h
        · rename_i ka kl h1 h2
          simp only [Option.some.injEq] at h
          subst h
          cases i with
          | zero =>
            simp only [List.getElem?_cons_zero, Option.some.injEq] at hi
            subst hi
            exact ⟨ka, rfl, h1⟩
          | succ i => exact ih kl h2 i o (by simpa using hi)
        · cases h
    exact fun i o hi => key _ _ hc i o (by simpa using hi)
  have hshT : ∀ i, i ≤ m → SameSh (T i).t (T 0).t := by
    intro i
    induction i with
    | zero => intro _ a; rfl
    | succ i ih =>
      intro hi
      obtain ⟨o, ho⟩ := su.get (i := i) (by have := su.mle; omega)
      have hg := su.good i o (by omega) ho
      have : SameSh (T (i + 1)).t (T i).t := by
        cases hg with
        | exec sl v hh hsl hgd hs he loc => rw [hs]; exact put_sh ⟨(T i).t, hh⟩ o.d v
        | skip sl hsl hgd hs he => rw [hs]; exact put_sh _ _ _
      exact this.trans (ih (by omega))
  have hgetD : ∀ (listed : Array Bool) (j : Nat), listed.getD j false = true ↔ listed[j]? = some true := by
    intro listed j
    simp only [Array.getD_eq_getD_getElem?]
    cases listed[j]? with
    | none => simp
    | some b => simp
  have hready : ∀ (listed : Array Bool) (i : Nat), listed.size = ops.size → (i ∈ Region.ready .any ops listed ↔ ∃ o, ops[i]? = some o ∧ listed[i]? ≠ some true ∧ ∀ j ∈ binding o, listed[j]? = some true) := by
    intro listed i hsz
    unfold Region.ready
    simp only [List.mem_filter, List.mem_range, Bool.and_eq_true, Bool.not_eq_eq_eq_not, Bool.not_true]
    constructor
    · rintro ⟨h1, h2, h3⟩
      have ho : ops[i]? = some ops[i] := Array.getElem?_eq_getElem h1
      refine ⟨ops[i], ho, fun h => ?_, fun j hj => ?_⟩
      · simp only [Array.getD_eq_getD_getElem?, h, Option.getD_some] at h2
        cases h2
      · rw [ho] at h3
        simp only [Option.map_some, Option.getD_some, Array.all_eq_true] at h3
        unfold binding at hj
        simp only [List.mem_map, List.mem_filter] at hj
        obtain ⟨e, ⟨he1, he2⟩, rfl⟩ := hj
        obtain ⟨n, hn, hen⟩ := List.mem_iff_getElem.1 he1
        have := h3 n (by simpa using hn)
        have hen' : ops[i].after[n]'(by simpa using hn) = e := by simpa using hen
        rw [hen'] at this
        simp only [he2, Bool.not_true, Bool.false_or] at this
        exact (hgetD _ _).1 this
    · rintro ⟨o, ho, h2, h3⟩
      have hi : i < ops.size := (Array.getElem?_eq_some_iff.1 ho).1
      refine ⟨hi, ?_, ?_⟩
      · simp only [Array.getD_eq_getD_getElem?]
        cases e : listed[i]? with
        | none => rw [Array.getElem?_eq_none_iff] at e; omega
        | some b => cases b with
          | true => exact absurd e h2
          | false => rfl
      · rw [ho]
        simp only [Option.map_some, Option.getD_some, Array.all_eq_true]
        intro n hn
        cases hb : Region.binds .any o.after[n] with
        | false => simp
        | true =>
          simp only [Bool.not_true, Bool.false_or]
          refine (hgetD _ _).2 (h3 _ ?_)
          unfold binding
          simp only [List.mem_map, List.mem_filter]
          exact ⟨o.after[n], ⟨by simp, hb⟩, rfl⟩
  have hset : ∀ (listed : Array Bool) (i j : Nat), listed.size = ops.size → i < ops.size → ((listed.setIfInBounds i true)[j]? = some true ↔ listed[j]? = some true ∨ j = i) := by
    intro listed i j hsz hi
    rw [Array.getElem?_setIfInBounds]
    by_cases e : i = j
    · subst e
      rw [if_pos rfl, if_pos (by omega)]
      simp
    · rw [if_neg e]
      have : ¬ j = i := fun h => e h.symm
      simp [this]
  have hdone : ∀ (listed : Array Bool), listed.size = ops.size → (∀ i, i ∉ Region.ready .any ops listed) → ∀ i, i < ops.size → listed[i]? = some true := by
    intro listed hsz hr i
    induction i using Nat.strongRecOn with
    | _ i ih =>
      intro hi
      refine Classical.byContradiction fun hn => hr i ((hready listed i hsz).2 ⟨ops[i], Array.getElem?_eq_getElem hi, hn, fun j hj => ?_⟩)
      have := su.lt i _ (Array.getElem?_eq_getElem hi) j hj
      exact ih j this (by omega)
  intro fuel
  induction fuel with
  | zero =>
    intro listed a w c g hsz hfu hcl hnm hI hsh hs hd
    have hall : ∀ i, i < ops.size → listed[i]? = some true := by
      intro i hi
      refine Classical.byContradiction fun hn => ?_
      have : i ∈ (List.range ops.size).filter fun i => !listed.getD i true := by
        simp only [List.mem_filter, List.mem_range, hi, true_and, Array.getD_eq_getD_getElem?]
        cases e : listed[i]? with
        | none => rw [Array.getElem?_eq_none_iff] at e; omega
        | some b => cases b with
          | true => exact absurd e hn
          | false => rfl
      have := List.length_pos_of_mem this
      unfold unl at hfu
      omega
    have hm : m = ops.size := by
      have := su.mle
      rcases Nat.lt_or_ge m ops.size with h | h
      · exact absurd (hall m h) (hnm h)
      · omega
    refine ⟨?_, ?_⟩
    · refine List.eq_nil_iff_forall_not_mem.2 fun i hi => ?_
      obtain ⟨o, ho, h2, _⟩ := (hready listed i hsz).1 hi
      exact h2 (hall i (Array.getElem?_eq_some_iff.1 ho).1)
    · have he := hI.end_ hall
      refine hq.nrm (T m) a w g (hend hm) (hs.alike (fun i => .inr ?_) ?_) hd
      · have := he (.inl (i / 16, i % 16))
        rw [extS_le (by omega), ← hm] at this
        simp only [valA, Vv.t.injEq] at this
        exact this.symm
      · refine hval_ext fun r => ?_
        have := he (.inr r)
        rw [extS_le (by omega), ← hm] at this
        simp only [valA, Vv.h.injEq] at this
        exact this.symm
  | succ fuel ih =>
    intro listed a w c g hsz hfu hcl hnm hI hsh hs hd
    have hclb : ∀ j k, listed[k]? = some true → (k < ops.size ∧ j ∈ bsOf ops k) → listed[j]? = some true := fun j k hk ⟨h1, h2⟩ => befs_closed su.lt (D := fun j => listed[j]? = some true) hcl k j h1 hk h2
    refine ⟨fun hr => ?_, fun i hi => ?_⟩
    · have hall := hdone listed hsz (fun i hi => by rw [hr] at hi; simp at hi)
      have hm : m = ops.size := by
        have := su.mle
        rcases Nat.lt_or_ge m ops.size with h | h
        · exact absurd (hall m h) (hnm h)
        · omega
      have he := hI.end_ hall
      refine hq.nrm (T m) a w g (hend hm) (hs.alike (fun i => .inr ?_) ?_) hd
      · have := he (.inl (i / 16, i % 16))
        rw [extS_le (by omega), ← hm] at this
        simp only [valA, Vv.t.injEq] at this
        exact this.symm
      · refine hval_ext fun r => ?_
        have := he (.inr r)
        rw [extS_le (by omega), ← hm] at this
        simp only [valA, Vv.h.injEq] at this
        exact this.symm
    · obtain ⟨o, ho, hni, hbi⟩ := (hready listed i hsz).1 hi
      have hin : i < ops.size := (Array.getElem?_eq_some_iff.1 ho).1
      obtain ⟨ko, hko, hcomp⟩ := hco i o ho
      have hbs : ∀ j, (i < ops.size ∧ j ∈ bsOf ops i) → listed[j]? = some true := by
        rintro j ⟨_, hj⟩
        obtain ⟨j', h1, h2⟩ := (befs_spec ho (su.lt i o ho)).1 hj
        rcases h2 with rfl | h2
        · exact hbi j h1
        · exact hclb j j' (hbi j' h1) ⟨by have := su.lt i o ho j' h1; omega, h2⟩
      have hF : ∀ ℓ, Fr kos E m i ℓ → valA c ℓ = valA (extS kos T m i) ℓ := fun ℓ h => hI.at_ su.tr hclb hin hni hbs h
      have hnr : ∀ r ∈ c.nr, r ∈ N := nr_of fun ℓ => by
        obtain ⟨k, h1, h2⟩ := hI.some_ su.tr hclb ℓ
        rw [h2]; exact su.nb k h1 ℓ
      have hD' : ∀ j, (listed.setIfInBounds i true)[j]? = some true ↔ listed[j]? = some true ∨ j = i := fun j => hset listed i j hsz hin
      have hgo : i ≠ m → ∀ (c' : AS) (a' : Act) (w' : World) (g' : G), (∀ ℓ, Wr kos E m i ℓ → valA c' ℓ = valA (extS kos T m (i + 1)) ℓ) → (∀ ℓ, ¬ Wr kos E m i ℓ → valA c' ℓ = valA c ℓ) → SameSh c'.t c.t → Sim Γ c' a'.tmps w' g' → a'.defers = ds →
          wpAny P .any ops Q fuel (listed.setIfInBounds i true) a' w' := by
        intro him c' a' w' g' h1 h2 h3 h4 h5
        refine ih _ a' w' c' g' (by simpa using hsz) ?_ (fun k ok hok hk j hj => ?_) (fun hm h => ?_) (hI.step su.tr hclb hin hni hD' h1 h2) (h3.trans hsh) h4 h5
        · have : unl ops (listed.setIfInBounds i true) < unl ops listed := by
            refine filter_lt _ (List.mem_range.2 hin) ?_ ?_ fun j hj => ?_
            · simp only [Array.getD_eq_getD_getElem?]
              cases e : listed[i]? with
              | none => rw [Array.getElem?_eq_none_iff] at e; omega
              | some b => cases b with
                | true => exact absurd e hni
                | false => rfl
            · simp only [Array.getD_eq_getD_getElem?, (hD' i).2 (.inr rfl)]; rfl
            · simp only [Array.getD_eq_getD_getElem?, Array.getElem?_setIfInBounds] at hj ⊢
              by_cases e : i = j
              · subst e
                rw [if_pos rfl, if_pos (by omega)] at hj
                cases hj
              · rw [if_neg e] at hj; exact hj
          omega
        · rcases (hD' k).1 hk with h | rfl
          · exact (hD' j).2 (.inl (hcl k ok hok h j hj))
          · rw [ho] at hok
            cases hok
            exact (hD' j).2 (.inl (hbi j hj))
        · rcases (hD' m).1 h with h | h
          · exact hnm hm h
          · exact him h.symm
      have hwp : ∀ (k : AS → Prop) (kp : TV → AS → Prop) (sl : Option Nat), SlotOk sl c.h → wpG stdI stdB stdE (Runs P) nb true sl ko c k kp → (∀ s' x w' g', k s' → Sim Γ s' (a.put o.dst x).tmps w' g' → wpAny P .any ops Q fuel (listed.setIfInBounds i true) (a.put o.dst x) w') →
          (∀ v s' x w' g', kp v s' → SimV Γ a.tmps v s' x w' g' → Q (.panic [{ v := x, recovered := false }]) a w') → wpOp P ops Q i (wpAny P .any ops Q fuel (listed.setIfInBounds i true)) a w := by
        intro k kp sl hsl hw hn hp
        have := oper_sound (dr := true) hs hnb hsl (fun h => by cases h) hcomp hw hn hp
        unfold wpOp
        rw [ho]
        simp only
        split
        · rename_i hw'
          rw [if_pos hw'] at this
          exact .inl this
        · rename_i hw'
          rw [if_neg hw'] at this
          exact this
      rcases Nat.lt_trichotomy i m with him | him | him
      · rw [extS_le (by omega)] at hF
        obtain ⟨sl, hsl, hw⟩ := su.norm him hko hF (by exact (hsh.trans (hshT i (by omega)).symm)) hnr (nb := nb)
        refine hwp (fun c' => (∀ ℓ, Wr kos E m i ℓ → valA c' ℓ = valA (T (i + 1)) ℓ) ∧ (∀ ℓ, ¬ Wr kos E m i ℓ → valA c' ℓ = valA c ℓ) ∧ SameSh c'.t c.t) (fun _ _ => False) sl hsl (hw _ _ fun c' h1 h2 h3 => ⟨h1, h2, h3⟩) ?_ (fun _ _ _ _ _ h => h.elim)
        rintro s' x w' g' ⟨h1, h2, h3⟩ h4
        exact hgo (by omega) s' _ w' g' (by rw [extS_le (by omega)]; exact h1) h2 h3 h4 (by rw [put_defers]; exact hd)
      · subst him
        obtain ⟨o', v, hh, h1, h2, h3⟩ := hstop hin
        rw [hko] at h1
        cases h1
        rw [extS_le (by omega)] at hF
        have hall : ∀ r, hval c.h r = hval (T i).h r := by
          intro r
          have := hI (.inr r) i (by omega) fun j hj hw => ?_
          · rw [extS_le (by omega)] at this
            simpa [valA] using this
          · have hji := hw.1
            refine ⟨fun _ => hji, fun _ => ?_⟩
            obtain ⟨oj, hoj⟩ := su.get hj
            rcases su.pn hin j oj hj (by omega) hoj with h | h | ⟨_, h⟩ | ⟨h, _⟩
            · exact hbs j ⟨hin, h⟩
            · have := befs_lt su.lt j i hj h
              omega
            · have := (su.good j oj hji hoj).cls.2 h
              have hw2 := hw.2
              rw [this] at hw2
              simp at hw2
            · omega
        obtain ⟨sl, hsl, hw⟩ := su.stop_step hin hko h2 hF hall hnr (nb := nb)
        refine hwp (fun _ => False) (fun v' s' => v' = v ∧ s' = ⟨c.t, hh⟩) sl hsl (hw _ _ ⟨rfl, rfl⟩) (fun _ _ _ _ h => h.elim) ?_
        rintro v' s' x w' g' ⟨rfl, rfl⟩ hsv
        refine hq.pan v' ⟨blankD (T i).t kos, hh⟩ a x w' g' h3 ⟨hsv.1.alike (fun d => ?_) rfl, hsv.2.1, hsv.2.2⟩ hd
        rw [getT_getP, getT_getP]
        rcases blankD_get kos (T i).t (d / 16) (d % 16) with h | ⟨h4, h5⟩
        · exact .inl h
        · right
          rw [show (⟨blankD (T i).t kos, hh⟩ : AS).t = blankD (T i).t kos from rfl, h4]
          have := hI (.inl (d / 16, d % 16)) i (by omega) fun j hj hw => ?_
          · rw [extS_le (by omega)] at this
            simp only [valA, Vv.t.injEq] at this
            exact this.symm
          · obtain ⟨oj, q1, _, q2⟩ := hw
            exact absurd q2 (h5 oj (List.mem_of_getElem? q1))
      · have hm : m < ops.size := by omega
        have hmv : mvO ko = true := by
          rcases su.pn hm i ko hin (by omega) hko with h | h | ⟨h, _⟩ | ⟨_, h⟩
          · have := befs_lt su.lt m i hm h
            omega
          · exact absurd (hbs m ⟨hin, h⟩) (hnm hm)
          · omega
          · exact h
        refine hwp (fun c' => c' = mvS (some ko) c) (fun _ _ => False) none (fun i hi => by cases hi) (mv_step hmv _ _ rfl) ?_ (fun _ _ _ _ _ h => h.elim)
        rintro s' x w' g' rfl h4
        have hS : extS kos T m (i + 1) = mvS (some ko) (extS kos T m i) := by
          simp only [extS]
          rw [if_neg (by omega), if_neg (by omega), hko]
        have hops : ∀ x ∈ opsX ko.k, c.ev x = (extS kos T m i).ev x := (agree_ops fun p hp => by have := hF (.inl p) ⟨ko, hko, .inr hp⟩; simpa [valA] using this).1
        have hval : mvV ko c = mvV ko (extS kos T m i) := by
          unfold mvV
          obtain ⟨_, ⟨j, hk⟩ | ⟨cc, hk⟩⟩ := mvO_spec hmv
          · rw [hk]; exact hops (.t j) (by simp [hk, opsX])
          · rw [hk]; rfl
        refine hgo (by omega) _ _ w' g' (fun ℓ hw => ?_) (fun ℓ hw => ?_) ?_ h4 (by rw [put_defers]; exact hd)
        · rw [hS]
          simp only [mvS, if_pos hmv, hval]
          cases ℓ with
          | inl p =>
            obtain ⟨o', q1, _, q2⟩ := hw
            rw [hko] at q1
            cases q1
            simp only [valA]
            refine congrArg _ (put_both rfl q2 ?_ ?_)
            · have h1 : SameSh (extS kos T m i).t (T 0).t := by
                have : ∀ k, SameSh (extS kos T m k).t (T 0).t := by
                  intro k
                  induction k with
                  | zero => intro _; rfl
                  | succ k ihk =>
                    simp only [extS]
                    split
                    · exact hshT _ (by omega)
                    · split
                      · exact ihk
                      · unfold mvS
                        split
                        · split
                          · exact (put_sh _ _ _).trans ihk
                          · exact ihk
                        · exact ihk
                exact this i
              exact hsh.trans h1.symm
            · have := hF (.inl p) ⟨ko, hko, .inl q2⟩
              simpa [valA] using this
          | inr r => exact absurd hw.1 (by omega)
        · simp only [mvS, if_pos hmv]
          cases ℓ with
          | inl p =>
            simp only [valA]
            exact congrArg _ (put_same (o := ko) rfl fun hd => hw ⟨ko, hko, .inr ⟨him, hmv⟩, hd⟩)
          | inr r => simp only [valA, put_h]
        · simp only [mvS, if_pos hmv]
          exact put_sh _ _ _
end

theorem nestP_mem {t : List (List TV)} {a b r : Nat} (h : r ∈ nestV (getP t a b)) : r ∈ nestLL t := by
  have hL : ∀ (l : List TV) (b : Nat), r ∈ nestV (l.getD b .un) → r ∈ nestL l := by
    intro l
    induction l with
    | nil => intro b h; simp [nestV] at h
    | cons v l ih =>
      intro b h
      simp only [nestL, List.mem_append]
      cases b with
      | zero => exact .inl (by simpa using h)
      | succ b => exact .inr (ih b (by simpa only [List.getD_cons_succ] using h))
  unfold getP at h
  induction t generalizing a with
  | nil => simp [nestV] at h
  | cons v t ih =>
    simp only [nestLL, List.mem_append]
    cases a with
    | zero => exact .inl (hL v b (by simpa using h))
    | succ a => exact .inr (ih (a := a) (by simpa only [List.getD_cons_succ] using h))
theorem nestH_app (a b : List Ob) : nestH (a ++ b) = nestH a ++ nestH b := by
  induction a with
  | nil => rfl
  | cons o l ih => cases o <;> simp [nestH, ih]
theorem nestH_free {l : List Ob} (h : ∀ o ∈ l, o = .free) : nestH l = [] := by
  induction l with
  | nil => rfl
  | cons o l ih =>
    rw [h o (by simp)]
    simp only [nestH]
    exact ih fun o ho => h o (List.mem_cons_of_mem _ ho)
theorem compOs_length {P : Program} {n : Nat} {ops : Array Oper} : ∀ (l : List Oper) (ks : List KO), compOs P n ops l = some ks → ks.length = l.length
  | [], ks, h => by simp only [compOs, Option.some.injEq] at h; subst h; rfl
  | o :: l, ks, h => by
    simp only [compOs] at h
    split at h
    · rename_i a b h1 h2
      simp only [Option.some.injEq] at h
      subst h
      simp [compOs_length l b h2]
    · cases h
theorem unR_mem {k i : Nat} {bef : List Nat} : i ∈ unR k bef ↔ i < k ∧ i ∉ bef := by
  unfold unR
  simp only [List.mem_filter, List.mem_range]
  cases e : memN i bef with
  | true => simp [(memN_eq i bef).1 e]
  | false =>
    have : i ∉ bef := fun h => by rw [(memN_eq i bef).2 h] at e; cases e
    simp [this]

theorem regd_sound {P : Program} {Γ : Ctx} {s : AS} {a : Act} {w : World} {g : G} {nb : Nat} (hnb : Γ.h0.length ≤ nb) {id : Nat} {ops : Array Oper} {kos : List KO} (hc : compOs P Γ.n ops ops.toList = some kos) (hf : P.follows .mixedOrders = true)
    (ht : tmpsOk ops kos (befs ops.toList []) = true) {q : AX → AS → Prop} {Q : Exit → Act → World → Prop} (hq : Post Γ a.defers q Q) (hs : Sim Γ s a.tmps w g)
    (h : wpOpsD stdI stdB stdE (Runs P) nb (unOf kos (befs ops.toList [])) s.nr kos kos (pnOf kos (befs ops.toList [])) s.h.length [] ⟨s.t, s.h ++ freeN kos⟩ (q .nrm) (fun v s => q (.pan v) s)) : (Code.region id ops true).wp P Q a w := by
  have hlen : kos.length = ops.size := by simpa using compOs_length _ _ hc
  obtain ⟨T, E, hT0, htr⟩ := trace _ _ _ _ _ h
  have htm : ∀ (k : Nat) (o : Oper), ops[k]? = some o → (∀ j ∈ binding o, j < k) ∧ ∀ (x : KO), kos[k]? = some x → ∀ i ∈ unR k (bsOf ops k), ∀ (y : KO), kos[i]? = some y → apartT x y = true := by
    intro k o ho
    have hk : k < ops.size := (Array.getElem?_eq_some_iff.1 ho).1
    unfold tmpsOk at ht
    have := List.all_eq_true.1 ht k (List.mem_range.2 hk)
    rw [ho, List.getElem?_eq_getElem (by omega)] at this
    simp only [Bool.and_eq_true, List.all_eq_true] at this
    refine ⟨fun j hj => by have := this.1 j hj; simpa [Nat.blt_eq] using this, fun x hx i hi y hy => ?_⟩
    rw [List.getElem?_eq_getElem (by omega)] at hx
    simp only [Option.some.injEq] at hx
    subst hx
    have := this.2 i hi
    rw [hy] at this
    exact this
  have hlt : ∀ (k : Nat) (o : Oper), ops[k]? = some o → ∀ j ∈ binding o, j < k := fun k o ho => (htm k o ho).1
  have hnb0 : ∀ L : List Nat, (∀ a b, ∀ r ∈ nestV (getP (T 0).t a b), r ∈ s.nr ++ L) ∧ ∀ r ∈ nestH (T 0).h, r ∈ s.nr ++ L := by
    intro L
    rw [hT0]
    refine ⟨fun a b r hr => List.mem_append.2 (.inl (List.mem_append.2 (.inl (nestP_mem hr)))), fun r hr => ?_⟩
    rw [nestH_app, nestH_free (freeN_free kos), List.append_nil] at hr
    exact List.mem_append.2 (.inl (List.mem_append.2 (.inr hr)))
  have hun : ∀ (k : Nat) (x : KO), kos[k]? = some x → ∀ (i : Nat) (y : KO), kos[i]? = some y → i < k → i ∉ bsOf ops k → clsC (clsK y.k) (clsK x.k) = true → i ∈ (unOf kos (befs ops.toList [])).getD k [] := by
    intro k x hx i y hy hik hb hcc
    have hk : k < kos.length := (List.getElem?_eq_some_iff.1 hx).1
    unfold unOf
    simp only [List.getD_eq_getElem?_getD, List.getElem?_map, List.getElem?_range hk, Option.map_some, Option.getD_some]
    rw [List.mem_filter]
    refine ⟨unR_mem.2 ⟨hik, by simpa [bsOf] using hb⟩, ?_⟩
    rw [hx, hy]
    exact hcc
  have mk : ∀ (m M : Nat), m ≤ ops.size → (M = m ∧ m = ops.size ∨ M = m + 1 ∧ m < ops.size) → (∀ i o, i < m → kos[i]? = some o → Good (Runs P) o (T i) (T (i + 1)) (E i)) → (m < ops.size → ∀ o, kos[m]? = some o → ∃ v hh, Stop (Runs P) o (T m) (E m) v hh) →
      chkL s.nr ((List.range M).map E) (unOf kos (befs ops.toList [])) = true → (m < ops.size → (pnOf kos (befs ops.toList []))[m]? = some true) → Su (Runs P) ops kos T E m M (s.nr ++ allN ((List.range M).map E)) := by
    intro m M hm hM hg hst hck hpn
    obtain ⟨hU, hN⟩ := chkL_spec hck
    have hL : ∀ i, i < M → ((List.range M).map E)[i]? = some (E i) := fun i hi => by simp [List.getElem?_range hi]
    have hLm : ∀ i, i < M → E i ∈ (List.range M).map E := fun i hi => List.mem_of_getElem? (hL i hi)
    refine ⟨hlen, hm, hM, hlt, fun k i x y hk hik hb hx hy => ?_, hg, hst, fun k i x y hk hik hb hx hy hcc => ?_, fun i o hi ho hic r hr => ?_, hnb0 _, fun i hi r hr => List.mem_append.2 (.inr (allN_mem (hLm i hi) r hr)), fun hml i o hi him ho => ?_⟩
    · exact (htm k _ (Array.getElem?_eq_getElem hk)).2 x hx i (unR_mem.2 ⟨hik, hb⟩) y hy
    · obtain ⟨e', h1, h2, h3⟩ := chkU_spec hU k (E k) (hL k hk) i (hun k x hx i y hy hik hb hcc)
      rw [hL i (by omega)] at h1
      cases h1
      exact ⟨h2, h3⟩
    · have hce : (E i).c = isCall o.k := by
        by_cases e : i < m
        · cases hg i o e ho with
          | exec sl v hh hsl hgd hs he loc => rw [he, logE_c]
          | skip sl hsl hgd hs he => rw [he, logE_c]
        · have e : i = m := by omega
          subst e
          obtain ⟨v, hh, hs⟩ := hst (by omega) o ho
          cases hs with
          | mk sl hsl hgd he loc => rw [he, logE_c]
      exact chkN_spec hN (E i) (hLm i hi) (by rw [hce, hic]) r hr
    · have hp := hpn hml
      unfold pnOf at hp
      simp only [List.getElem?_map, Option.map_eq_some_iff] at hp
      obtain ⟨m', h1, h2⟩ := hp
      have hmm : m' = m := by
        rw [List.getElem?_range (by omega)] at h1
        simpa using h1.symm
      subst hmm
      have := List.all_eq_true.1 h2 i (List.mem_range.2 (by omega))
      simp only [Bool.or_eq_true, memN_eq, ho, Option.map_some, Option.getD_some] at this
      rcases this with ((h | h) | h) | h
      · exact absurd (Nat.eq_of_beq_eq_true h) him
      · exact .inl h
      · exact .inr (.inl h)
      · right; right
        split at h
        · rename_i hb
          exact .inl ⟨by simpa [Nat.blt_eq] using hb, by simpa [Nat.blt_eq] using h⟩
        · rename_i hb
          refine .inr ⟨?_, h⟩
          have : ¬ i < m' := fun h => hb (by simpa [Nat.blt_eq] using h)
          omega
  have h0 : SameSh (T 0).t (T 0).t := fun _ => rfl
  have hs0 : Sim Γ (T 0) a.tmps { w with drawn := w.drawn + 1 } g := by
    rw [hT0]
    exact (hs.frees (freeN_free kos)).drewN _
  refine wp_region_any hf ?_
  have hlist : ∀ j : Nat, (Array.replicate ops.size false)[j]? ≠ some true := by
    intro j
    rw [Array.getElem?_replicate]
    split <;> simp
  have hun0 : unl ops (Array.replicate ops.size false) ≤ ops.size := by
    unfold unl
    refine Nat.le_trans (List.length_filter_le _ _) (by simp)
  have go : ∀ (m M : Nat) (N : List Nat), Su (Runs P) ops kos T E m M N → (m = ops.size → q .nrm (T m)) → (m < ops.size → ∃ o v hh, kos[m]? = some o ∧ Stop (Runs P) o (T m) (E m) v hh ∧ q (.pan v) ⟨blankD (T m).t kos, hh⟩) →
      wpAny P .any ops Q ops.size (Array.replicate ops.size false) a { w with drawn := w.drawn + 1 } := by
    intro m M N su h1 h2
    refine sim_any su hnb hc hq h1 h2 ops.size _ a _ (T 0) g (by simp) hun0 (fun k o _ hk => absurd hk (hlist k)) (fun _ => hlist m) ?_ h0 hs0 rfl
    exact InvD.start su.tr (fun j _ => hlist j) fun ℓ => rfl
  rcases htr with ⟨h1, h2, h3⟩ | ⟨m, o, v, hh, h1, h2, h3, h4, h5, h6⟩
  · rw [hlen] at h1 h2
    refine go ops.size ops.size _ (mk ops.size ops.size (Nat.le_refl _) (.inl ⟨rfl, rfl⟩) (fun i o _ ho => h3 i o ho) (fun h => absurd h (Nat.lt_irrefl _)) (by simpa using h1) (fun h => absurd h (Nat.lt_irrefl _))) (fun _ => h2) (fun h => absurd h (Nat.lt_irrefl _))
  · have hm : m < ops.size := by
      have := (List.getElem?_eq_some_iff.1 h1).1
      omega
    refine go m (m + 1) _ (mk m (m + 1) (by omega) (.inr ⟨rfl, hm⟩) h6 (fun _ o' ho' => ?_) (by simpa using h4) (fun _ => h2)) (fun h => by omega) (fun _ => ⟨o, v, hh, h1, h3, h5⟩)
    rw [h1] at ho'
    cases ho'
    exact ⟨v, hh, h3⟩
end Go.Ab
/- Code and functions are sound. -/
set_option linter.unusedVariables false
set_option linter.unusedSimpArgs false
namespace Go.Ab

theorem least {p : Nat → Prop} (h : ∃ n, p n) : ∃ n, p n ∧ ∀ m, p m → n ≤ m := by
  obtain ⟨n, hn⟩ := h
  induction n using Nat.strongRecOn with
  | _ n ih =>
    by_cases e : ∃ m, m < n ∧ p m
    · obtain ⟨m, h1, h2⟩ := e
      exact ih m h1 h2
    · exact ⟨n, hn, fun m hm => Nat.le_of_not_lt fun h => e ⟨m, h, hm⟩⟩
theorem code_sound {P : Program} {Γ : Ctx} {nb : Nat} (hnb : Γ.h0.length ≤ nb) : ∀ (c : Code) (ann ann' : List (List Nat)) (cc : CC), comp P Γ.n c ann = some (cc, ann') → ∀ (s : AS) (a : Act) (w : World) (g : G) (q : AX → AS → Prop) (Q : Exit → Act → World → Prop),
    Sim Γ s a.tmps w g → wp stdI stdB stdE (Runs P) nb cc s q → Post Γ a.defers q Q → c.wp P Q a w := by
  intro c
  induction c with
  | skip =>
    intro ann ann' cc hc s a w g q Q hs h hq
    simp only [comp, Option.some.injEq, Prod.mk.injEq] at hc
    obtain ⟨rfl, rfl⟩ := hc
    exact wp_skip (hq.nrm s a w g h hs rfl)
  | region id ops draw =>
    intro ann ann' cc hc s a w g q Q hs h hq
    cases draw with
    | false =>
      simp only [comp] at hc
      split at hc
      · rename_i l hl
        simp only [Option.some.injEq, Prod.mk.injEq] at hc
        obtain ⟨rfl, rfl⟩ := hc
        exact reg_sound hnb hl hq hs h
      · cases hc
    | true =>
      simp only [comp] at hc
      split at hc
      · rename_i l hl
        split at hc
        · rename_i hcond
          simp only [Option.some.injEq, Prod.mk.injEq] at hc
          obtain ⟨rfl, rfl⟩ := hc
          simp only [Bool.and_eq_true] at hcond
          exact regd_sound hnb hl hcond.1 hcond.2 hq hs h
        · cases hc
      · cases hc
  | seq x y ihx ihy =>
    intro ann ann' cc hc s a w g q Q hs h hq
    simp only [comp] at hc
    split at hc
    · rename_i cx ann1 h1
      split at hc
      · rename_i cy ann2 h2
        simp only [Option.some.injEq, Prod.mk.injEq] at hc
        obtain ⟨rfl, rfl⟩ := hc
        refine wp_seq (ihx _ _ _ h1 s a w g _ _ hs h ⟨fun s' a' w' g' hk hs' hd => ?_, fun id s' a' w' g' hk hs' hd => ?_, fun s' a' w' g' hk hs' hd => ?_, fun v s' a' x w' g' hk hs' hd => ?_⟩)
        · exact ihy _ _ _ h2 s' a' w' g' q Q hs' hk (by rw [hd]; exact hq)
        · exact hq.ext id s' a' w' g' hk hs' hd
        · exact hq.ret s' a' w' g' hk hs' hd
        · exact hq.pan v s' a' x w' g' hk hs' hd
      · cases hc
    · cases hc
  | cond c x y ihx ihy =>
    intro ann ann' cc hc s a w g q Q hs h hq
    simp only [comp] at hc
    split at hc
    · rename_i xc cx ann1 h0 h1
      split at hc
      · rename_i cy ann2 h2
        simp only [Option.some.injEq, Prod.mk.injEq] at hc
        obtain ⟨rfl, rfl⟩ := hc
        obtain ⟨hv, hrf⟩ := hs.ev' h0
        simp only [wp] at h
        split at h
        · rename_i v he
          rw [he] at hv
          have hb := tr_bool hv
          split at h
          · exact wp_cond_true hb (ihx _ _ _ h1 s a w g q Q hs h hq)
          · exact wp_cond_false hb (ihy _ _ _ h2 s a w g q Q hs h hq)
        · exact h.elim
      · cases hc
    · cases hc
  | block id b ih =>
    intro ann ann' cc hc s a w g q Q hs h hq
    simp only [comp] at hc
    split at hc
    · rename_i cx ann1 h1
      simp only [Option.some.injEq, Prod.mk.injEq] at hc
      obtain ⟨rfl, rfl⟩ := hc
      refine wp_block (ih _ _ _ h1 s a w g _ _ hs h ⟨fun s' a' w' g' hk hs' hd => ?_, fun i s' a' w' g' hk hs' hd => ?_, fun s' a' w' g' hk hs' hd => ?_, fun v s' a' x w' g' hk hs' hd => ?_⟩)
      · exact hq.nrm s' a' w' g' hk hs' hd
      · simp only [Exit.inBlock]
        simp only at hk
        split at hk
        · rename_i e
          rw [if_pos (Nat.eq_of_beq_eq_true e)]
          exact hq.nrm s' a' w' g' hk hs' hd
        · rename_i e
          rw [if_neg (Nat.ne_of_beq_eq_false e)]
          exact hq.ext i s' a' w' g' hk hs' hd
      · exact hq.ret s' a' w' g' hk hs' hd
      · exact hq.pan v s' a' x w' g' hk hs' hd
    · cases hc
  | loop b ih =>
    intro ann ann' cc hc s a w g q Q hs h hq
    cases ann with
    | nil => simp [comp] at hc
    | cons live ann =>
      simp only [comp] at hc
      split at hc
      · rename_i cx ann1 h1
        simp only [Option.some.injEq, Prod.mk.injEq] at hc
        obtain ⟨rfl, rfl⟩ := hc
        obtain ⟨pre, m, inv, hm, ⟨n0, h0⟩, hround⟩ := h
        let J : Nat → Act → World → Prop := fun n a' w' => ∃ s' g', inv n s' ∧ Sim Γ s' a'.tmps w' g' ∧ a'.defers = a.defers
        have hex : ∀ (a' : Act) (w' : World), ∃ m : Nat, (∃ n, J n a' w') → J m a' w' ∧ ∀ n, J n a' w' → m ≤ n := by
          intro a' w'
          by_cases he : ∃ n, J n a' w'
          · obtain ⟨m, hm⟩ := least he
            exact ⟨m, fun _ => hm⟩
          · exact ⟨0, fun h => absurd h he⟩
        obtain ⟨μ, hμ0⟩ : ∃ μ : Act → World → Nat, ∀ a' w', (∃ n, J n a' w') → J (μ a' w') a' w' ∧ ∀ n, J n a' w' → μ a' w' ≤ n :=
          ⟨fun a' w' => Classical.choose (hex a' w'), fun a' w' => Classical.choose_spec (hex a' w')⟩
        have hμ : ∀ n a' w', J n a' w' → μ a' w' ≤ n := fun n a' w' hj => (hμ0 a' w' ⟨n, hj⟩).2 n hj
        have hμJ : ∀ a' w', (∃ n, J n a' w') → J (μ a' w') a' w' := fun a' w' he => (hμ0 a' w' he).1
        refine wp_loop (fun a' w' => ∃ n, J n a' w') μ ?_ ?_
        · obtain ⟨g1, hs1⟩ := hs.pres hnb pre
          exact ⟨n0, _, g1, h0, hs1.norm (by omega), rfl⟩
        · intro a1 w1 hI
          obtain ⟨s1, g1, hinv, hs1, hd1⟩ := hμJ a1 w1 hI
          refine ih _ _ _ h1 s1 a1 w1 g1 _ _ hs1 (hround _ s1 hinv) ⟨fun s' a' w' g' hk hs' hd => ?_, fun i s' a' w' g' hk hs' hd => ?_, fun s' a' w' g' hk hs' hd => ?_, fun v s' a' x w' g' hk hs' hd => ?_⟩
          · obtain ⟨pre', n', hlt, hinv'⟩ := hk
            obtain ⟨g2, hs2⟩ := hs'.pres hnb pre'
            have hj : J n' a' w' := ⟨_, g2, hinv', hs2.norm (by omega), by rw [hd, hd1]⟩
            exact ⟨⟨n', hj⟩, Nat.lt_of_le_of_lt (hμ n' a' w' hj) hlt⟩
          · exact hq.ext i s' a' w' g' hk hs' (by rw [hd, hd1])
          · exact hq.ret s' a' w' g' hk hs' (by rw [hd, hd1])
          · exact hq.pan v s' a' x w' g' hk hs' (by rw [hd, hd1])
      · cases hc
  | exit id =>
    intro ann ann' cc hc s a w g q Q hs h hq
    simp only [comp, Option.some.injEq, Prod.mk.injEq] at hc
    obtain ⟨rfl, rfl⟩ := hc
    exact wp_exit (hq.ext id s a w g h hs rfl)
  | ret =>
    intro ann ann' cc hc s a w g q Q hs h hq
    simp only [comp, Option.some.injEq, Prod.mk.injEq] at hc
    obtain ⟨rfl, rfl⟩ := hc
    exact wp_ret (hq.ret s a w g h hs rfl)
  | _ => intro ann ann' cc hc; simp [comp] at hc

/-! ### functions -/
/-- Temporaries in rows of sixteen. -/
def mkT : Nat → List TV → List (List TV)
  | 0, _ => []
  | n + 1, l => pad 16 l :: mkT n (dropN 16 l)
where
  pad : Nat → List TV → List TV
    | 0, _ => []
    | n + 1, [] => .un :: pad n []
    | n + 1, v :: l => v :: pad n l
inductive RV where
  | t (i : Nat)
  | cell (i n : Nat) (g : Bool)
def resC1 (P : Program) : ResultVar → Option RV
  | .tmp t => some (.t t)
  | .cell a t => match sizeT P t, aggT P t with | some n, some g => some (.cell a n g) | _, _ => none
def resC (P : Program) : List ResultVar → Option (List RV)
  | [] => some []
  | r :: l => match resC1 P r, resC P l with | some a, some b => some (a :: b) | _, _ => none
def res1 (s : AS) : RV → Option TV
  | .t i => some (getT s.t i)
  | .cell i n g => match getT s.t i with
    | .ptr pl _ 0 j => (match nthO s.h pl.root, pl.path with
      | some (.box cs), [] => ldCells cs j n g
      | _, _ => none)
    | _ => none
def resL (s : AS) : List RV → Option (List TV)
  | [] => some []
  | r :: l => match res1 s r, resL s l with | some a, some b => some (a :: b) | _, _ => none
def resV (s : AS) (rs : List RV) : Option TV :=
  match resL s rs with
  | some [v] => some v
  | some l => some (.tup l)
  | none => none
/-- What comes out of a function. -/
def fin (m : Nat) (h : List Ob) (v : TV) (mk : TV → List Ob → Out) : Out := mk (killV (fun pl => Nat.ble m pl.root) v) (mapH (killL fun pl => Nat.ble m pl.root) (takeH m h))
def finR (m : Nat) (rs : List RV) (s : AS) (out : Out) : Prop :=
  match resV s rs with
  | some v => fin m s.h v .ret = out
  | none => False
def post (LE : PE → List (List PV)) (nb : Nat) (rs : List RV) (out : Out) : AX → AS → Prop
  | .nrm, s => ∃ pre m, nb ≤ m ∧ finR m rs (s.pres LE nb pre) out
  | .ret, s => ∃ pre m, nb ≤ m ∧ finR m rs (s.pres LE nb pre) out
  | .pan v, s => ∃ m, nb ≤ m ∧ fin m s.h v .pan = out
  | .ext _, _ => False

theorem pad_get : ∀ (n : Nat) (l : List TV) (i : Nat), (mkT.pad n l).getD i .un = l.getD i .un ∨ (mkT.pad n l).getD i .un = .un ∧ n ≤ i
  | 0, l, i => .inr ⟨by simp [mkT.pad], by omega⟩
  | n + 1, [], 0 => .inl (by simp [mkT.pad])
  | n + 1, [], i + 1 => by
    rcases pad_get n [] i with h | ⟨h, h2⟩
    · left; simpa only [mkT.pad, List.getD_cons_succ, List.getD_nil] using h
    · right; exact ⟨by simpa only [mkT.pad, List.getD_cons_succ] using h, by omega⟩
  | n + 1, v :: l, 0 => .inl (by simp [mkT.pad])
  | n + 1, v :: l, i + 1 => by
    rcases pad_get n l i with h | ⟨h, h2⟩
    · left; simpa only [mkT.pad, List.getD_cons_succ] using h
    · right; exact ⟨by simpa only [mkT.pad, List.getD_cons_succ] using h, by omega⟩
theorem getT_mk : ∀ (k : Nat) (l : List TV) (i : Nat), getT (mkT k l) i = l.getD i .un ∨ getT (mkT k l) i = .un := by
  intro k l i
  have key : ∀ (k : Nat) (l : List TV) (a b : Nat), b < 16 → ((mkT k l).getD a []).getD b .un = l.getD (a * 16 + b) .un ∨ ((mkT k l).getD a []).getD b .un = .un := by
    intro k
    induction k with
    | zero => intro l a b _; right; simp [mkT]
    | succ k ih =>
      intro l a b hb
      cases a with
      | zero =>
        simp only [mkT, List.getD_cons_zero, Nat.zero_mul, Nat.zero_add]
        rcases pad_get 16 l b with h | ⟨h, _⟩
        · exact .inl h
        · exact .inr h
      | succ a =>
        simp only [mkT, List.getD_cons_succ]
        rcases ih (dropN 16 l) a b hb with h | h
        · left
          rw [h, dropN_eq]
          simp only [List.getD_eq_getElem?_getD, List.getElem?_drop]
          rw [show 16 + (a * 16 + b) = (a + 1) * 16 + b by omega]
        · exact .inr h
  unfold getT
  have := key k l (i / 16) (i % 16) (Nat.mod_lt _ (by omega))
  rwa [show i / 16 * 16 + i % 16 = i by omega] at this
end Go.Ab
/- Functions are sound. -/
set_option linter.unusedVariables false
set_option linter.unusedSimpArgs false
namespace Go.Ab

theorem run_loadVar' {P : Program} {w : World} {t : TypeId} {n b o : Nat} {gg : Bool} (hn : sizeT P t = some n) (hg : aggT P t = some gg) (vs : List Value) (hl : vs.length = n)
    (hc : ∀ j v, vs[j]? = some v → w.cell? ⟨b, o + j, none⟩ = some v) {x : Value} (hx : if gg then x = .agg vs.toArray else vs = [x]) :
    (loadVar t ⟨b, o, none⟩).run P w = .ok x w := by
  have hadd : ∀ j, (⟨b, o, none⟩ : Addr).add j = ⟨b, o + j, none⟩ := fun j => Addr.add_mid b o j
  unfold sizeT at hn
  unfold aggT at hg
  simp only [Option.map_eq_some_iff] at hn hg
  obtain ⟨i, hi, hin⟩ := hn
  obtain ⟨d, hd, hdg⟩ := hg
  have hagg : (isAgg t).run P w = .ok gg w := by
    unfold isAgg
    rw [Sem.run_bind, run_underlying hd w]
    subst hdg
    cases d <;> rfl
  cases gg with
  | true =>
    simp only [if_true] at hx
    subst hx
    have hl2 : (loadCells ⟨b, o, none⟩ vs.length).run P w = .ok vs.toArray w :=
      run_loadCells_list (P := P) w ⟨b, o, none⟩ vs (fun j v hv => by rw [hadd]; exact hc j v hv)
    simp [loadVar, hagg, sizeOf, typeInfo, hi, hin, ← hl, hl2]
  | false =>
    simp only [Bool.false_eq_true, if_false] at hx
    subst hx
    have h0 := hc 0 x rfl
    simp only [Nat.add_zero] at h0
    simp [loadVar, hagg, h0]

section
variable {P : Program} {Γ : Ctx} {s : AS} {tm : Array Value} {w : World} {g : G}

def resRun (tm : Array Value) : ResultVar → Sem Value
  | .tmp t => pure (tm.getD t undef)
  | .cell a t => do loadVar t (← asAddr (tm.getD a undef))

theorem res1_sound (hs : Sim Γ s tm w g) {r : ResultVar} {rv : RV} {v : TV} (hc : resC1 P r = some rv) (h : res1 s rv = some v) : ∃ x, (resRun tm r).run P w = .ok x w ∧ TR w g v x ∧ RefV s.h v := by
  cases r with
  | tmp t =>
    simp only [resC1, Option.some.injEq] at hc
    subst hc
    simp only [res1, Option.some.injEq] at h
    subst h
    exact ⟨tm.getD t undef, rfl, hs.tmp t, hs.refT t⟩
  | cell ad t =>
    simp only [resC1] at hc
    split at hc
    · rename_i n gg hn hg
      simp only [Option.some.injEq] at hc
      subst hc
      simp only [res1] at h
      split at h
      · rename_i pl z j he
        split at h
        · rename_i cs hob hpath
          have hv := hs.tmp ad
          rw [he] at hv
          generalize hev : tm.getD ad undef = ax at hv
          cases hv with
          | ptr =>
            obtain ⟨cur, ty, fr, hb, hf, vs, hvs, hk⟩ := hs.hok.ob _ _ hob
            have hpl : (⟨pl.root, []⟩ : Place) = pl := by cases pl; simp_all
            rw [hpl] at hb
            obtain ⟨h1, h2⟩ := ldCells_eq h
            have hv2 := (hvs.drop j).take n
            have hl2 : ((vs.drop j).take n).length = n := by rw [← hv2.length]; exact h1
            have hcc : ∀ i x, ((vs.drop j).take n)[i]? = some x → w.cell? ⟨g.β pl, 0 * z + j + i, none⟩ = some x := by
              intro i x hx
              have hx' : vs[j + i]? = some x := by
                rw [List.getElem?_take] at hx
                split at hx
                · simpa using hx
                · cases hx
              rw [cell_cells hb]
              simpa using hk (j + i) x hx'
            have hasA : (asAddr (.pointer (some ⟨g.β pl, 0 * z + j, none⟩))).run P w = .ok ⟨g.β pl, 0 * z + j, none⟩ w := by simp [asAddr]
            have hr : ∀ i ∈ plsL cs, OkP s.h i := fun i hi => hs.refH _ _ hob i (by simpa [plsOb] using hi)
            cases gg with
            | true =>
              simp only [if_true] at h2
              subst h2
              refine ⟨.agg ((vs.drop j).take n).toArray, ?_, .agg _ _ hv2, fun i hi => ?_⟩
              · simp only [resRun, hev, Sem.run_bind, hasA, Result.andThen_ok]
                exact run_loadVar' hn hg _ hl2 hcc (by simp)
              · simp only [plsV] at hi
                obtain ⟨u, hu, hiu⟩ := plsL_mem.1 hi
                exact hr i (plsL_mem.2 ⟨u, List.mem_of_mem_drop (List.mem_of_mem_take hu), hiu⟩)
            | false =>
              simp only [Bool.false_eq_true, if_false] at h2
              obtain ⟨rfl, h3⟩ := h2
              obtain ⟨x, hx, htr⟩ := hvs.get h3
              have hone : (vs.drop j).take 1 = [x] := by
                rw [List.take_one]
                simp [hx]
              refine ⟨x, ?_, htr, fun i hi => hr i (plsL_mem.2 ⟨v, List.mem_of_getElem? h3, hi⟩)⟩
              simp only [resRun, hev, Sem.run_bind, hasA, Result.andThen_ok]
              exact run_loadVar' hn hg _ hl2 hcc (by simp [hone])
        · cases h
      · cases h
    · cases hc

theorem resL_sound (hs : Sim Γ s tm w g) : ∀ {rs : List ResultVar} {rvs : List RV} {vs : List TV}, resC P rs = some rvs → resL s rvs = some vs →
    ∃ xs, (rs.mapM (resRun tm)).run P w = .ok xs w ∧ TRL w g vs xs ∧ ∀ v ∈ vs, RefV s.h v
  | [], rvs, vs, hc, h => by
    simp only [resC, Option.some.injEq] at hc
    subst hc
    simp only [resL, Option.some.injEq] at h
    subst h
    exact ⟨[], rfl, .nil, by simp⟩
  | r :: rs, rvs, vs, hc, h => by
    simp only [resC] at hc
    split at hc
    · rename_i rv rvs' h1 h2
      simp only [Option.some.injEq] at hc
      subst hc
      simp only [resL] at h
      split at h
      · rename_i v vs' h3 h4
        simp only [Option.some.injEq] at h
        subst h
        obtain ⟨x, e1, e2, e3⟩ := res1_sound hs h1 h3
        obtain ⟨xs, e4, e5, e6⟩ := resL_sound hs h2 h4
        refine ⟨x :: xs, ?_, .cons _ _ _ _ e2 e5, ?_⟩
        · rw [List.mapM_cons]
          simp only [Sem.run_bind, e1, e4, Result.andThen_ok, Sem.run_pure]
        · intro u hu
          rcases List.mem_cons.1 hu with rfl | hu
          · exact e3
          · exact e6 u hu
      · cases h
    · cases hc

theorem res_sound (hs : Sim Γ s tm w g) {fn : Func} {rvs : List RV} {v : TV} (hc : resC P fn.results.toList = some rvs) (h : resV s rvs = some v) :
    ∃ x, (results fn tm).run P w = .ok x w ∧ TR w g v x ∧ RefV s.h v := by
  have hres : results fn tm = (do let vs ← List.toArray <$> (fn.results.toList.mapM (resRun tm)); pure (if h : vs.size = 1 then vs[0] else .tuple vs)) := by
    rw [← Array.mapM_eq_mapM_toList]
    rfl
  rw [hres]
  unfold resV at h
  split at h
  · rename_i u hu
    simp only [Option.some.injEq] at h
    subst h
    obtain ⟨xs, e1, e2, e3⟩ := resL_sound hs hc hu
    cases e2 with
    | cons _ x _ _ e4 e5 =>
      cases e5
      refine ⟨x, ?_, e4, e3 _ (by simp)⟩
      simp only [map_eq_pure_bind, Sem.run_bind, e1, Result.andThen_ok, Sem.run_pure]
      simp
  · rename_i l hne hl
    simp only [Option.some.injEq] at h
    subst h
    obtain ⟨xs, e1, e2, e3⟩ := resL_sound hs hc hl
    refine ⟨.tuple xs.toArray, ?_, .tup _ _ e2, fun π hπ => ?_⟩
    · simp only [map_eq_pure_bind, Sem.run_bind, e1, Result.andThen_ok, Sem.run_pure]
      rw [dif_neg]
      intro h1
      have h2 := e2.length
      simp at h1
      match l, hne with
      | [u], hne => exact hne u rfl
      | [], _ => simp at h2; omega
      | _ :: _ :: _, _ => simp at h2; omega
    · simp only [plsV] at hπ
      obtain ⟨u, hu, h1⟩ := plsL_mem.1 hπ
      exact e3 u hu π h1
  · cases h

theorem fin_sound (hs : Sim Γ s tm w g) {m : Nat} (hm : Γ.h0.length ≤ m) {v : TV} {x : Value} (ht : TR w g v x) (hr : RefV s.h v) {n : Nat} :
    TR w g (killV (fun pl => Nat.ble m pl.root) v) x ∧ HOK w g (mapH (killL fun pl => Nat.ble m pl.root) (takeH m s.h)) ∧ Frm ⟨Γ.w0, Γ.g0, Γ.h0, n⟩ w g (mapH (killL fun pl => Nat.ble m pl.root) (takeH m s.h)) ∧
      RefV (mapH (killL fun pl => Nat.ble m pl.root) (takeH m s.h)) (killV (fun pl => Nat.ble m pl.root) v) ∧ RefH (mapH (killL fun pl => Nat.ble m pl.root) (takeH m s.h)) := by
  have h := hs.norm (live := []) hm
  refine ⟨killV_tr ht, h.hok, ⟨h.frm.os, h.frm.tape, h.frm.output, h.frm.size, h.frm.block, h.frm.vp, h.frm.im0, h.frm.im1, h.frm.root, h.frm.nofree, h.frm.len⟩, fun π hπ => ?_, h.refH⟩
  obtain ⟨h1, h2⟩ := killV_pls v π hπ
  have h3 := hr π h1
  have hl : π.root < m := Nat.lt_of_not_le fun h => by
    have h4 := Nat.ble_eq_true_of_le h
    rw [h4] at h2
    cases h2
  refine OkP_mapH.2 ((OkP_congr ?_).2 h3)
  rw [takeH_eq, nthO_eq, nthO_eq, List.getElem?_take, if_pos hl]
end

/-- A function of Go's text does what its code is shown to do. -/
theorem runs_of_wp {P : Program} {f : FuncId} {fn : Func} {c : Code} {cc : CC} {ann : List (List Nat)} {rs : List RV} {vs : List TV} {h : List Ob} {out : Out} (nm : Nat)
    (hf : P.funcs[f]? = some fn) (hb : fn.body = some c) (hname : (fn.name == "runtime.NumGoroutine") = false) (hcomp : comp P fn.ntmps c ann = some (cc, [])) (hres : resC P fn.results.toList = some rs) (har : vs.length ≤ fn.ntmps)
    (hw : wp stdI stdB stdE (Runs P) h.length cc ⟨mkT nm vs, h⟩ (post stdE h.length rs out)) : Runs P f vs h out := by
  constructor
  intro w g xs hv hk hrv hrh hnf
  unfold Does
  rw [run_callFunc hf hb hname]
  have hlen := hv.length
  refine calls_of_wp hf hb ?_
  have hsz : (xs.toArray ++ Array.replicate (fn.ntmps - xs.toArray.size) undef).size = fn.ntmps := by simp; omega
  have hmem : ∀ (i : Nat) (v : TV), vs[i]? = some v → v ∈ vs := fun i v e => List.mem_of_getElem? e
  have hs0 : Sim ⟨w, g, h, fn.ntmps⟩ ⟨mkT nm vs, h⟩ (xs.toArray ++ Array.replicate (fn.ntmps - xs.toArray.size) undef) w g := by
    refine ⟨fun i => ?_, hsz, hk, ⟨rfl, rfl, rfl, Nat.le_refl _, fun _ _ _ => rfl, fun π v => .inl ⟨π, v, rfl⟩, fun _ h => h, fun _ h => .inl h, fun _ _ => ⟨rfl, rfl⟩, fun r _ => hnf r, Nat.le_refl _⟩, fun i => ?_, hrh⟩
    · rcases getT_mk nm vs i with e | e
      · simp only [e]
        cases e2 : vs[i]? with
        | none => simp only [List.getD_eq_getElem?_getD, e2, Option.getD_none]; exact .un _
        | some v =>
          obtain ⟨x, hx, ht⟩ := hv.get e2
          simp only [List.getD_eq_getElem?_getD, e2, Option.getD_some]
          have : (xs.toArray ++ Array.replicate (fn.ntmps - xs.toArray.size) undef).getD i undef = x := by
            have hi : i < xs.length := (List.getElem?_eq_some_iff.1 hx).1
            have hxi : xs[i] = x := (List.getElem?_eq_some_iff.1 hx).2
            simp only [Array.getD_eq_getD_getElem?]
            rw [Array.getElem?_append_left (by simpa using hi)]
            simp [hi, hxi]
          rw [this]; exact ht
      · simp only [e]; exact .un _
    · show RefV h (getT (mkT nm vs) i)
      rcases getT_mk nm vs i with e | e
      · rw [e]
        cases e2 : vs[i]? with
        | none => simp only [List.getD_eq_getElem?_getD, e2, Option.getD_none]; intro π hπ; simp [plsV] at hπ
        | some v => simp only [List.getD_eq_getElem?_getD, e2, Option.getD_some]; exact hrv v (hmem i v e2)
      · rw [e]; intro π hπ; simp [plsV] at hπ
  have hret : ∀ (s : AS) (a : Act) (w' : World) (g' : G), (∃ pre m, h.length ≤ m ∧ finR m rs (s.pres stdE h.length pre) out) → Sim ⟨w, g, h, fn.ntmps⟩ s a.tmps w' g' → a.defers = [] →
      a.defers = [] ∧ ∃ v, (results fn a.tmps).run P w' = .ok v w' ∧ OutR ⟨w, g, h, 0⟩ w' (.returned v) out := by
    rintro s a w' g' ⟨pre, m, hm, hfin⟩ hs hd
    obtain ⟨g1, hs1⟩ := hs.pres (nb := h.length) (Nat.le_refl _) pre
    unfold finR at hfin
    split at hfin
    · rename_i v hv
      obtain ⟨x, e1, e2, e3⟩ := res_sound hs1 hres hv
      obtain ⟨f1, f2, f3, f4, f5⟩ := fin_sound hs1 hm e2 e3 (n := 0)
      subst hfin
      exact ⟨hd, x, e1, x, g1, rfl, f1, f2, f3, f4, f5⟩
    · exact hfin.elim
  refine code_sound (Γ := ⟨w, g, h, fn.ntmps⟩) (Nat.le_refl _) c ann [] cc hcomp _ _ w g _ _ hs0 hw ⟨fun s a w' g' hq hs hd => ?_, fun id s a w' g' hq hs hd => ?_, fun s a w' g' hq hs hd => ?_, fun v s a x w' g' hq hs hd => ?_⟩
  · exact hret s a w' g' hq hs hd
  · exact hq.elim
  · exact hret s a w' g' hq hs hd
  · obtain ⟨m, hm, e⟩ := hq
    obtain ⟨f1, f2, f3, f4, f5⟩ := fin_sound hs.1 hm hs.2.1 hs.2.2 (n := 0)
    unfold fin at e
    subst e
    exact ⟨hd, x, g', rfl, f1, f2, f3, f4, f5⟩
end Go.Ab
/- Words for the proofs of functions. -/
set_option linter.unusedVariables false
set_option linter.unusedSimpArgs false
namespace Go.Ab

/-! ### lengths -/
mutual
def PV.lens : PV → Prop
  | .str s => s.length ≤ 9223372036854775807
  | .isl _ _ els => els.length ≤ 9223372036854775807 ∧ lensEs els
  | .own _ _ els => True
  | .ifs _ c => c.lens
  | .ifa _ cs => lensC cs
  | _ => True
def lensC : List PV → Prop
  | [] => True
  | c :: l => c.lens ∧ lensC l
def lensEs : List (List PV) → Prop
  | [] => True
  | e :: l => lensC e ∧ lensEs l
end
mutual
def TV.lens : TV → Prop
  | .p c => c.lens
  | .agg cs => lensL cs
  | .sl _ _ _ _ len => 0 ≤ len ∧ len ≤ 9223372036854775807
  | .fn _ cs => lensL cs
  | .cptr cs _ => lensC cs
  | _ => True
def lensL : List TV → Prop
  | [] => True
  | v :: l => v.lens ∧ lensL l
end
theorem lensC_of {l : List PV} (h : ∀ (i : Nat) (c : PV), l[i]? = some c → c.lens) : lensC l := by
  induction l with
  | nil => trivial
  | cons a l ih => exact ⟨h 0 a rfl, ih fun i c hc => h (i + 1) c (by simpa using hc)⟩
theorem lensEs_of {l : List (List PV)} (h : ∀ i j c, at2 l i j = some c → c.lens) : lensEs l := by
  induction l with
  | nil => trivial
  | cons a l ih => exact ⟨lensC_of fun j c hc => h 0 j c (by simpa [at2] using hc), ih fun i j c hc => h (i + 1) j c (by simpa [at2] using hc)⟩
theorem IR.lens {w : World} {Im : Nat → Prop} {c : PV} {x : Value} (h : IR w Im c x) : c.lens := by
  induction h with
  | int k n => trivial
  | bool b => trivial
  | str l h => exact h
  | isl0 z => exact ⟨by simp, trivial⟩
  | isl1 z els a cap vs hs hI hl hm hz hc hr ih => exact ⟨Nat.le_trans hl hm, lensEs_of fun i j c hc => ih i j c hc⟩
  | nilp => trivial
  | nilf => trivial
  | nili => trivial
  | nilm => trivial
  | fn f => trivial
  | ifs t c x h ih => exact ih
  | ifa t cs vs h ih => exact lensC_of fun i c hc => ih i c hc
  | any x h => trivial
mutual
theorem TR.lens {w : World} {g : G} {v : TV} {x : Value} (h : TR w g v x) : v.lens := by
  cases h with
  | un x => trivial
  | p c x h => exact h.lens
  | agg cs vs h => exact TRL.lens h
  | ptr pl z i j => trivial
  | cptr cs j b o vs hI hc hr => exact lensC_of fun i c hc => (hr i c hc).lens
  | sl0 pl z => exact ⟨by omega, by omega⟩
  | sl1 pl z off len cap hl hm hc hN =>
    refine ⟨by omega, ?_⟩
    have : len ≤ 9223372036854775807 := Nat.le_trans hl hm
    omega
  | fn f cs vs h => exact TRL.lens h
  | tup cs vs h => trivial
  | map id => trivial
  | ifv t v x h => trivial
theorem TRL.lens {w : World} {g : G} {cs : List TV} {vs : List Value} (h : TRL w g cs vs) : lensL cs := by
  cases h with
  | nil => trivial
  | cons v x cs vs h hs => exact ⟨TR.lens h, TRL.lens hs⟩
end
/-- What is handed in is no longer than may be. -/
theorem runs_len {P : Program} {f : FuncId} {vs : List TV} {h : List Ob} {out : Out} (hr : lensL vs → Runs P f vs h out) : Runs P f vs h out :=
  ⟨fun w g xs h1 h2 h3 h4 h5 => (hr h1.lens).run w g xs h1 h2 h3 h4 h5⟩
theorem lensEs_at {l : List (List PV)} (h : lensEs l) {i : Nat} {e : List PV} (he : l[i]? = some e) : lensC e := by
  induction l generalizing i with
  | nil => simp at he
  | cons a l ih =>
    cases i with
    | zero => simp only [List.getElem?_cons_zero, Option.some.injEq] at he; subst he; exact h.1
    | succ i => exact ih h.2 (by simpa using he)

/-! ### numbers -/
theorem I_len (l : List (List PV)) : stdI (.len l) = l.length := rfl
theorem I_slen (l : List UInt8) : stdI (.slen l) = l.length := rfl
theorem I_add {a b : Int} (h : -9223372036854775808 ≤ a + b ∧ a + b ≤ 9223372036854775807) : stdI (.ari .add .i64 a b) = a + b := IntWalk.i64_in _ h
theorem I_sub {a b : Int} (h : -9223372036854775808 ≤ a - b ∧ a - b ≤ 9223372036854775807) : stdI (.ari .sub .i64 a b) = a - b := IntWalk.i64_in _ h
theorem I_inc {k : Nat} (h : k < 9223372036854775807) : stdI (.ari .add .i64 k 1) = ((k + 1 : Nat) : Int) := by rw [I_add (by omega)]; omega
theorem B_lss (a b : Int) : stdB (.cmp .lss a b) = decide (a < b) := rfl
theorem B_eql (a b : Int) : stdB (.cmp .eql a b) = (a == b) := rfl
theorem B_neq (a b : Int) : stdB (.cmp .neq a b) = (a != b) := rfl
theorem B_leq (a b : Int) : stdB (.cmp .leq a b) = decide (a ≤ b) := rfl
theorem B_gtr (a b : Int) : stdB (.cmp .gtr a b) = decide (a > b) := rfl
theorem B_geq (a b : Int) : stdB (.cmp .geq a b) = decide (a ≥ b) := rfl
theorem B_not (a : Bool) : stdB (.not a) = !a := rfl
theorem B_eq (a b : Bool) : stdB (.eq a b) = (a == b) := rfl
theorem B_and (a b : Bool) : stdB (.and a b) = (a && b) := rfl
theorem B_seq (a b : List UInt8) : stdB (.scmp .eql a b) = (a == b) := rfl
end Go.Ab
/- Laws: arguments that are read as data. -/
set_option linter.unusedVariables false
set_option linter.unusedSimpArgs false
namespace Go.Ab
open Go.ChangeShapes Go.WideShapes Go.ChangeAt Go.RowKit

/-- What bounds the slices and texts of data, by B. -/
structure Fit {H : Type} (P : Program) (B : Nat) (Q : TypeId → DataW H → Prop) : Prop where
  str : ∀ (t : TypeId) (s : List UInt8), Q t (.lit (.string s)) → s.length ≤ B
  sl : ∀ (t e : TypeId) (elems spare : List (DataW H)), P.underlying t = some (.slice e) → 0 < P.bytesOf e → Q t (.slice elems spare) → elems.length ≤ B ∧ ∀ d ∈ elems, Q e d
  st : ∀ (t : TypeId) (fs : Array Field) (parts : List (DataW H)), P.underlying t = some (.struct fs) → Q t (.agg parts) → ∀ (i : Nat) (f : Field) (d : DataW H), fs[i]? = some f → parts[i]? = some d → Q f.type d
  ar : ∀ (t : TypeId) (m : Nat) (e : TypeId) (parts : List (DataW H)), P.underlying t = some (.array m e) → Q t (.agg parts) → ∀ d ∈ parts, Q e d
theorem map_mem {α β : Type} {xs : List (α × β)} {i : Nat} {x : α × β} (e : xs[i]? = some x) : x.1 ∈ xs.map (·.1) :=
  List.mem_map.2 ⟨x, List.mem_of_getElem? e, rfl⟩
theorem map_at {α β : Type} {xs : List (α × β)} {i : Nat} {x : α × β} (e : xs[i]? = some x) : (xs.map (·.1))[i]? = some x.1 := by
  rw [List.getElem?_map, e]; rfl
def WTF (g : TypeId → List PV → Prop) : List TypeId → List PV → Prop
  | [], pvs => pvs = []
  | t :: ts, pvs => ∃ a b, pvs = a ++ b ∧ g t a ∧ WTF g ts b
/-- Cells of a type. -/
def WT (P : Program) (B : Nat) : Nat → TypeId → List PV → Prop
  | 0, _, _ => False
  | n + 1, t, pvs => match P.underlying t with
    | some (.int k) => ∃ m, pvs = [.int k m] ∧ k.min ≤ m ∧ m ≤ k.max
    | some .bool => ∃ b, pvs = [.bool b]
    | some .string => ∃ l, pvs = [.str l] ∧ l.length ≤ B
    | some (.slice e) => ∃ nn els, pvs = [.isl nn (P.cellsOf e) els] ∧ (nn = false → els = []) ∧ els.length ≤ B ∧ ∀ x ∈ els, WT P B n e x
    | some (.struct fs) => WTF (WT P B n) (fs.toList.map (·.type)) pvs
    | some (.array m e) => WTF (WT P B n) (List.replicate m e) pvs
    | _ => False
def contigF (P : Program) : List Field → Nat → Nat → Bool
  | [], off, tot => off == tot
  | f :: fs, off, tot => f.offset == off && contigF P fs (off + P.cellsOf f.type) tot
/-- Types of data alone. -/
def okTy (P : Program) : Nat → TypeId → Bool
  | 0, _ => false
  | n + 1, t => match P.underlying t with
    | some (.int _) => true
    | some .bool => true
    | some .string => true
    | some (.slice e) => Nat.blt 0 (P.cellsOf e) && Nat.blt 0 (P.bytesOf e) && okTy P n e
    | some (.struct fs) => contigF P fs.toList 0 (P.cellsOf t) && fs.toList.all fun f => okTy P n f.type
    | some (.array m e) => Nat.beq (m * P.cellsOf e) (P.cellsOf t) && okTy P n e
    | _ => false

section
variable {H : Type} {enc : TypeId × Value → H} {P : Program} {W : World} {B : Nat} {Q : TypeId → DataW H → Prop}

/-- Cells of values, as told. -/
def IRs (W : World) (pvs : List PV) (cs : List Value) : Prop := pvs.length = cs.length ∧ ∀ (i : Nat) (c : PV), pvs[i]? = some c → ∃ x, cs[i]? = some x ∧ IR W (fun b => b < W.heap.size) c x
theorem IRs.one {c : PV} {x : Value} (h : IR W (fun b => b < W.heap.size) c x) : IRs W [c] [x] := ⟨rfl, fun i c' hc => by
  cases i with
  | zero => simp only [List.getElem?_cons_zero, Option.some.injEq] at hc; subst hc; exact ⟨x, rfl, h⟩
  | succ i => simp at hc⟩
theorem IRs.app {a b : List PV} {x y : List Value} (h1 : IRs W a x) (h2 : IRs W b y) : IRs W (a ++ b) (x ++ y) := by
  refine ⟨by simp [h1.1, h2.1], fun i c hc => ?_⟩
  by_cases hi : i < a.length
  · rw [List.getElem?_append_left hi] at hc
    rw [List.getElem?_append_left (by rw [← h1.1]; exact hi)]
    exact h1.2 i c hc
  · rw [List.getElem?_append_right (by omega)] at hc
    rw [List.getElem?_append_right (by rw [← h1.1]; omega), ← h1.1]
    exact h2.2 _ c hc

theorem fields_ir {g : TypeId → List Value → Option (DataW H × List MemPlace)} {n : Nat} (ih : ∀ t cs x, g t cs = some x → Q t x.1 → okTy P n t = true → ∃ pvs, WT P B n t pvs ∧ IRs W pvs cs) {cs : List Value} : ∀ (fs : List Field) (off : Nat),
    (∀ f ∈ fs, ∃ x, g f.type ((cs.drop f.offset).take (P.cellsOf f.type)) = some x ∧ Q f.type x.1) → contigF P fs off cs.length = true → (fs.all fun f => okTy P n f.type) = true → ∃ pvs, WTF (WT P B n) (fs.map (·.type)) pvs ∧ IRs W pvs (cs.drop off)
  | [], off, _, hc, _ => by
    simp only [contigF, beq_iff_eq] at hc
    exact ⟨[], rfl, by simp [hc], by simp⟩
  | f :: fs, off, h, hc, ho => by
    obtain ⟨y, h1, hl1⟩ := h f (by simp)
    simp only [contigF, Bool.and_eq_true, beq_iff_eq] at hc
    simp only [List.all_cons, Bool.and_eq_true] at ho
    obtain ⟨a, a1, a2⟩ := ih _ _ _ h1 hl1 ho.1
    obtain ⟨b, b1, b2⟩ := fields_ir ih fs _ (fun f hf => h f (List.mem_cons_of_mem _ hf)) hc.2 ho.2
    refine ⟨a ++ b, ⟨a, b, rfl, a1, b1⟩, ?_⟩
    have := a2.app b2
    rw [hc.1] at this
    have e : (cs.drop off).take (P.cellsOf f.type) ++ cs.drop (off + P.cellsOf f.type) = cs.drop off := by
      rw [← List.drop_drop, List.take_append_drop]
    rwa [e] at this

theorem elems_ir {g : TypeId → List Value → Option (DataW H × List MemPlace)} {n : Nat} {e : TypeId} (ih : ∀ t cs x, g t cs = some x → Q t x.1 → okTy P n t = true → ∃ pvs, WT P B n t pvs ∧ IRs W pvs cs) (he : okTy P n e = true) {cs : List Value} {M : Nat}
    (h : ∀ i, i < M → ∃ x, g e ((cs.drop (i * P.cellsOf e)).take (P.cellsOf e)) = some x ∧ Q e x.1) (hl : M * P.cellsOf e = cs.length) : ∀ (m i : Nat), i + m = M → ∃ pvs, WTF (WT P B n) (List.replicate m e) pvs ∧ IRs W pvs (cs.drop (i * P.cellsOf e))
  | 0, i, hm => by
    refine ⟨[], rfl, ?_⟩
    have : i = M := by omega
    rw [this, hl]
    exact ⟨by simp, by simp⟩
  | m + 1, i, hm => by
    obtain ⟨y, h1, hl1⟩ := h i (by omega)
    obtain ⟨a, a1, a2⟩ := ih _ _ _ h1 hl1 he
    obtain ⟨b, b1, b2⟩ := elems_ir ih he h hl m (i + 1) (by omega)
    refine ⟨a ++ b, ⟨a, b, rfl, a1, b1⟩, ?_⟩
    have := a2.app b2
    have e2 : (cs.drop (i * P.cellsOf e)).take (P.cellsOf e) ++ cs.drop ((i + 1) * P.cellsOf e) = cs.drop (i * P.cellsOf e) := by
      rw [Nat.add_mul, Nat.one_mul, ← List.drop_drop, List.take_append_drop]
    rwa [e2] at this

theorem wf_int {k : IntKind} {n : Int} (h : (Lit.int k n).wf = true) : k.min ≤ n ∧ n ≤ k.max := by simpa [Lit.wf] using h

theorem trod_ir (hQ : Fit P B Q) : ∀ (fuel n : Nat) (t : TypeId) (cs : List Value) (x : DataW H × List MemPlace), DataW.trod enc P W 0 (fun _ => true) true fuel t cs = some x → Q t x.1 → okTy P n t = true → ∃ pvs, WT P B n t pvs ∧ IRs W pvs cs := by
  intro fuel
  induction fuel with
  | zero => intro n t cs x h _; simp [DataW.trod] at h
  | succ fuel ih =>
    intro n t cs x h hlD ho
    cases n with
    | zero => simp [okTy] at ho
    | succ n =>
      simp only [okTy] at ho
      split at ho
      · rename_i k ht
        obtain ⟨m, rfl, rfl, hw⟩ := DataW.trod_int ht h
        obtain ⟨h1, h2⟩ := wf_int hw
        exact ⟨[.int k m], by simp only [WT, ht]; exact ⟨m, rfl, h1, h2⟩, .one (.int k m)⟩
      · rename_i ht
        obtain ⟨b, rfl, rfl⟩ := DataW.trod_bool ht h
        exact ⟨[.bool b], by simp only [WT, ht]; exact ⟨b, rfl⟩, .one (.bool b)⟩
      · rename_i ht
        obtain ⟨s, rfl, rfl, hsz⟩ := DataW.trod_string ht h
        have : s = ⟨s.data.toList.toArray⟩ := by simp
        refine ⟨[.str s.data.toList], by simp only [WT, ht]; exact ⟨_, rfl, hQ.str _ _ hlD⟩, ?_⟩
        have h2 := IR.str (w := W) (Im := fun b => b < W.heap.size) s.data.toList (by rw [Array.length_toList]; exact hsz)
        rw [← this] at h2
        exact .one h2
      · rename_i e ht
        simp only [Bool.and_eq_true, Nat.blt_eq] at ho
        rcases DataW.trod_slice ht h with ⟨rfl, rfl⟩ | ⟨a, len, cap, elems, rest, m, hm, rfl, rfl, _, hlc, hcm, hel, hget, _, _⟩
        · exact ⟨[.isl false (P.cellsOf e) []], by simp only [WT, ht]; exact ⟨false, [], rfl, fun _ => rfl, Nat.zero_le _, by simp⟩, .one (.isl0 _)⟩
        · obtain rfl : fuel = m := by omega
          have key : ∀ i, ∃ (pvs : List PV) (cs' : List Value), i < len → WT P B n e pvs ∧ IRs W pvs cs' ∧ cs'.length = P.cellsOf e ∧ ∀ j v, cs'[j]? = some v → W.cell? ((a.add (i * P.cellsOf e)).add j) = some v := by
            intro i
            by_cases hi : i < len
            · have h1 := hget i hi
              have h2 : elems[i]? = some elems[i] := List.getElem?_eq_getElem (by omega)
              rw [h2] at h1
              obtain ⟨cs', h3, h4⟩ := Option.bind_eq_some_iff.1 h1
              obtain ⟨pvs, h5, h6⟩ := ih n e cs' _ h4 ((hQ.sl _ _ _ _ ht ho.1.2 hlD).2 _ (map_mem h2)) ho.2
              unfold World.cells? at h3
              rw [if_pos (Nat.zero_le _)] at h3
              have hl := mapM_some_length h3
              refine ⟨pvs, cs', fun _ => ⟨h5, h6, by simpa using hl, fun j v hv => ?_⟩⟩
              have hj : j < cs'.length := (List.getElem?_eq_some_iff.1 hv).1
              have := mapM_some_get h3 j j (by rw [List.length_range] at hl; exact List.getElem?_range (by omega))
              rw [this, hv]
            · exact ⟨[], [], fun h => absurd h hi⟩
          obtain ⟨pf, hpf⟩ : ∃ pf : Nat → List PV × List Value, ∀ i, i < len → WT P B n e (pf i).1 ∧ IRs W (pf i).1 (pf i).2 ∧ (pf i).2.length = P.cellsOf e ∧ ∀ j v, (pf i).2[j]? = some v → W.cell? ((a.add (i * P.cellsOf e)).add j) = some v := by
            refine ⟨fun i => (Classical.choose (key i), Classical.choose (Classical.choose_spec (key i))), fun i hi => ?_⟩
            exact Classical.choose_spec (Classical.choose_spec (key i)) hi
          have hels : ∀ i c, at2 ((List.range len).map fun i => (pf i).1) i c = at2 ((List.range len).map fun i => (pf i).1) i c := fun _ _ => rfl
          have hlen : ((List.range len).map fun i => (pf i).1).length = len := by simp
          have hat : ∀ i j c, at2 ((List.range len).map fun i => (pf i).1) i j = some c → i < len ∧ (pf i).1[j]? = some c := by
            intro i j c hc
            unfold at2 at hc
            by_cases hi : i < len
            · simp only [List.getElem?_map, List.getElem?_range hi, Option.map_some, Option.bind_some] at hc
              exact ⟨hi, hc⟩
            · rw [List.getElem?_eq_none (by simp; omega)] at hc
              simp at hc
          have hcell : ∀ i j c, at2 ((List.range len).map fun i => (pf i).1) i j = some c → ∃ v, (pf i).2[j]? = some v ∧ W.cell? ((a.add (i * P.cellsOf e)).add j) = some v ∧ IR W (fun b => b < W.heap.size) c v := by
            intro i j c hc
            obtain ⟨hi, hc⟩ := hat i j c hc
            obtain ⟨h1, h2, h3, h4⟩ := hpf i hi
            obtain ⟨v, hv, hir⟩ := h2.2 j c hc
            exact ⟨v, hv, h4 j v hv, hir⟩
          have hspot : ((List.range len).map fun i => (pf i).1) ≠ [] → a.spot = none ∧ a.block < W.heap.size := by
            intro hne
            have hl0 : 0 < len := by
              rcases Nat.eq_zero_or_pos len with h | h
              · subst h; simp at hne
              · exact h
            obtain ⟨_, _, h3, h4⟩ := hpf 0 hl0
            have h5 : (pf 0).2[0]? = some (pf 0).2[0] := List.getElem?_eq_getElem (by omega)
            have h6 := h4 0 _ h5
            have e0 : (a.add (0 * P.cellsOf e)).add 0 = a := by simp [Addr.add]
            rw [e0] at h6
            unfold World.cell? at h6
            split at h6
            · rename_i hb
              refine ⟨?_, (Array.getElem?_eq_some_iff.1 hb).1⟩
              cases hs : a.spot with
              | none => rfl
              | some _ => rw [hs] at h6; simp at h6
            · cases h6
          refine ⟨[.isl true (P.cellsOf e) ((List.range len).map fun i => (pf i).1)], by
            simp only [WT, ht]
            refine ⟨true, _, rfl, fun h => (by cases h), by rw [hlen, ← hel]; simpa using (hQ.sl _ _ _ _ ht ho.1.2 hlD).1, fun x hx => ?_⟩
            obtain ⟨i, hi, rfl⟩ := List.mem_map.1 hx
            exact (hpf i (List.mem_range.1 hi)).1, .one ?_⟩
          have := IR.isl1 (w := W) (Im := fun b => b < W.heap.size) (P.cellsOf e) ((List.range len).map fun i => (pf i).1) a cap (fun i j => ((pf i).2[j]?).getD undef) (fun h => (hspot h).1) (fun h => (hspot h).2) (by rw [hlen]; exact hlc) hcm
            (fun x hx => by
              obtain ⟨i, hi, rfl⟩ := List.mem_map.1 hx
              obtain ⟨_, h2, h3, _⟩ := hpf i (List.mem_range.1 hi)
              rw [h2.1, h3]) (fun i j c hc => by
              obtain ⟨v, h1, h2, h3⟩ := hcell i j c hc
              have hne : ((List.range len).map fun i => (pf i).1) ≠ [] := by rintro h; rw [h] at hc; simp [at2] at hc
              have hsp := (hspot hne).1
              obtain ⟨b, off, sp⟩ := a
              simp only at hsp
              subst hsp
              simp only [Addr.add_mid] at h2
              rw [h1, Nat.add_assoc] at *
              simpa using h2) (fun i j c hc => by
              obtain ⟨v, h1, h2, h3⟩ := hcell i j c hc
              rw [h1]; exact h3)
          rwa [hlen] at this
      · rename_i fs ht
        simp only [Bool.and_eq_true] at ho
        obtain ⟨xs, m, hm, rfl, hl, hxs, hget⟩ := DataW.trod_struct ht h
        obtain rfl : fuel = m := by omega
        obtain ⟨pvs, h1, h2⟩ := fields_ir (W := W) (n := n) (fun t cs x h1 h2 => ih n t cs x h1 h2) fs.toList 0 (fun f hf => by
          obtain ⟨i, hi, rfl⟩ := List.getElem_of_mem hf
          have hi' : i < fs.size := by simpa using hi
          have := hget i fs.toList[i] (by simp [hi'])
          rw [this]
          have e := List.getElem?_eq_getElem (l := xs) (i := i) (by omega)
          exact ⟨xs[i], e, hQ.st _ _ _ ht hlD i fs.toList[i] _ (by simp [hi']) (map_at e)⟩) (by rw [hl]; exact ho.1) ho.2
        exact ⟨pvs, by simp only [WT, ht]; exact h1, by simpa using h2⟩
      · rename_i m e ht
        simp only [Bool.and_eq_true] at ho
        have hmul := Nat.eq_of_beq_eq_true ho.1
        obtain ⟨xs, k, hk, rfl, hl, hxs, hget⟩ := DataW.trod_array ht h
        obtain rfl : fuel = k := by omega
        obtain ⟨pvs, h1, h2⟩ := elems_ir (W := W) (n := n) (fun t cs x h1 h2 => ih n t cs x h1 h2) ho.2 (cs := cs) (M := m) (fun i hi => by
          rw [hget i hi]
          have e := List.getElem?_eq_getElem (l := xs) (i := i) (by omega)
          exact ⟨xs[i], e, hQ.ar _ _ _ _ ht hlD _ (map_mem e)⟩) (by rw [hl]; exact hmul) m 0 (by omega)
        exact ⟨pvs, by simp only [WT, ht]; exact h1, by simpa using h2⟩
      · cases ho
end
end Go.Ab
/- Laws: what a law's row wants of a call. -/
set_option linter.unusedVariables false
set_option linter.unusedSimpArgs false
namespace Go.Ab
open Go.ChangeShapes Go.WideShapes Go.ChangeAt Go.RowKit

def WTv (P : Program) (B n : Nat) (t : TypeId) (v : TV) : Prop :=
  (aggT P t = some true ∧ ∃ pvs, v = .agg (plainP pvs) ∧ WT P B n t pvs) ∨ (aggT P t = some false ∧ ∃ c, v = .p c ∧ WT P B n t [c])
def WTs (P : Program) (B n : Nat) : List TypeId → List TV → Prop
  | [], [] => True
  | t :: ts, v :: vs => WTv P B n t v ∧ WTs P B n ts vs
  | _, _ => False

def FitL {H : Type} (Q : TypeId → DataW H → Prop) : List TypeId → List (DataW H) → Prop
  | t :: ts, d :: ds => Q t d ∧ FitL Q ts ds
  | _, _ => True
section
variable {H : Type} {enc : TypeId × Value → H} {P : Program} {W : World} {B : Nat} {Q : TypeId → DataW H → Prop}

def G.args (W : World) : G := ⟨fun _ => 0, fun _ => (0, 0), fun b => b < W.heap.size⟩

theorem IRs.trl {pvs : List PV} {cs : List Value} (h : IRs W pvs cs) : TRL W (G.args W) (plainP pvs) cs := by
  induction pvs generalizing cs with
  | nil =>
    have := h.1
    cases cs with
    | nil => exact .nil
    | cons _ _ => simp at this
  | cons a l ih =>
    have h1 := h.1
    cases cs with
    | nil => simp at h1
    | cons x xs =>
      obtain ⟨x', e, hir⟩ := h.2 0 a rfl
      simp only [List.getElem?_cons_zero, Option.some.injEq] at e
      subst e
      exact .cons _ _ _ _ (.p _ _ hir) (ih ⟨by simpa using h1, fun i c hc => by simpa using h.2 (i + 1) c (by simpa using hc)⟩)

theorem arg_tr (hQ : Fit P B Q) {r : Reach} {b0 n : Nat} {t : TypeId} {v : Value} {d : DataW H} {ps : List MemPlace} (hv : Value.okWide P W r b0 t v) (ho : okTy P n t = true) (h : DataW.Trod enc P W 0 (fun _ => true) true t v d ps) (hlD : Q t d) :
    ∃ u, WTv P B n t u ∧ TR W (G.args W) u v ∧ plsV u = [] := by
  obtain ⟨fuel, h⟩ := h
  obtain ⟨pvs, h1, h2⟩ := trod_ir hQ fuel n t _ _ h hlD ho
  cases n with
  | zero => simp [okTy] at ho
  | succ n =>
    simp only [okTy] at ho
    have scalar : ∀ c, v.cells = #[v] → aggT P t = some false → pvs = [c] → ∃ u, WTv P B (n + 1) t u ∧ TR W (G.args W) u v ∧ plsV u = [] := by
      intro c hc ha hp
      subst hp
      rw [hc] at h2
      have := h2.trl
      cases this with
      | cons _ _ _ _ h3 _ => exact ⟨.p c, .inr ⟨ha, c, rfl, h1⟩, h3, rfl⟩
    have row : (∃ cs, v = .agg cs) → aggT P t = some true → ∃ u, WTv P B (n + 1) t u ∧ TR W (G.args W) u v ∧ plsV u = [] := by
      rintro ⟨cs, rfl⟩ ha
      refine ⟨.agg (plainP pvs), .inl ⟨ha, pvs, rfl, h1⟩, ?_, ?_⟩
      · have := TR.agg _ _ h2.trl
        simpa [Value.cells] using this
      · simp only [plsV, plainP_ids]
    have h1' := h1
    simp only [WT] at h1'
    unfold Value.okWide at hv
    split at ho
    · rename_i k ht
      rw [ht] at h1' hv
      obtain ⟨m, rfl, _⟩ := h1'
      simp only [Cell.okWide, ht, Cell.ok] at hv
      refine scalar _ ?_ (by simp [aggT, ht, isRowD]) rfl
      cases v <;> first | rfl | simp at hv
    · rename_i ht
      rw [ht] at h1' hv
      obtain ⟨m, rfl⟩ := h1'
      simp only [Cell.okWide, ht, Cell.ok] at hv
      refine scalar _ ?_ (by simp [aggT, ht, isRowD]) rfl
      cases v <;> first | rfl | simp at hv
    · rename_i ht
      rw [ht] at h1' hv
      obtain ⟨m, rfl, _⟩ := h1'
      simp only [Cell.okWide, ht, Cell.ok] at hv
      refine scalar _ ?_ (by simp [aggT, ht, isRowD]) rfl
      cases v <;> first | rfl | simp at hv
    · rename_i e ht
      rw [ht] at h1' hv
      obtain ⟨nn, els, rfl, _⟩ := h1'
      simp only [Cell.okWide, ht, Cell.ok] at hv
      refine scalar _ ?_ (by simp [aggT, ht, isRowD]) rfl
      cases v <;> first | rfl | simp at hv
    · rename_i fs ht
      rw [ht] at hv
      obtain ⟨cs, rfl, _⟩ := hv
      exact row ⟨cs, rfl⟩ (by simp [aggT, ht, isRowD])
    · rename_i m e ht
      rw [ht] at hv
      obtain ⟨cs, rfl, _⟩ := hv
      exact row ⟨cs, rfl⟩ (by simp [aggT, ht, isRowD])
    · cases ho

theorem args_tr (hQ : Fit P B Q) {r : Reach} {b0 n : Nat} : ∀ (ts : List TypeId) (xs : List Value) (ds : List (DataW H)) (ps : List MemPlace), DataW.TrodAll enc P W 0 (fun _ => true) true ts xs ds ps → FitL Q ts ds → (∀ (j : Nat) t v, ts[j]? = some t → xs[j]? = some v → Value.okWide P W r b0 t v) →
    (ts.all fun t => okTy P n t) = true → ∃ vs, WTs P B n ts vs ∧ TRL W (G.args W) vs xs ∧ ∀ v ∈ vs, plsV v = []
  | [], xs, ds, ps, h, _, _, _ => by
    cases xs with
    | nil => exact ⟨[], trivial, .nil, by simp⟩
    | cons _ _ => simp [DataW.TrodAll] at h
  | t :: ts, [], ds, ps, h, _, _, _ => by simp [DataW.TrodAll] at h
  | t :: ts, x :: xs, [], ps, h, _, _, _ => by simp [DataW.TrodAll] at h
  | t :: ts, x :: xs, d :: ds, ps, h, hlD, hv, ho => by
    obtain ⟨p, q, h1, h2, rfl⟩ := h
    simp only [List.all_cons, Bool.and_eq_true] at ho
    obtain ⟨u, a1, a2, a3⟩ := arg_tr hQ (hv 0 t x rfl rfl) ho.1 h1 hlD.1
    obtain ⟨us, b1, b2, b3⟩ := args_tr hQ ts xs ds q h2 hlD.2 (fun j t v e1 e2 => hv (j + 1) t v (by simpa using e1) (by simpa using e2)) ho.2
    exact ⟨u :: us, ⟨a1, b1⟩, .cons _ _ _ _ a2 b2, fun v hv => by
      rcases List.mem_cons.1 hv with rfl | hv
      · exact a3
      · exact b3 v hv⟩

theorem trodAll_stays (hl : laidOutB P = true) {W' : World} {sp : Nat → Bool} : ∀ (ts : List TypeId) (xs : List Value) (ds : List (DataW H)) (ps : List MemPlace), DataW.TrodAll enc P W 0 (fun _ => true) true ts xs ds ps → (ts.all fun t => P.readableRec t && Nat.blt t P.types.size) = true →
    (∀ p ∈ ps, W.sameAt W' p) → (∀ p ∈ ps, sp p.block = true) → DataW.TrodAll enc P W' 0 sp true ts xs ds ps
  | [], [], [], ps, h, _, _, _ => h
  | [], [], _ :: _, ps, h, _, _, _ => h.elim
  | [], _ :: _, _, ps, h, _, _, _ => h.elim
  | t :: ts, [], ds, ps, h, _, _, _ => h.elim
  | t :: ts, x :: xs, [], ps, h, _, _, _ => h.elim
  | t :: ts, x :: xs, d :: ds, ps, h, ho, hs, hp => by
    obtain ⟨p, q, h1, h2, rfl⟩ := h
    simp only [List.all_cons, Bool.and_eq_true, Nat.blt_eq] at ho
    refine ⟨p, q, WideElems.Trod_stays hl ho.1.1 ho.1.2 h1 (fun y hy => hs y (by simp [hy])) (fun y hy => hp y (by simp [hy])), trodAll_stays hl ts xs ds q h2 ?_ (fun y hy => hs y (by simp [hy])) (fun y hy => hp y (by simp [hy])), rfl⟩
    simpa [Nat.blt_eq] using ho.2

/-- A law whose arguments are data, that answers true. -/
theorem law_contract {f : FuncId} {fn : Func} {c : Code} {tb : TypeId} {n : Nat} (hf : P.funcs[f]? = some fn) (hb : fn.body = some c) (hname : (fn.name == "runtime.NumGoroutine") = false) (hl : laidOutB P = true)
    (hps : (fn.params.toList.all fun t => P.readableRec t && Nat.blt t P.types.size) = true) (hok : (fn.params.toList.all fun t => okTy P n t) = true) (hres : fn.resultTypes = #[tb]) (htb : P.underlying tb = some .bool)
    {spec : ChangeSpec} (hvars : spec.vars = []) (hsp : ∀ ds : List (DataW H), ds.length = fn.params.toList.length → spec.fn H ds = { results := [.lit (.bool true)], args := ds })
    (hR : ∀ vs, WTs P B n fn.params.toList vs → ∃ objs, Runs P f vs [] (.ret (.p (.bool true)) objs))
    {base : Nat} {args : Array Value} {ds gs : List (DataW H)} {before : List MemPlace} (hval : ∀ (j : Nat) t v, fn.params[j]? = some t → args[j]? = some v → Value.okWide P W .any base t v)
    (hW : DataW.Whole enc P fn.params.toList spec.vars false W args.toList ds gs before) (hQ : Fit P B Q) (hlD : FitL Q fn.params.toList ds) : Calls P f args W fun e W' => ∃ v, e = .returned v ∧ spec.post enc P fn false true false false W args v W' := by
  have hW' := hW
  obtain ⟨p, q, hA, hV, rfl, hfz, hnd⟩ := hW
  rw [hvars] at hV
  obtain ⟨rfl, rfl⟩ := trodVars_none hV
  obtain ⟨vs, v1, v2, v3⟩ := args_tr hQ (r := .any) (b0 := base) (n := n) _ _ _ _ hA hlD (fun j t v e1 e2 => hval j t v (by simpa using e1) (by simpa using e2)) hok
  obtain ⟨objs, hrun⟩ := hR vs v1
  have hD := hrun.run W (G.args W) args.toList v2 ⟨fun r o e => by simp [nthO] at e, fun π π' v => by simp [VP, nthO] at v, fun π v => by simp [VP, nthO] at v, fun π v => by simp [VP, nthO] at v, fun b hb => hb⟩
    (fun v hv π hπ => by rw [v3 v hv] at hπ; simp at hπ) (fun r o e => by simp [nthO] at e) (fun r e => by simp [nthO] at e)
  unfold Does at hD
  rw [run_callFunc hf hb hname] at hD
  simp only [Array.toArray_toList] at hD
  refine hD.mono fun e W' ho => ?_
  obtain ⟨x, g', rfl, htr, _, hfrm, _, _⟩ := ho
  have hx := tr_bool htr
  subst hx
  have hblk : ∀ b : Nat, b < W.heap.size → W'.heap[b]? = W.heap[b]? := fun b hb => hfrm.block b hb (by rintro ⟨π, v, _⟩; simp [VP, nthO] at v)
  have hlt := hA.lt
  have hsame : ∀ y ∈ p, W.sameAt W' y := by
    intro y hy
    have := hlt y hy
    cases y with
    | cell b o => simp only [World.sameAt, World.cell?]; rw [hblk b this]
    | map b => exact hblk b this
  refine ⟨_, rfl, ds, [], p ++ [], [], p, [], hW', ?_, ?_, ?_, ?_, fun h => by cases h⟩
  · rw [hsp _ (by simpa using (trodAll_length hA).2)]
    rw [hres]
    exact trodAll_mk1 (shut_bool htb true)
  · rw [hsp _ (by simpa using (trodAll_length hA).2), List.append_nil]
    exact trodAll_stays hl _ _ _ _ hA hps hsame fun y hy => by simpa using hlt y hy
  · rw [hsp _ (by simpa using (trodAll_length hA).2), hvars]
    rfl
  · refine ⟨hfrm.os, hfrm.output, fun i hi => ?_⟩
    rw [hblk i hi]
    split <;> simp_all
end
end Go.Ab
/- Shapes of data, what is the same, and loops. -/
set_option linter.unusedVariables false
set_option linter.unusedSimpArgs false
namespace Go.Ab

/-! ### what is the same -/
mutual
/-- Data without what a reader does not see. -/
def nrm : PV → PV
  | .isl _ _ els => .isl false 0 (nrmEs els)
  | .own _ _ els => .isl false 0 (nrmEs els)
  | c => c
def nrmC : List PV → List PV
  | [] => []
  | c :: l => nrm c :: nrmC l
def nrmEs : List (List PV) → List (List PV)
  | [] => []
  | e :: l => nrmC e :: nrmEs l
end
theorem nrmC_map (l : List PV) : nrmC l = l.map nrm := by induction l with | nil => rfl | cons a l ih => simp [nrmC, ih]
theorem nrmEs_map (l : List (List PV)) : nrmEs l = l.map nrmC := by induction l with | nil => rfl | cons a l ih => simp [nrmEs, ih]
theorem nrmEs_len (l : List (List PV)) : (nrmEs l).length = l.length := by simp [nrmEs_map]
open Classical in
noncomputable def same1 (a b : PV) : Bool := decide (nrm a = nrm b)
open Classical in
noncomputable def sameC (a b : List PV) : Bool := decide (nrmC a = nrmC b)
open Classical in
noncomputable def sameE (a b : List (List PV)) : Bool := decide (nrmEs a = nrmEs b)
theorem sameE_iff (a b : List (List PV)) : sameE a b = true ↔ nrmEs a = nrmEs b := by simp [sameE]
theorem sameC_iff (a b : List PV) : sameC a b = true ↔ nrmC a = nrmC b := by simp [sameC]
theorem same1_iff (a b : PV) : same1 a b = true ↔ nrm a = nrm b := by simp [same1]
theorem sameC_nil : sameC [] [] = true := by simp [sameC]
theorem sameC_cons (a b : PV) (l m : List PV) : sameC (a :: l) (b :: m) = (same1 a b && sameC l m) := by
  rw [Bool.eq_iff_iff, Bool.and_eq_true, sameC_iff, sameC_iff, same1_iff]; simp [nrmC]
theorem same1_int (k : IntKind) (a b : Int) : same1 (.int k a) (.int k b) = (a == b) := by
  rw [Bool.eq_iff_iff, same1_iff]; simp [nrm]
theorem same1_bool (a b : Bool) : same1 (.bool a) (.bool b) = (a == b) := by
  rw [Bool.eq_iff_iff, same1_iff]; simp [nrm]
theorem same1_str (a b : List UInt8) : same1 (.str a) (.str b) = (a == b) := by
  rw [Bool.eq_iff_iff, same1_iff]; simp [nrm]
theorem same1_isl (n m : Bool) (z y : Nat) (a b : List (List PV)) : same1 (.isl n z a) (.isl m y b) = sameE a b := by
  rw [Bool.eq_iff_iff, same1_iff, sameE_iff]; simp [nrm]
theorem sameE_len {a b : List (List PV)} (h : a.length ≠ b.length) : sameE a b = false := by
  cases e : sameE a b with
  | false => rfl
  | true => exact absurd (by rw [← nrmEs_len a, ← nrmEs_len b, (sameE_iff a b).1 e]) h
/-- The first k elements are the same. -/
def firsts (k : Nat) (a b : List (List PV)) : Prop := nrmEs (a.take k) = nrmEs (b.take k)
theorem firsts_zero (a b : List (List PV)) : firsts 0 a b := by simp [firsts]
theorem firsts_succ {k : Nat} {a b : List (List PV)} {x y : List PV} (hx : a[k]? = some x) (hy : b[k]? = some y) (h : firsts k a b) (e : sameC x y = true) : firsts (k + 1) a b := by
  unfold firsts at *
  rw [nrmEs_map, nrmEs_map] at *
  rw [List.take_add_one, List.take_add_one, hx, hy]
  simp [h, (sameC_iff _ _).1 e]
theorem firsts_all {k : Nat} {a b : List (List PV)} (h : firsts k a b) (ha : a.length ≤ k) (hb : b.length ≤ k) : sameE a b = true := by
  unfold firsts at h
  rw [List.take_of_length_le ha, List.take_of_length_le hb] at h
  exact (sameE_iff _ _).2 h
theorem sameE_at {k : Nat} {a b : List (List PV)} {x y : List PV} (hx : a[k]? = some x) (hy : b[k]? = some y) (e : sameC x y = false) : sameE a b = false := by
  cases h : sameE a b with
  | false => rfl
  | true =>
    have h1 := (sameE_iff _ _).1 h
    rw [nrmEs_map, nrmEs_map] at h1
    have h2 : (a.map nrmC)[k]? = (b.map nrmC)[k]? := by rw [h1]
    simp only [List.getElem?_map, hx, hy, Option.map_some, Option.some.injEq] at h2
    rw [(sameC_iff _ _).2 h2] at e
    cases e

/-! ### shapes -/
inductive Ty where
  | int (k : IntKind)
  | bool
  | str
  | sl (es : List Ty)
  deriving Inhabited
mutual
def Has : Ty → PV → Prop
  | .int k, c => ∃ n, c = .int k n ∧ k.min ≤ n ∧ n ≤ k.max
  | .bool, c => ∃ b, c = .bool b
  | .str, c => ∃ s, c = .str s
  | .sl es, c => ∃ nn els, c = .isl nn es.length els ∧ (nn = false → els = []) ∧ els.length ≤ 1048576 ∧ ∀ e ∈ els, HasL es e
def HasL : List Ty → List PV → Prop
  | [], cs => cs = []
  | t :: ts, cs => ∃ c l, cs = c :: l ∧ Has t c ∧ HasL ts l
end
def HasE (ts : List Ty) (els : List (List PV)) : Prop := els.length ≤ 1048576 ∧ ∀ e ∈ els, HasL ts e
mutual
/-- As Has, with a greater bound, of texts, too. -/
def Big : Ty → PV → Prop
  | .int k, c => ∃ n, c = .int k n ∧ k.min ≤ n ∧ n ≤ k.max
  | .bool, c => ∃ b, c = .bool b
  | .str, c => ∃ s, c = .str s ∧ s.length ≤ 140737488355328
  | .sl es, c => ∃ nn els, c = .isl nn es.length els ∧ (nn = false → els = []) ∧ els.length ≤ 140737488355328 ∧ ∀ e ∈ els, BigL es e
def BigL : List Ty → List PV → Prop
  | [], cs => cs = []
  | t :: ts, cs => ∃ c l, cs = c :: l ∧ Big t c ∧ BigL ts l
end
def BigE (ts : List Ty) (els : List (List PV)) : Prop := els.length ≤ 140737488355328 ∧ ∀ e ∈ els, BigL ts e
theorem BigE.at {ts : List Ty} {els : List (List PV)} (h : BigE ts els) {k : Nat} (hk : k < els.length) : ∃ e, els[k]? = some e ∧ BigL ts e :=
  ⟨els[k], List.getElem?_eq_getElem hk, h.2 _ (List.getElem_mem hk)⟩
/-- Types without slices. -/
def flatT : List Ty → Bool
  | [] => true
  | .sl _ :: _ => false
  | _ :: l => flatT l
theorem big_flat : ∀ (ts : List Ty) (cs : List PV), flatT ts = true → BigL ts cs → HasL ts cs
  | [], cs, _, h => h
  | t :: ts, cs, hf, h => by
    obtain ⟨c, l, rfl, h1, h2⟩ := h
    cases t with
    | sl _ => cases hf
    | int k => exact ⟨_, _, rfl, h1, big_flat ts l hf h2⟩
    | bool => exact ⟨_, _, rfl, h1, big_flat ts l hf h2⟩
    | str =>
      obtain ⟨s, rfl, _⟩ := h1
      exact ⟨_, _, rfl, ⟨s, rfl⟩, big_flat ts l hf h2⟩
theorem big_flatE {ts : List Ty} {els : List (List PV)} (hf : flatT ts = true) (h : BigE ts els) (hl : els.length ≤ 1048576) : HasE ts els :=
  ⟨hl, fun e he => big_flat ts e hf (h.2 e he)⟩
mutual
/-- The same, of rows that one owns. -/
def Owns : Ty → PV → Prop
  | .int k, c => ∃ n, c = .int k n
  | .bool, c => ∃ b, c = .bool b
  | .str, c => ∃ s, c = .str s
  | .sl es, c => ∃ nn els, c = .own nn es.length els ∧ els.length ≤ 1048576 ∧ ∀ e ∈ els, OwnsL es e
def OwnsL : List Ty → List PV → Prop
  | [], cs => cs = []
  | t :: ts, cs => ∃ c l, cs = c :: l ∧ Owns t c ∧ OwnsL ts l
end
def OwnsE (ts : List Ty) (els : List (List PV)) : Prop := els.length ≤ 1048576 ∧ ∀ e ∈ els, OwnsL ts e

theorem HasE.at {ts : List Ty} {els : List (List PV)} (h : HasE ts els) {k : Nat} (hk : k < els.length) : ∃ e, els[k]? = some e ∧ HasL ts e :=
  ⟨els[k], List.getElem?_eq_getElem hk, h.2 _ (List.getElem_mem hk)⟩
theorem OwnsE.at {ts : List Ty} {els : List (List PV)} (h : OwnsE ts els) {k : Nat} (hk : k < els.length) : ∃ e, els[k]? = some e ∧ OwnsL ts e :=
  ⟨els[k], List.getElem?_eq_getElem hk, h.2 _ (List.getElem_mem hk)⟩

theorem OwnsE.set {ts : List Ty} {els : List (List PV)} (h : OwnsE ts els) {k : Nat} {e : List PV} (he : OwnsL ts e) : OwnsE ts (els.set k e) := by
  refine ⟨by rw [List.length_set]; exact h.1, fun x hx => ?_⟩
  rcases List.mem_or_eq_of_mem_set hx with h1 | rfl
  · exact h.2 _ h1
  · exact he
/-! ### loops -/
theorem loopR {LE : PE → List (List PV)} {nb : Nat} {live : List Nat} {S : AS} {F : (Nat → AS → Prop) → Nat → Nat → AS → Prop} {α : Type} (pre : List Pre) (m : Nat) (hm : nb ≤ m)
    (st : AS → α → AS) (μ : α → Nat) (G : α → Prop) (a0 : α) (h0 : G a0) (hs : AS.norm live m (AS.pres LE nb S pre) = st (AS.norm live m (AS.pres LE nb S pre)) a0)
    (h : ∀ S1, S1 = AS.norm live m (AS.pres LE nb S pre) → ∀ inv : Nat → AS → Prop, (∀ a, G a → inv (μ a) (st S1 a)) → ∀ a, G a → F inv m (μ a) (st S1 a)) :
    ∃ (pre : List Pre) (m : Nat) (inv : Nat → AS → Prop), nb ≤ m ∧ (∃ n, inv n (AS.norm live m (AS.pres LE nb S pre))) ∧ ∀ n s', inv n s' → F inv m n s' := by
  refine ⟨pre, m, fun n s => ∃ a, G a ∧ n = μ a ∧ s = st (AS.norm live m (AS.pres LE nb S pre)) a, hm, ⟨μ a0, a0, h0, rfl, hs⟩, ?_⟩
  rintro n s ⟨a, ha, rfl, rfl⟩
  exact h _ rfl _ (fun a ha => ⟨a, ha, rfl, rfl⟩) a ha
/-- A slot of the temporaries, set. -/
def AS.sett (s : AS) (i : Nat) (v : TV) : AS := ⟨setT s.t i v, s.h⟩
end Go.Ab
