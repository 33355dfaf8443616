/- Single operations are sound: the store. -/
import Derived.Test.YtgmhdbkdfpfplaaA1
import Derived.Laws.IdiomStrings
import Derived.Lib.ConvBytes
import Derived.Laws.MakeOwn
import Derived.Laws.Slices
import Derived.Deep.AppendSrc
set_option linter.unusedVariables false
set_option linter.unusedSimpArgs false
namespace Go.Ab

theorem TRL.prefix_get {cs : List TV} {vs : List Value} {cur : Array Value} (hk : ∀ (k : Nat) (x : Value), vs[k]? = some x → cur[k]? = some x) : vs.length ≤ cur.size := by
  rcases Nat.eq_zero_or_pos vs.length with h | h
  · omega
  · have := hk (vs.length - 1) (vs[vs.length - 1]) (by simp [show vs.length - 1 < vs.length by omega])
    have := (Array.getElem?_eq_some_iff.1 this).1
    omega

/-- Cells that are stored into a row: which roots they take up. -/
theorem lowW_spec {w : World} {g : G} : ∀ (cs : List TV) (h : List Ob) (vs : List Value) (cv : List PV) (h2 : List Ob) (q : Prop), TRL w g cs vs → lowW stdI h cs = some (cv, h2, q) → q →
    (∀ r nn z els, nthO h r = some (.row nn z els) → RowR w g ⟨r, []⟩ nn z els) →
    ∃ ab : Nat → Option Nat, cv.length = vs.length ∧ h2.length = h.length ∧
      (∀ (k : Nat) (c : PV), cv[k]? = some c → ∃ x, vs[k]? = some x ∧ match ab k with
        | none => IR w g.Im c x
        | some r => ∃ nn z e0, c = .own nn z e0 ∧ nthO h r = some (.row nn z e0) ∧ PR w g ⟨r, []⟩ c x) ∧
      (∀ k r, ab k = some r → k < cv.length) ∧ (∀ k k' r, ab k = some r → ab k' = some r → k = k') ∧
      (∀ r, nthO h2 r = nthO h r ∧ (∀ k, ab k ≠ some r) ∨ nthO h2 r = some .dead ∧ ∃ k, ab k = some r)
  | [], h, vs, cv, h2, q, hvs, hl, hq, hob => by
    cases hvs
    simp only [lowW, Option.some.injEq, Prod.mk.injEq] at hl
    obtain ⟨rfl, rfl, _⟩ := hl
    exact ⟨fun _ => none, rfl, rfl, by simp, by simp, by simp, fun r => .inl ⟨rfl, by simp⟩⟩
  | c :: cs, h, vs, cv, h2, q, hvs, hl, hq, hob => by
    cases hvs with
    | cons _ x _ vs hx hvs =>
      have plain : ∀ c', IR w g.Im c' x → (∃ r h' q', lowW stdI h cs = some (r, h', q') ∧ cv = c' :: r ∧ h2 = h' ∧ q' = q) →
          ∃ ab : Nat → Option Nat, cv.length = (x :: vs).length ∧ h2.length = h.length ∧
            (∀ (k : Nat) (c : PV), cv[k]? = some c → ∃ y, (x :: vs)[k]? = some y ∧ match ab k with
              | none => IR w g.Im c y
              | some r => ∃ nn z e0, c = .own nn z e0 ∧ nthO h r = some (.row nn z e0) ∧ PR w g ⟨r, []⟩ c y) ∧
            (∀ k r, ab k = some r → k < cv.length) ∧ (∀ k k' r, ab k = some r → ab k' = some r → k = k') ∧
            (∀ r, nthO h2 r = nthO h r ∧ (∀ k, ab k ≠ some r) ∨ nthO h2 r = some .dead ∧ ∃ k, ab k = some r) := by
        rintro c' hc' ⟨r, h', q', hl', rfl, rfl, rfl⟩
        obtain ⟨ab, a1, a2, a3, a4, a5, a6⟩ := lowW_spec cs h vs r _ _ hvs hl' hq hob
        refine ⟨fun k => match k with | 0 => none | k + 1 => ab k, by simp [a1], a2, fun k c hk => ?_, fun k r hk => ?_, fun k k' r h1 h2 => ?_, fun r => ?_⟩
        · cases k with
          | zero => simp only [List.getElem?_cons_zero, Option.some.injEq] at hk; subst hk; exact ⟨x, rfl, hc'⟩
          | succ k => simpa using a3 k c (by simpa using hk)
        · cases k with
          | zero => cases hk
          | succ k => have := a4 k r hk; simpa using this
        · cases k with
          | zero => cases h1
          | succ k => cases k' with
            | zero => cases h2
            | succ k' => rw [a5 k k' r h1 h2]
        · rcases a6 r with ⟨h1, h2⟩ | ⟨h1, k, h2⟩
          · refine .inl ⟨h1, fun k => ?_⟩
            cases k with
            | zero => simp
            | succ k => exact h2 k
          · exact .inr ⟨h1, k + 1, h2⟩
      unfold lowW at hl
      split at hl
      · rename_i heq; cases heq
      · rename_i c' l heq
        simp only [List.cons.injEq] at heq
        obtain ⟨rfl, rfl⟩ := heq
        split at hl
        · rename_i r h' q' hl'
          simp only [Option.some.injEq, Prod.mk.injEq] at hl
          obtain ⟨rfl, rfl, rfl⟩ := hl
          cases hx with | p _ _ hx => exact plain c' hx ⟨_, _, _, hl', rfl, rfl, rfl⟩
        · cases hl
      · rename_i f l heq
        simp only [List.cons.injEq] at heq
        obtain ⟨rfl, rfl⟩ := heq
        split at hl
        · rename_i r h' q' hl'
          simp only [Option.some.injEq, Prod.mk.injEq] at hl
          obtain ⟨rfl, rfl, rfl⟩ := hl
          cases hx with | fn _ _ us hus => cases hus; exact plain (.fn f) (.fn f) ⟨_, _, _, hl', rfl, rfl, rfl⟩
        · cases hl
      · rename_i h _ _ nn r z off len l heq
        simp only [List.cons.injEq] at heq
        obtain ⟨rfl, rfl⟩ := heq
        split at hl
        · rename_i nn' z' els hr
          split at hl
          · rename_i r' h' q' hzz hl'
            simp only [Option.some.injEq, Prod.mk.injEq] at hl
            obtain ⟨rfl, rfl, rfl⟩ := hl
            have hzz := Nat.eq_of_beq_eq_true hzz
            subst hzz
            obtain ⟨rfl, rfl, rfl, hq'⟩ := hq
            have hrl := nthO_lt hr
            have hget : ∀ r', nthO (setO h r .dead) r' = if r' = r then some .dead else nthO h r' := fun r' => by
              rw [nthO_setO]
              by_cases e : r' = r
              · rw [if_pos ⟨e, hrl⟩, if_pos e]
              · rw [if_neg (fun h => e h.1), if_neg e]
            obtain ⟨ab, a1, a2, a3, a4, a5, a6⟩ := lowW_spec cs (setO h r .dead) vs r' _ q' hvs hl' hq' (fun r1 nn1 z1 e1 h1 => by
              rw [hget] at h1
              split at h1
              · cases h1
              · exact hob r1 nn1 z1 e1 h1)
            have hnr : ∀ k, ab k ≠ some r := by
              intro k hk
              have hlt := a4 k r hk
              obtain ⟨y, _, hy⟩ := a3 k _ (List.getElem?_eq_getElem hlt)
              rw [hk] at hy
              obtain ⟨_, _, _, _, h1, _⟩ := hy
              rw [hget, if_pos rfl] at h1
              cases h1
            have hrow := hob r nn z els hr
            have hpr : PR w g ⟨r, []⟩ (.own nn z els) x := by
              generalize hgl : (stdI (.len els)) = len at hx
              simp only [stdI] at hgl
              generalize hg0 : (0 : Int) = off at hx
              cases hx with
              | sl0 => cases hrow with | nil _ _ hC0 => exact .own0 _ _ hC0
              | sl1 _ _ off len cap h1 h2 h3 h4 =>
                have e0 : off = 0 := by omega
                have e1 : len = els.length := by omega
                subst e0
                subst e1
                have := PR.own1 (w := w) (g := g) ⟨r, []⟩ z els cap hrow h1 h2 (by simpa using h3)
                simpa using this
            refine ⟨fun k => match k with | 0 => some r | k + 1 => ab k, by simp [a1], by rw [a2, setO_eq]; simp, fun k c hk => ?_, fun k r1 hk => ?_, fun k k' r1 h1 h2 => ?_, fun r1 => ?_⟩
            · cases k with
              | zero => simp only [List.getElem?_cons_zero, Option.some.injEq] at hk; subst hk; exact ⟨x, rfl, nn, z, els, rfl, hr, hpr⟩
              | succ k =>
                obtain ⟨y, hy, h1⟩ := a3 k c (by simpa using hk)
                refine ⟨y, by simpa using hy, ?_⟩
                simp only
                split at h1
                · rename_i e; first | exact h1 | (rw [e]; exact h1)
                · rename_i r1 e
                  try rw [e]
                  obtain ⟨n1, z1, e1, h2, h3, h4⟩ := h1
                  rw [hget] at h3
                  split at h3
                  · cases h3
                  · exact ⟨n1, z1, e1, h2, h3, h4⟩
            · cases k with
              | zero => simp
              | succ k => have := a4 k r1 hk; simpa using this
            · cases k with
              | zero =>
                simp only [Option.some.injEq] at h1
                subst h1
                cases k' with
                | zero => rfl
                | succ k' => exact absurd h2 (hnr k')
              | succ k =>
                cases k' with
                | zero =>
                  simp only [Option.some.injEq] at h2
                  subst h2
                  exact absurd h1 (hnr k)
                | succ k' => rw [a5 k k' r1 h1 h2]
            · rcases a6 r1 with ⟨h1, h2⟩ | ⟨h1, k, h2⟩
              · rw [hget] at h1
                by_cases e : r1 = r
                · subst e
                  rw [if_pos rfl] at h1
                  exact .inr ⟨h1, 0, rfl⟩
                · rw [if_neg e] at h1
                  refine .inl ⟨h1, fun k => ?_⟩
                  cases k with
                  | zero => simp only [ne_eq, Option.some.injEq]; exact fun h => e h.symm
                  | succ k => exact h2 k
              · exact .inr ⟨h1, k + 1, h2⟩
          · cases hl
        · cases hl
      · cases hl

/-- What is behind the first part. -/
def strip : List (Nat × Nat) → List (Nat × Nat) → Option (List (Nat × Nat))
  | [], q => some q
  | _ :: _, [] => none
  | a :: p, b :: q => if a = b then strip p q else none
theorem strip_eq {p q r : List (Nat × Nat)} : strip p q = some r ↔ q = p ++ r := by
  induction p generalizing q with
  | nil => simp [strip]
  | cons a p ih =>
    cases q with
    | nil => simp [strip]
    | cons b q =>
      simp only [strip]
      by_cases e : a = b
      · subst e; rw [if_pos rfl, ih]; simp
      · rw [if_neg e]; simp; intro h; exact absurd h.symm e

/-- Where the places under a cell that took up a root come from. -/
def backS (pl : Place) (i j : Nat) (ab : Nat → Option Nat) (π : Place) : Place :=
  if π.root = pl.root then
    match strip pl.path π.path with
    | some ((a, b) :: q) => if a = i ∧ j ≤ b then (match ab (b - j) with | some r => ⟨r, q⟩ | none => π) else π
    | _ => π
  else π
theorem backS_new {pl : Place} {i j k : Nat} {ab : Nat → Option Nat} {r : Nat} {q : List (Nat × Nat)} (h : ab k = some r) : backS pl i j ab ⟨pl.root, pl.path ++ (i, j + k) :: q⟩ = ⟨r, q⟩ := by
  unfold backS
  have : strip pl.path (pl.path ++ (i, j + k) :: q) = some ((i, j + k) :: q) := strip_eq.2 rfl
  simp [this, h]
theorem backS_old {pl : Place} {i j : Nat} {ab : Nat → Option Nat} {π : Place} (h : π.root = pl.root → ∀ k q, ab k ≠ none → π.path ≠ pl.path ++ (i, j + k) :: q) : backS pl i j ab π = π := by
  unfold backS
  split
  · rename_i e
    split
    · rename_i a b q hs
      split
      · rename_i hc
        obtain ⟨rfl, hj⟩ := hc
        split
        · rename_i r hr
          have := strip_eq.1 hs
          refine absurd this ?_
          have := h e (b - j) q (by rw [hr]; simp)
          rwa [show j + (b - j) = b by omega] at this
        · rfl
      · rfl
    · rfl
  · rfl
def G.back (g : G) (f : Place → Place) : G := ⟨fun π => g.β (f π), fun π => g.C (f π), g.Im⟩

theorem noOwnB_get {l : List PV} (h : noOwnB l = true) : ∀ (b : Nat) (c : PV), l[b]? = some c → ∀ nn z e, c ≠ .own nn z e := by
  induction l with
  | nil => simp
  | cons a l ih =>
    intro b c hb nn z e hc
    subst hc
    cases b with
    | zero => simp only [List.getElem?_cons_zero, Option.some.injEq] at hb; subst hb; simp [noOwnB] at h
    | succ b =>
      refine ih ?_ b _ (by simpa using hb) nn z e rfl
      cases a <;> simp_all [noOwnB]
theorem takeL_eq {α : Type} (n : Nat) (l : List α) : takeL n l = l.take n := by
  induction l generalizing n with
  | nil => cases n <;> simp [takeL]
  | cons a l ih => cases n <;> simp [takeL, ih]

section
variable {P : Program} {o : Oper} {Γ : Ctx} {s : AS} {a : Act} {w : World} {g : G} {k kp : TV → AS → Prop} {sl : Option Nat}

theorem st_sound (hs : Sim Γ s a.tmps w g) {t : TypeId} {n : Nat} {ad vl : Operand} {x1 x2 : X} (ho : o.op = .store t ad vl) (hn : sizeT P t = some n) (h1 : opX ad = some x1) (h2 : opX vl = some x2) (hn0 : 0 < n)
    (h : wpS stdI stdB stdE sl (.st n x1 x2) s k kp) : OpS P o Γ a.tmps a w k kp := by
  obtain ⟨hv1, hf1⟩ := hs.ev' h1
  obtain ⟨hv2, hf2⟩ := hs.ev' h2
  simp only [wpS, wpK] at h
  split at h
  · rename_i hlen hone
    obtain ⟨hcells, hsz⟩ := cells_len hv2 hlen hn0
    have hone' := oneC_one hcells hone
    have hcl : (a.eval vl).cells.toList.length = n := by simpa using hsz
    have hnel : (a.eval vl).cells.toList ≠ [] := by intro e; rw [e] at hcl; simp at hcl; omega
    generalize hev : a.eval ad = ax at hv1
    split at h
    · rename_i pl z i j hc
      rw [hc] at hv1 hf1
      cases hv1 with
      | ptr =>
      split at h
      · -- a variable
        rename_i cs hob
        split at h
        · rename_i hi
          split at h
          · rename_i cs' hput
            obtain ⟨cur, ty, fr, hb, hf, vs, hvs, hk⟩ := hs.hok.ob _ _ hob
            have hpl : (⟨pl.root, []⟩ : Place) = pl := by cases pl; simp_all
            rw [hpl] at hb
            obtain ⟨q, hq, hrel⟩ := putCells_rel hvs hcells hput
            obtain ⟨q1, q2, q3⟩ := putCells_get hq
            rw [if_neg hnel] at q2
            have hvl := TRL.prefix_get (cs := cs) hk
            have hfit : j + n ≤ cur.size := by omega
            have hrun := run_storeAt (P := P) (w := w) (b := g.β pl) (off := j) hn hb hf (a.eval vl) hsz hfit hone'
            obtain ⟨cur', k1, k2, k3, k4, k5, k6, k7, k8⟩ := setCells_heap (g.β pl) ty fr (a.eval vl).cells.toList j w cur hb (by rw [hcl]; exact hfit)
            have hvp : VP s.h pl := by rw [← hpl]; exact VP_root hob (by simp) (by simp) (by simp)
            have him : ∀ b, g.Im b → (w.setCells (g.β pl) j (a.eval vl).cells.toList).heap[b]? = w.heap[b]? := fun b hb => k4 b fun e => hs.hok.dis pl hvp (e ▸ hb)
            refine OpS.skip (w' := w.setCells (g.β pl) j (a.eval vl).cells.toList) (s' := ⟨s.t, setO s.h pl.root (.box cs')⟩) (g' := g) ?_ h ?_
            · simp only [execOp, ho, hev, Sem.run_bind, Nat.zero_mul, Nat.zero_add, hrun, Result.andThen_ok]
              rfl
            · have hl := nthO_lt hob
              have hget : ∀ r, nthO (setO s.h pl.root (.box cs')) r = if r = pl.root then some (.box cs') else nthO s.h r := fun r => by
                rw [nthO_setO]
                by_cases e : r = pl.root
                · rw [if_pos ⟨e, hl⟩, if_pos e]
                · rw [if_neg (fun h => e h.1), if_neg e]
              have hvp' : ∀ π, VP (setO s.h pl.root (.box cs')) π ↔ VP s.h π := by
                intro π
                have h0 := hget π.root
                by_cases e : π.root = pl.root
                · rw [if_pos e] at h0
                  unfold VP
                  rw [h0, e, hob]
                · rw [if_neg e] at h0
                  exact VP_congr h0
              have hok' : ∀ π, OkP (setO s.h pl.root (.box cs')) π ↔ OkP s.h π := by
                intro π
                have h0 := hget π.root
                by_cases e : π.root = pl.root
                · rw [if_pos e] at h0
                  unfold OkP
                  rw [h0, e, hob]
                · rw [if_neg e] at h0
                  exact OkP_congr h0
              refine Sim.chg (t := s.t) (h := s.h) (h' := setO s.h pl.root (.box cs')) (g' := g) hs ⟨k6, k7, k8, by omega, fun b _ hn => k4 b fun e => hn pl hvp e.symm, fun b hb => hb, fun b hb => .inl hb, fun π v => .inl ⟨π, (hvp' π).1 v, rfl⟩,
                fun π1 π2 v1 v2 e => hs.hok.inj _ _ ((hvp' _).1 v1) ((hvp' _).1 v2) e, fun π v => hs.hok.dis _ ((hvp' _).1 v), fun r ob e => ?_, by rw [setO_eq]; simp, fun r hr hnf => ?_⟩ (fun π v => ⟨(hok' π).2 v, rfl, rfl⟩) ?_
              · rw [hget] at e
                split at e
                · rename_i er
                  cases e
                  subst er
                  refine ⟨cur', ty, fr, by rw [hpl]; exact k1, by rw [k2]; exact hf, q, hrel.mono him (fun _ h => h) fun _ _ => ⟨rfl, rfl⟩, fun m y hy => ?_⟩
                  rw [k3]
                  rw [q3] at hy
                  split at hy
                  · rename_i hc; rw [if_pos hc]; exact hy
                  · rename_i hc; rw [if_neg hc]; exact hk m y hy
                · rename_i er
                  have hne : ∀ π, VP s.h π → π.root = r → (w.setCells (g.β pl) j (a.eval vl).cells.toList).heap[g.β π]? = w.heap[g.β π]? := by
                    intro π v e2
                    refine k4 _ fun e3 => er ?_
                    rw [← e2, hs.hok.inj _ _ v hvp e3]
                  refine (hs.hok.ob r ob e).keep him (fun _ h => h) (fun d1 d2 d3 => ⟨hne _ (VP_root e d1 d2 d3) rfl, rfl, rfl⟩) (fun nn z els p e' e2 hp => ⟨hne _ (by subst e2; exact VP_row e hp) rfl, rfl⟩) (fun _ _ _ _ _ _ _ _ => rfl) fun _ _ => ⟨rfl, rfl⟩
              · rw [hget]
                split
                · exact ⟨by simp, rfl, rfl⟩
                · exact ⟨hnf, rfl, rfl⟩
              · intro r ob e π hp
                rw [hok']
                rw [hget] at e
                split at e
                · cases e
                  simp only [plsOb] at hp
                  obtain ⟨v, hv, hrv⟩ := plsL_mem.1 hp
                  obtain ⟨m, hm, rfl⟩ := List.getElem_of_mem hv
                  have := (putCells_get hput).2.2 m
                  rw [List.getElem?_eq_getElem hm] at this
                  split at this
                  · exact hf2 π (cellsOf_ids (plsL_mem.2 ⟨_, List.mem_of_getElem? this.symm, hrv⟩))
                  · exact hs.refH _ _ hob π (by simp only [plsOb]; exact plsL_mem.2 ⟨_, List.mem_of_getElem? this.symm, hrv⟩)
                · exact hs.refH _ _ e π hp
          · exact h.elim
        · exact h.elim
      · -- a row
        rename_i nn zr els hob
        split at h
        · rename_i cv h2 q hlow
          obtain ⟨hq, b, r, cs, cs', els', hr, hcs, hlz, hno, hput, hrp, hnd, h⟩ := h
          have hrow : RowR w g ⟨pl.root, []⟩ nn zr els := hs.hok.ob _ _ hob
          obtain ⟨z'', hrow2⟩ := hrow.at_ hr
          have hpl : (⟨pl.root, []⟩ : Place).app pl.path = pl := by cases pl; simp [Place.app]
          rw [hpl] at hrow2
          have hb1 := hrow2.some_ hcs
          subst hb1
          have hzz : z'' = z := by rw [← hrow2.cons_ hcs]; exact isLen_eq hlz
          subst hzz
          obtain ⟨ab, l1, l2, l3, l4, l5, l6⟩ := lowW_spec _ s.h _ cv h2 q hcells hlow hq (fun r nn z e h0 => hs.hok.ob _ _ h0)
          have hrow3 := hrow2
          cases hrow3 with
          | mk _ _ _ cur ty fr vs hb hC hf hz hn2 hN hpos hcc hrr =>
            obtain ⟨q1, q2, q3⟩ := putCells_get hput
            have hcvne : cv ≠ [] := by rintro rfl; simp at l1; omega
            rw [if_neg hcvne] at q2
            have hcsl : cs.length = z'' := hz cs (List.mem_of_getElem? hcs)
            have hi := (List.getElem?_eq_some_iff.1 hcs).1
            have hfit : i * z'' + j + n ≤ cur.size := by
              have : (i + 1) * z'' ≤ r.length * z'' := Nat.mul_le_mul_right _ hi
              rw [Nat.add_mul] at this
              omega
            have hvp : VP s.h pl := by
              have := VP_row (p := pl.path) hob hr
              simpa using this
            have hrun := run_storeAt (P := P) (w := w) (b := g.β pl) (off := i * z'' + j) hn hb hf (a.eval vl) hsz hfit hone'
            obtain ⟨cur', k1, k2, k3, k4, k5, k6, k7, k8⟩ := setCells_heap (g.β pl) ty fr (a.eval vl).cells.toList (i * z'' + j) w cur hb (by rw [hcl]; exact hfit)
            have him : ∀ b, g.Im b → (w.setCells (g.β pl) (i * z'' + j) (a.eval vl).cells.toList).heap[b]? = w.heap[b]? := fun b hb => k4 b fun e => hs.hok.dis pl hvp (e ▸ hb)
            have hov : ∀ b c, j ≤ b → b < j + cv.length → cs[b]? = some c → ∀ nn z e, c ≠ .own nn z e := by
              intro b c hb1 hb2 hc
              refine noOwnB_get hno (b - j) c ?_
              rw [takeL_eq, dropN_eq, List.getElem?_take, if_pos (by omega), List.getElem?_drop, show j + (b - j) = b by omega]
              exact hc
            obtain ⟨at1, at2', at3⟩ := rowPut_at hput hov pl.path nn true els r els' hr hcs hrp
            have hlroot : pl.root < s.h.length := nthO_lt hob
            have hroot2 : nthO h2 pl.root = nthO s.h pl.root ∧ ∀ k, ab k ≠ some pl.root := by
              rcases l6 pl.root with h0 | ⟨h0, _⟩
              · exact h0
              · rw [h0] at hnd; simp [deadO] at hnd
            have hget : ∀ r', nthO (setO h2 pl.root (.row nn zr els')) r' = if r' = pl.root then some (.row nn zr els') else nthO h2 r' := fun r' => by
              rw [nthO_setO]
              by_cases e : r' = pl.root
              · rw [if_pos ⟨e, by omega⟩, if_pos e]
              · rw [if_neg (fun h => e h.1), if_neg e]
            -- what took up what
            have htk : ∀ k r', ab k = some r' → ∃ nn' z' e0, cv[k]? = some (.own nn' z' e0) ∧ nthO s.h r' = some (.row nn' z' e0) ∧ r' ≠ pl.root := by
              intro k r' hk
              have hlt := l4 k r' hk
              obtain ⟨x, _, hx⟩ := l3 k _ (List.getElem?_eq_getElem hlt)
              rw [hk] at hx
              obtain ⟨nn', z', e0, h1, h2, _⟩ := hx
              refine ⟨nn', z', e0, by rw [List.getElem?_eq_getElem hlt, h1], h2, fun e => ?_⟩
              exact hroot2.2 k (e ▸ hk)
            have hback : ∀ π, OkP s.h π → backS pl i j ab π = π := by
              intro π v
              refine backS_old fun er k q hk e => ?_
              unfold OkP at v
              rw [er, hob] at v
              cases hak : ab k with
              | none => exact hk hak
              | some r' => exact (at3 π.path v).2 k q (l4 k r' hak) e
            -- the places behind the store, and where they come from
            have hvp' : ∀ π, VP (setO h2 pl.root (.row nn zr els')) π → VP s.h (backS pl i j ab π) ∧ (backS pl i j ab π = π ∧ (∀ k, ab k ≠ some π.root) ∨ ∃ k r' q', ab k = some r' ∧ π = ⟨pl.root, pl.path ++ (i, j + k) :: q'⟩ ∧ backS pl i j ab π = ⟨r', q'⟩) := by
              intro π v
              have h0 := hget π.root
              by_cases er : π.root = pl.root
              · rw [if_pos er] at h0
                unfold VP at v
                rw [h0] at v
                obtain ⟨e, he⟩ := v
                rcases at2' π.path true e he with ⟨e', h1, h2'⟩ | ⟨k, q', nn', z0, e0, h1, h2', h3⟩
                · have hbk : backS pl i j ab π = π := backS_old fun _ k q hk e => by
                    cases hak : ab k with
                    | none => exact hk hak
                    | some r' => exact h2' k q (l4 k r' hak) e
                  rw [hbk]
                  refine ⟨?_, .inl ⟨rfl, fun k hk => hroot2.2 k (er ▸ hk)⟩⟩
                  have := VP_row (p := π.path) hob h1
                  rw [← er] at this
                  exact this
                · cases hak : ab k with
                  | none =>
                    obtain ⟨x, _, hx⟩ := l3 k _ h2'
                    rw [hak] at hx
                    cases hx
                  | some r' =>
                    obtain ⟨nn1, z1, e1, g1, g2, _⟩ := htk k r' hak
                    rw [g1] at h2'
                    cases h2'
                    have hπ : π = ⟨pl.root, pl.path ++ (i, j + k) :: q'⟩ := by cases π; simp_all
                    rw [hπ, backS_new hak]
                    exact ⟨VP_row g2 h3, .inr ⟨k, r', q', hak, rfl, rfl⟩⟩
              · rw [if_neg er] at h0
                have hbk : backS pl i j ab π = π := backS_old fun e => absurd e er
                rw [hbk]
                rcases l6 π.root with ⟨h1, h2'⟩ | ⟨h1, _⟩
                · exact ⟨(VP_congr (h0.trans h1)).1 v, .inl ⟨rfl, h2'⟩⟩
                · unfold VP at v
                  rw [h0, h1] at v
                  exact v.elim
            refine OpS.skip (w' := w.setCells (g.β pl) (i * z'' + j) (a.eval vl).cells.toList) (s' := ⟨s.t, setO h2 pl.root (.row nn zr els')⟩) (g' := g.back (backS pl i j ab)) ?_ h ?_
            · simp only [execOp, ho, hev, Sem.run_bind, hrun, Result.andThen_ok]
              rfl
            · have hok' : ∀ π, OkP s.h π → OkP (setO h2 pl.root (.row nn zr els')) π ∧ (g.back (backS pl i j ab)).β π = g.β π ∧ (g.back (backS pl i j ab)).C π = g.C π := by
                intro π v
                refine ⟨?_, by simp only [G.back]; rw [hback π v], by simp only [G.back]; rw [hback π v]⟩
                have h0 := hget π.root
                by_cases er : π.root = pl.root
                · rw [if_pos er] at h0
                  unfold OkP at v ⊢
                  rw [h0]
                  rw [er, hob] at v
                  exact (at3 π.path v).1
                · rw [if_neg er] at h0
                  rcases l6 π.root with ⟨h1, _⟩ | ⟨h1, _⟩
                  · exact (OkP_congr (h0.trans h1)).2 v
                  · unfold OkP
                    rw [h0, h1]
                    trivial
              refine Sim.chg (t := s.t) (h := s.h) (h' := setO h2 pl.root (.row nn zr els')) (g' := g.back (backS pl i j ab)) hs ⟨k6, k7, k8, by omega, fun b _ hn => k4 b fun e => hn pl hvp e.symm, fun b hb => hb, fun b hb => .inl hb, fun π v => .inl ⟨backS pl i j ab π, (hvp' π v).1, rfl⟩,
                fun π1 π2 v1 v2 e => ?_, fun π v => hs.hok.dis _ (hvp' π v).1, fun r1 ob e => ?_, by rw [setO_eq]; simp; omega, fun r1 hr1 hnf => ?_⟩ hok' ?_
              · obtain ⟨u1, c1⟩ := hvp' π1 v1
                obtain ⟨u2, c2⟩ := hvp' π2 v2
                have e3 := hs.hok.inj _ _ u1 u2 e
                rcases c1 with ⟨b1, n1⟩ | ⟨m1, r1, p1, a1, p1e, b1⟩ <;> rcases c2 with ⟨b2, n2⟩ | ⟨m2, r2, p2, a2, p2e, b2⟩
                · rw [← b1, ← b2]; exact e3
                · rw [b1, b2] at e3
                  rw [e3] at n1
                  exact absurd a2 (n1 m2)
                · rw [b1, b2] at e3
                  rw [← e3] at n2
                  exact absurd a1 (n2 m1)
                · rw [b1, b2] at e3
                  simp only [Place.mk.injEq] at e3
                  obtain ⟨rfl, rfl⟩ := e3
                  have := l5 m1 m2 r1 a1 a2
                  subst this
                  rw [p1e, p2e]
              · rw [hget] at e
                split at e
                · rename_i er
                  cases e
                  subst er
                  refine RowR.update (g' := g.back (backS pl i j ab)) (z' := z'') (us := (a.eval vl).cells.toList) l1.symm hput him (fun _ h => h) hcvne pl.path ⟨pl.root, []⟩ nn true zr els r els' hrow hr hcs (by rw [hpl]; exact hrow2) hrp ?_ ?_ (by rw [hpl]; exact k4) ?_ ?_
                  · intro q1 e1 hq1 hqp e2
                    have hv1 : VP s.h ((⟨pl.root, []⟩ : Place).app q1) := by
                      have := VP_row (p := q1) hob hq1
                      simpa [Place.app] using this
                    have := hs.hok.inj _ _ hv1 (by rw [hpl]; exact hvp) e2
                    rw [hpl] at this
                    apply hqp
                    have h2 := congrArg Place.path this
                    simpa [Place.app] using h2
                  · intro q1 nb1 e1 hq1
                    have hv1 : OkP s.h ((⟨pl.root, []⟩ : Place).app q1) := by
                      have := OkP_row (p := q1) hob hq1
                      simpa [Place.app] using this
                    exact (hok' _ hv1).2
                  · rw [hpl]
                    intro k0 c hk0
                    obtain ⟨x, hx, hcx⟩ := l3 k0 c hk0
                    refine ⟨x, hx, ?_⟩
                    split at hcx
                    · rename_i e0
                      exact .im _ _ _ (hcx.mono him fun _ h => h)
                    · rename_i r' e0
                      obtain ⟨nn', z0, e1, rfl, g2, g3⟩ := hcx
                      obtain ⟨_, _, _, _, _, hner⟩ := htk k0 r' e0
                      have hbn : ∀ p0, backS pl i j ab ((pl.snoc i (j + k0)).app p0) = ⟨r', p0⟩ := by
                        intro p0
                        have : (pl.snoc i (j + k0)).app p0 = ⟨pl.root, pl.path ++ (i, j + k0) :: p0⟩ := by simp [Place.app, Place.snoc]
                        rw [this, backS_new e0]
                      refine g3.move him (fun _ h => h) fun n5 z5 e5 h5 => ?_
                      cases h5
                      refine ⟨him, fun _ h => h, fun p0 e' hp0 => ?_, fun p0 e' hp0 => ?_, fun p0 nb0 e' hp0 => ?_⟩
                      · refine k4 _ fun e7 => hner ?_
                        have hv2 : VP s.h ((⟨r', []⟩ : Place).app p0) := by
                          have := VP_row (p := p0) g2 hp0
                          simpa [Place.app] using this
                        have := congrArg Place.root (hs.hok.inj _ _ hv2 hvp e7)
                        simpa [Place.app] using this
                      · simp only [G.back, hbn]; simp [Place.app]
                      · simp only [G.back, hbn]; simp [Place.app]
                  · rw [hpl]
                    intro cur2 t2 fr2 hb2
                    rw [hb] at hb2
                    cases hb2
                    exact ⟨cur', k1, k2, fun m => k3 m⟩
                · rename_i er
                  rcases l6 r1 with ⟨h1, h2'⟩ | ⟨h1, _⟩
                  · rw [h1] at e
                    have hne : ∀ π, VP s.h π → π.root = r1 → (w.setCells (g.β pl) (i * z'' + j) (a.eval vl).cells.toList).heap[g.β π]? = w.heap[g.β π]? := by
                      intro π v e2
                      refine k4 _ fun e3 => er ?_
                      rw [← e2, hs.hok.inj _ _ v hvp e3]
                    refine (hs.hok.ob r1 ob e).keep him (fun _ h => h) (fun d1 d2 d3 => ⟨hne _ (VP_root e d1 d2 d3) rfl, (hok' _ (VP_ok (VP_root e d1 d2 d3))).2⟩) (fun nn z els p e' e2 hp => ?_) (fun nn z els p nb e' e2 hp => ?_) fun π hp => (hok' π (hs.refH _ _ e π hp)).2
                    · subst e2
                      exact ⟨hne _ (VP_row e hp) rfl, (hok' _ (VP_ok (VP_row e hp))).2.1⟩
                    · subst e2
                      exact (hok' _ (OkP_row e hp)).2.2
                  · rw [h1] at e
                    cases e
                    trivial
              · rw [hget]
                split
                · rename_i er
                  refine ⟨by simp, ?_⟩
                  rw [er]
                  exact (hok' _ (OkP_root hob (by simp))).2
                · have hlt : r1 < s.h.length := Nat.lt_of_lt_of_le hr1 hs.frm.len
                  have : ∃ o, nthO s.h r1 = some o := by rw [nthO_eq]; exact ⟨_, List.getElem?_eq_getElem hlt⟩
                  obtain ⟨o1, ho1⟩ := this
                  refine ⟨?_, (hok' _ (OkP_root ho1 (fun e => hnf (e ▸ ho1)))).2⟩
                  rcases l6 r1 with ⟨h1, _⟩ | ⟨h1, _⟩
                  · rw [h1]; exact hnf
                  · rw [h1]; simp
              · intro r1 ob e π hp
                rw [hget] at e
                split at e
                · cases e; simp [plsOb] at hp
                · rcases l6 r1 with ⟨h1, _⟩ | ⟨h1, _⟩
                  · rw [h1] at e
                    exact (hok' π (hs.refH _ _ e π hp)).1
                  · rw [h1] at e
                    cases e
                    simp [plsOb] at hp
        · exact h.elim
      · exact h.elim
    · exact h.elim
  · exact h.elim
end

end Go.Ab
/- Single operations are sound: slice literals, make, bytes and strings, parts of slices. -/
set_option linter.unusedVariables false
set_option linter.unusedSimpArgs false
namespace Go.Ab

theorem putCells_some {α : Type} : ∀ (cs vs : List α) (j : Nat), j + vs.length ≤ cs.length → ∃ r, putCells cs j vs = some r
  | [], vs, j, h => by
    simp only [List.length_nil] at h
    have h1 : vs = [] := List.eq_nil_of_length_eq_zero (by omega)
    have h2 : j = 0 := by omega
    subst h1
    subst h2
    exact ⟨[], rfl⟩
  | c :: cs, [], 0, h => ⟨_, rfl⟩
  | c :: cs, v :: vs, 0, h => by
    obtain ⟨r, hr⟩ := putCells_some cs vs 0 (by simp at h ⊢; omega)
    exact ⟨v :: r, by simp [putCells, hr]⟩
  | c :: cs, vs, j + 1, h => by
    obtain ⟨r, hr⟩ := putCells_some cs vs j (by simp at h ⊢; omega)
    exact ⟨c :: r, by cases vs <;> simp [putCells, hr]⟩

section
variable {P : Program} {o : Oper} {Γ : Ctx} {s : AS} {a : Act} {w : World} {g : G} {k kp : TV → AS → Prop} {sl : Option Nat}

/-- Elements in cells. -/
def LR (w : World) (g : G) (z : Nat) (els : List (List TV)) (cur : Array Value) : Prop :=
  (∀ e ∈ els, e.length = z) ∧ ∀ i e, els[i]? = some e → ∃ vs : List Value, TRL w g e vs ∧ ∀ (k : Nat) (x : Value), vs[k]? = some x → cur[i * z + k]? = some x

theorem fill_slice (hs : Sim Γ s a.tmps w g) {z n : Nat} (hz : 0 < z) : ∀ (ps : List (Nat × Operand)) (qs : List (Nat × X)) (els r : List (List TV)) (cur : Array Value),
    slParts ps = some qs → ps.all (·.1 < n) = true → els.length = n → cur.size = n * z → LR w g z els cur → wpK.bslC s.ev z els qs = some r →
    ∃ cur', Instr.fill (fun i => some (i * z, z)) cur (ps.map fun p => (p.1, a.eval p.2)) = some cur' ∧ cur'.size = n * z ∧ r.length = n ∧ LR w g z r cur'
  | [], qs, els, r, cur, hq, ha, hl, hc, hlr, hb => by
    simp only [slParts, Option.some.injEq] at hq
    subst hq
    simp only [wpK.bslC, Option.some.injEq] at hb
    subst hb
    exact ⟨cur, rfl, hc, hl, hlr⟩
  | (i, y) :: ps, qs, els, r, cur, hq, ha, hl, hc, hlr, hb => by
    simp only [slParts] at hq
    split at hq
    · rename_i x rest hx hr
      simp only [Option.some.injEq] at hq
      subst hq
      simp only [wpK.bslC] at hb
      split at hb
      · rename_i hlen
        simp only [List.all_cons, Bool.and_eq_true, decide_eq_true_eq] at ha
        obtain ⟨ht, _⟩ := hs.ev' hx
        obtain ⟨hcells, hsz⟩ := cells_len ht hlen hz
        have hcl : (a.eval y).cells.toList.length = z := by simpa using hsz
        have hfit : i * z + z ≤ n * z := by
          have : (i + 1) * z ≤ n * z := Nat.mul_le_mul_right _ ha.1
          rwa [Nat.add_mul, Nat.one_mul] at this
        obtain ⟨q, hq⟩ := putCells_some cur.toList (a.eval y).cells.toList (i * z) (by rw [hcl]; simp; omega)
        obtain ⟨q1, q2, q3⟩ := putCells_get hq
        rw [setO_eq] at hb
        have hlr' : LR w g z (els.set i (cellsOf (s.ev x))) q.toArray := by
          refine ⟨fun e he => ?_, fun m e hm => ?_⟩
          · rcases List.mem_or_eq_of_mem_set he with he | rfl
            · exact hlr.1 e he
            · exact isLen_eq hlen
          · by_cases e1 : m = i
            · subst e1
              rw [List.getElem?_set_self (by omega)] at hm
              cases hm
              refine ⟨_, hcells, fun j v hj => ?_⟩
              have hjl := (List.getElem?_eq_some_iff.1 hj).1
              have := q3 (m * z + j)
              rw [if_pos (by omega), show m * z + j - m * z = j by omega, hj] at this
              simpa using this
            · rw [List.getElem?_set_ne (by omega)] at hm
              obtain ⟨vs, hvs, hk⟩ := hlr.2 m e hm
              refine ⟨vs, hvs, fun j v hj => ?_⟩
              have hjl := (List.getElem?_eq_some_iff.1 hj).1
              have hvl : vs.length = z := by rw [← hvs.length]; exact hlr.1 e (List.mem_of_getElem? hm)
              have := q3 (m * z + j)
              rw [if_neg] at this
              · have h2 := hk j v hj
                simp at this ⊢
                rw [this]
                exact h2
              · intro ⟨h1, h2⟩
                rcases Nat.lt_or_ge m i with hlt | hge
                · have : (m + 1) * z ≤ i * z := Nat.mul_le_mul_right _ hlt
                  rw [Nat.add_mul] at this
                  omega
                · have : (i + 1) * z ≤ m * z := Nat.mul_le_mul_right _ (by omega)
                  rw [Nat.add_mul] at this
                  omega
        obtain ⟨cur', h1, h2, h3, h4⟩ := fill_slice hs hz ps rest _ r q.toArray hr ha.2 (by simpa using hl) (by simp [q1, hc]) hlr' hb
        refine ⟨cur', ?_, h2, h3, h4⟩
        simp only [List.map_cons, Instr.fill]
        rw [if_neg (by simp [hsz]; omega)]
        have hf : ((a.eval y).cells.zipIdx.foldl (fun cs (x : Value × Nat) => cs.setIfInBounds (i * z + x.2) x.1) cur) = q.toArray := by
          have := fold_put (a.eval y).cells.toList cur (i * z) q hq
          rw [← Array.foldl_toList]
          apply Array.ext'
          simpa using this
        rw [hf]
        exact h1
      · cases hb
    · cases hq

theorem bsl_ids {z : Nat} : ∀ (qs : List (Nat × X)) (els r : List (List TV)), (∀ q ∈ qs, RefV s.h (s.ev q.2)) → (∀ i ∈ plsLL els, OkP s.h i) → wpK.bslC s.ev z els qs = some r → ∀ i ∈ plsLL r, OkP s.h i
  | [], els, r, _, hc, hb => by simp only [wpK.bslC, Option.some.injEq] at hb; subst hb; exact hc
  | (j, x) :: qs, els, r, hq, hc, hb => by
    simp only [wpK.bslC] at hb
    split at hb
    · refine bsl_ids qs _ r (fun q h => hq q (List.mem_cons_of_mem _ h)) ?_ hb
      intro i hi
      rw [setO_eq] at hi
      obtain ⟨e, he, hie⟩ := plsLL_mem.1 hi
      rcases List.mem_or_eq_of_mem_set he with he | rfl
      · exact hc i (plsLL_mem.2 ⟨e, he, hie⟩)
      · exact hq _ (List.mem_cons_self ..) i (cellsOf_ids hie)
    · cases hb
theorem slParts_ids (hs : Sim Γ s a.tmps w g) : ∀ (ps : List (Nat × Operand)) (qs : List (Nat × X)), slParts ps = some qs → ∀ q ∈ qs, RefV s.h (s.ev q.2)
  | [], qs, hq => by simp only [slParts, Option.some.injEq] at hq; subst hq; simp
  | (j, y) :: ps, qs, hq => by
    simp only [slParts] at hq
    split at hq
    · rename_i x rest hx hr
      simp only [Option.some.injEq] at hq
      subst hq
      intro q hq
      rcases List.mem_cons.1 hq with rfl | hq
      · exact (hs.ev' hx).2
      · exact slParts_ids hs ps rest hr q hq
    · cases hq

theorem bsl_sound (hs : Sim Γ s a.tmps w g) (hsl : SlotOk sl s.h) {t e : TypeId} {n z : Nat} {ps : Array (Nat × Operand)} {zs : List PV} {qs : List (Nat × X)} (ho : o.op = .buildSlice t n ps) (ht : P.underlying t = some (.slice e))
    (he : sizeT P e = some z) (hz : zeroT P e = some zs) (hq : slParts ps.toList = some qs) (hsmall : n * z ≤ 2 ^ 24) (hpos : 0 < z) (hzl : zs.length = z) (hall : ps.toList.all (·.1 < n) = true)
    (h : wpS stdI stdB stdE sl (.bsl z (List.replicate n zs) qs) s k kp) : OpS P o Γ a.tmps a w k kp := by
  obtain ⟨ie, zv, hi, hz1, hz2⟩ := zeroT_eq hz
  have hsize : ie.size = z := by
    unfold sizeT at he
    simpa [hi] using he
  have hzc : zv.cells.size = z := by
    have := (constL_ok (w := w) (g := g) hz2).length
    rw [plainP_length, hzl] at this
    simpa using this.symm
  have hn24 : n ≤ 2 ^ 24 := Nat.le_trans (Nat.le_mul_of_pos_right _ hpos) hsmall
  simp only [wpS, wpK] at h
  split at h
  · rename_i els hb
    let cur0 : Array Value := (Array.range (n * z)).map (zv.cells[· % zv.cells.size]!)
    have hc0 : cur0.size = n * z := by simp [cur0]
    have hlr0 : LR w g z ((List.replicate n zs).map plainP) cur0 := by
      refine ⟨fun e he => ?_, fun i e hi' => ?_⟩
      · obtain ⟨x, hx, rfl⟩ := List.mem_map.1 he
        rw [List.eq_of_mem_replicate hx, plainP_length, hzl]
      · simp only [List.getElem?_map, Option.map_eq_some_iff] at hi'
        obtain ⟨x, hx, rfl⟩ := hi'
        have hin := (List.getElem?_eq_some_iff.1 hx).1
        simp at hin
        rw [List.eq_of_mem_replicate (List.mem_of_getElem? hx)]
        refine ⟨zv.cells.toList, constL_ok hz2, fun j v hj => ?_⟩
        have hjl := (List.getElem?_eq_some_iff.1 hj).1
        simp [hzc] at hjl
        have hfit : i * z + j < n * z := by
          have : (i + 1) * z ≤ n * z := Nat.mul_le_mul_right _ hin
          rw [Nat.add_mul] at this
          omega
        have hmod : (i * z + j) % z = j := by rw [Nat.mul_comm, Nat.mul_add_mod]; exact Nat.mod_eq_of_lt hjl
        simp only [cur0, Array.getElem?_map]
        rw [Array.getElem?_range, if_pos hfit]
        simp only [Option.map_some, hzc, hmod]
        have h2 : zv.cells[j]? = some v := by simpa using hj
        rw [getElem!_def, h2]
    obtain ⟨cur, h1, h2, h3, h4⟩ := fill_slice hs hpos ps.toList qs _ els cur0 hq hall (by simp) hc0 hlr0 hb
    have hrun : (Instr.buildSlice t n (ps.map fun (i, x) => (i, a.eval x))).run P w = .ok (.slice (some ⟨w.heap.size, 0, none⟩) n n) (w.alloc (.cells cur e)) := by
      have hl : (ps.map fun (i, x) => (i, a.eval x)).toList = ps.toList.map fun p => (p.1, a.eval p.2) := by simp
      rcases Nat.eq_zero_or_pos n with h0 | h0
      · subst h0
        have hps : ps.toList = [] := by
          cases hp : ps.toList with
          | nil => rfl
          | cons p l => rw [hp] at hall; simp at hall
        rw [hps] at h1
        simp only [List.map_nil, Instr.fill, Option.some.injEq] at h1
        have hcur : cur = #[] := Array.eq_empty_of_size_eq_zero (by simpa using h2)
        subst hcur
        have hps2 : ps = #[] := by simpa using hps
        subst hps2
        simp [Instr.buildSlice, run_underlying ht, sizeOf, typeInfo, hi, newRow, Instr.fill]
        congr 2
        exact Array.eq_empty_of_size_eq_zero (by simp)
      · refine run_buildSlice w t e n _ cur ie zv ht hi hz1 (by rw [hsize]; omega) ?_ ?_
        · rw [hsize]
          intro h
          rcases Nat.mul_eq_zero.1 h with h | h <;> omega
        · rw [hsize, hl]
          exact h1
    have hb0 : (w.alloc (.cells cur e)).heap[w.heap.size]? = some (.cells cur e) := heap_alloc_new w _
    have hids : ∀ i ∈ plsLL els, OkP s.h i := by
      refine bsl_ids qs _ els (slParts_ids hs _ _ hq) ?_ hb
      intro i hi'
      obtain ⟨e', he', hie⟩ := plsLL_mem.1 hi'
      obtain ⟨x, hx, rfl⟩ := List.mem_map.1 he'
      simp [plainP_ids] at hie
    refine new_sound hs hsl (n := (n * z, n)) cur e (ob := .lit z els) (x := .slice (some ⟨w.heap.size, 0, none⟩) n n) (by trivial) (by simp) (by simpa [plsOb] using hids) ?_ ?_ h ?_ ?_
    · have hβ : (g.new (newI sl s.h) w.heap.size (n * z, n)).β ⟨newI sl s.h, []⟩ = w.heap.size := by simp [G.new]
      have hC : (g.new (newI sl s.h) w.heap.size (n * z, n)).C ⟨newI sl s.h, []⟩ = (n * z, n) := by simp [G.new]
      refine ⟨cur, e, (0, 0), by rw [hβ]; exact hb0, NF0, by rw [hC, h2]; exact Nat.le_refl _, by rw [hC, h3]; exact Nat.le_refl _, by rw [hC, h3], hpos, h4.1, fun i e' he' => ?_⟩
      obtain ⟨vs, hvs, hk⟩ := h4.2 i e' he'
      exact ⟨vs, TRL.new hs.hok hsl hvs (fun j hj => hids j (plsLL_mem.2 ⟨e', List.mem_of_getElem? he', hj⟩)) _ _, hk⟩
    · simp only [execOp, ho, Sem.run_bind, hrun, Result.andThen_ok]
      rfl
    · have := TR.sl1 (w := w.alloc (.cells cur e)) (g := g.new (newI sl s.h) w.heap.size (n * z, n)) ⟨newI sl s.h, []⟩ z 0 n n (Nat.le_refl _) (by simp only [maxLen]; omega) (by simp [G.new]) (by simp [G.new])
      simpa [G.new] using this
    · intro i hi'
      simpa [plsV] using hi'
  · exact h.elim
end

end Go.Ab
/- Single operations are sound: bytes and strings, make, parts of slices. -/
set_option linter.unusedVariables false
set_option linter.unusedSimpArgs false
namespace Go.Ab

section
variable {P : Program} {o : Oper} {Γ : Ctx} {s : AS} {a : Act} {w : World} {g : G} {k kp : TV → AS → Prop} {sl : Option Nat}

theorem u8s_at {l : List UInt8} {j : Nat} (h : j < l.length) : at2 (u8s l) j 0 = some (.int .u8 l[j].toNat) := by
  simp [at2, u8s, h]

theorem b2s_sound (hs : Sim Γ s a.tmps w g) {t u e : TypeId} {y : Operand} {x : X} (ho : o.op = .convert t u y) (ht : P.underlying t = some (.slice e)) (he : P.underlying e = some (.int .u8)) (hu : P.underlying u = some .string)
    (h1 : opX y = some x) (h : wpS stdI stdB stdE sl (.b2s x) s k kp) : OpS P o Γ a.tmps a w k kp := by
  obtain ⟨hv, _⟩ := hs.ev' h1
  simp only [wpS, wpK] at h
  generalize hev : a.eval y = ax at hv
  split at h
  · rename_i nn z els hc
    rw [hc] at hv
    obtain ⟨l, rfl, h⟩ := h
    cases hv with | p _ _ hv =>
    generalize hels : u8s l = els at hv
    cases hv with
    | isl0 =>
      have hl : l = [] := by
        cases l with
        | nil => rfl
        | cons c l => simp [u8s] at hels
      subst hl
      refine OpS.pure_ hs (x := .string ⟨[].toArray⟩) ?_ h (.p _ _ (.str _ (by simp [maxLen]))) refP
      have : (convert t u (.slice none 0 0)).run P w = .ok (.string ⟨[].toArray⟩) w := by
        simp [convert, run_underlying ht, run_underlying hu, run_underlying he, Conv.bytesToString]
        rfl
      simp only [execOp, ho, hev, Sem.run_bind, this, Result.andThen_ok]
      rfl
    | isl1 _ _ ad cap vs hsp hI hl hm hz hcell hr =>
      subst hels
      have hlen : (u8s l).length = l.length := by simp [u8s]
      refine OpS.pure_ hs (x := .string ⟨l.toArray⟩) ?_ h (.p _ _ (.str _ (by omega))) refP
      have := run_convert_bytes_back (P := P) w t u e ad cap l ht he hu fun j hj => by
        have hat := u8s_at hj
        have h1 := hcell j 0 _ hat
        have h2 := hr j 0 _ hat
        have hz1 : z = 1 := by
          have := hz [.int .u8 l[j].toNat] (by simp only [u8s, List.mem_map]; exact ⟨l[j], List.getElem_mem hj, rfl⟩)
          simpa using this.symm
        subst hz1
        generalize vs j 0 = v at h1 h2
        cases h2
        have hsp := hsp (by rintro e; rw [e] at hlen; simp at hlen; omega)
        obtain ⟨b, off, sp⟩ := ad
        simp only at hsp
        subst hsp
        simpa [Addr.add_mid] using h1
      rw [hlen] at hev
      simp only [execOp, ho, hev, Sem.run_bind, this, Result.andThen_ok]
      rfl
  · rename_i nn0 pl z off len hc
    rw [hc] at hv
    split at h
    · rename_i nn zr els hob
      obtain ⟨b, r, l, hr, hsub, hlen, hz1, h⟩ := h
      have hrow : RowR w g ⟨pl.root, []⟩ nn zr els := hs.hok.ob _ _ hob
      obtain ⟨z'', hrow2⟩ := hrow.at_ hr
      have hpl : (⟨pl.root, []⟩ : Place).app pl.path = pl := by cases pl; simp [Place.app]
      rw [hpl] at hrow2
      subst hz1
      cases hv with
      | sl0 =>
        have hl0 : l = [] := List.eq_nil_of_length_eq_zero (by omega)
        subst hl0
        refine OpS.pure_ hs (x := .string ⟨[].toArray⟩) ?_ h (.p _ _ (.str _ (by simp [maxLen]))) refP
        have : (convert t u (.slice none 0 0)).run P w = .ok (.string ⟨[].toArray⟩) w := by
          simp [convert, run_underlying ht, run_underlying hu, run_underlying he, Conv.bytesToString]
          rfl
        simp only [execOp, ho, hev, Sem.run_bind, this, Result.andThen_ok]
        rfl
      | sl1 _ _ off len cap hl hm hcap hN =>
      have hll : l.length = len := by omega
      simp only [stdE, Int.toNat_natCast] at hsub
      refine OpS.pure_ hs (x := .string ⟨l.toArray⟩) ?_ h (.p _ _ (.str _ (by omega))) refP
      have := run_convert_bytes_back (P := P) w t u e ⟨g.β pl, off * 1, none⟩ cap l ht he hu fun j hj => by
        have hj2 : r[off + j]? = some [.int .u8 l[j].toNat] := by
          have h3 : (u8s l)[j]? = some [.int .u8 l[j].toNat] := by simp [u8s, hj]
          rw [← hsub, List.getElem?_take, if_pos (by omega), List.getElem?_drop] at h3
          exact h3
        obtain ⟨vs, hvs, hk⟩ := hrow2.cells hj2
        have hz2 : z'' = 1 := by
          have := hrow2.cons_ hj2
          simpa using this.symm
        subst hz2
        cases hvs with
        | cons _ v0 _ _ hv0 _ =>
          have := tr_int hv0
          subst this
          have := hk 0 _ rfl
          rw [Addr.add_mid]
          simpa [Nat.add_mul] using this
      rw [hll] at this
      simp only [execOp, ho, hev, Sem.run_bind, this, Result.andThen_ok]
      rfl
    · exact h.elim
  · exact h.elim

theorem s2b_sound (hs : Sim Γ s a.tmps w g) (hsl : SlotOk sl s.h) {t u e : TypeId} {y : Operand} {x : X} (ho : o.op = .convert t u y) (ht : P.underlying t = some .string) (hu : P.underlying u = some (.slice e)) (he : P.underlying e = some (.int .u8))
    (h1 : opX y = some x) (h : wpS stdI stdB stdE sl (.s2b x) s k kp) : OpS P o Γ a.tmps a w k kp := by
  obtain ⟨hv, _⟩ := hs.ev' h1
  simp only [wpS, wpK] at h
  split at h
  · rename_i l hc
    rw [hc] at hv
    obtain ⟨e1, hml⟩ := tr_str hv
    have hsz : (⟨l.toArray⟩ : ByteArray).size = l.length := by simp [ByteArray.size]
    have hge : l.length ≤ grownCap w l.length 0 e := grownCap_ge w l.length 0 e
    have hle : grownCap w l.length 0 e ≤ maxLen := grownCap_le_maxLen w l.length 0 e hml
    have hbs : (Lib.bytesCells w e ⟨l.toArray⟩).size = grownCap w l.length 0 e := by
      simp only [Lib.bytesCells, Array.size_append, Array.size_map, Array.size_replicate, hsz]
      simp
      omega
    have hconv := Lib.run_convert_string_bytes (P := P) w t u e ⟨l.toArray⟩ ht hu he
    have hnew := hs.new hsl (w' := Lib.bytesWorld w e ⟨l.toArray⟩) (.row true 1 (u8s l)) (grownCap w l.length 0 e, l.length) ?_ (by simp [plsOb]) (Lib.bytesWorld_size w e _) (fun b hb => Lib.bytesWorld_at_old w e _ b hb) rfl rfl rfl ?_
    · refine OpS.value (x := .slice (some ⟨w.heap.size, 0, none⟩) l.length (grownCap w l.length 0 e)) (w' := Lib.bytesWorld w e ⟨l.toArray⟩) (g' := g.new (newI sl s.h) w.heap.size (grownCap w l.length 0 e, l.length)) ?_ h ⟨hnew, ?_, ?_⟩
      · rw [hsz] at hconv
        simp only [execOp, ho, e1, Sem.run_bind, hconv, Result.andThen_ok]
        rfl
      · have := TR.sl1 (w := Lib.bytesWorld w e ⟨l.toArray⟩) (g := g.new (newI sl s.h) w.heap.size (grownCap w l.length 0 e, l.length)) ⟨newI sl s.h, []⟩ 1 0 l.length (grownCap w l.length 0 e) hge hle (by simp [G.new]) (by simp [G.new])
        simpa [G.new, stdI] using this
      · intro i hi
        simp only [plsV, List.mem_singleton] at hi
        subst hi
        exact newH_ok hsl (by simp)
    · intro p hp
      cases p with
      | nil => rfl
      | cons ij p =>
        obtain ⟨i, j⟩ := ij
        rw [rowAt_cons] at hp
        split at hp
        · rename_i nn' z' e' heq
          have : ∀ i j c, at2 (u8s l) i j = some c → ∃ n, c = .int .u8 n := by
            intro i j c hij
            simp only [at2, u8s, List.getElem?_map] at hij
            cases hl : l[i]? with
            | none => simp [hl] at hij
            | some b =>
              rw [hl] at hij
              cases j with
              | zero => simp at hij; exact ⟨_, hij.symm⟩
              | succ j => simp at hij
          obtain ⟨n, hn⟩ := this _ _ _ heq
          cases hn
        · simp at hp
    · have hβ : (g.new (newI sl s.h) w.heap.size (grownCap w l.length 0 e, l.length)).β ⟨newI sl s.h, []⟩ = w.heap.size := by simp [G.new]
      have hC : (g.new (newI sl s.h) w.heap.size (grownCap w l.length 0 e, l.length)).C ⟨newI sl s.h, []⟩ = (grownCap w l.length 0 e, l.length) := by simp [G.new]
      have hcell : ∀ i j c, at2 (u8s l) i j = some c → ∃ hi : i < l.length, j = 0 ∧ c = .int .u8 l[i].toNat := by
        intro i j c hij
        simp only [at2, u8s, List.getElem?_map] at hij
        cases hl : l[i]? with
        | none => simp [hl] at hij
        | some b =>
          rw [hl] at hij
          obtain ⟨hi, rfl⟩ := List.getElem?_eq_some_iff.1 hl
          cases j with
          | zero => simp at hij; exact ⟨hi, rfl, hij.symm⟩
          | succ j => simp at hij
      refine RowR.mk _ 1 (u8s l) (Lib.bytesCells w e ⟨l.toArray⟩) e _ (fun i _ => .int .u8 (l.getD i 0).toNat) (by rw [hβ]; exact Lib.bytesWorld_at_new w e _) (by rw [hC, hbs]; exact Nat.le_refl _) (fun o ho' h => by omega) ?_ (by rw [hC]; simp [u8s]; exact hge) (by rw [hC]; simp [u8s]) (by omega) ?_ ?_
      · intro e' he'
        simp only [u8s, List.mem_map] at he'
        obtain ⟨_, _, rfl⟩ := he'
        rfl
      · intro i j c hij
        obtain ⟨hi, rfl, rfl⟩ := hcell i j c hij
        simp [Lib.bytesCells, Array.getElem?_append, hi, List.getD_eq_getElem?_getD]
      · intro i j c hij
        obtain ⟨hi, rfl, rfl⟩ := hcell i j c hij
        simp [List.getD_eq_getElem?_getD, hi]
        exact .im _ _ _ (.int _ _)
  · exact h.elim

theorem mks_sound (hs : Sim Γ s a.tmps w g) (hsl : SlotOk sl s.h) {t e : TypeId} {y1 y2 : Operand} {x1 x2 : X} {ie : TypeInfo} {zs : List PV} (ho : o.op = .makeSlice t y1 y2) (ht : P.underlying t = some (.slice e)) (hi : P.info? e = some ie) (hz : zeroT P e = some zs)
    (hzl : zs.length = ie.size) (hpos : 0 < ie.size) (h1 : opX y1 = some x1) (h2 : opX y2 = some x2) (h : wpS stdI stdB stdE sl (.mks ie.size ie.bytes zs x1 x2) s k kp) : OpS P o Γ a.tmps a w k kp := by
  obtain ⟨hv1, _⟩ := hs.ev' h1
  obtain ⟨hv2, _⟩ := hs.ev' h2
  obtain ⟨ie', zv, hi', hz1, hz2⟩ := zeroT_eq hz
  rw [hi] at hi'
  cases hi'
  simp only [wpS, wpK] at h
  split at h
  · rename_i k1 n k2 m hc1 hc2
    rw [hc1] at hv1
    rw [hc2] at hv2
    have e1 := tr_int hv1
    have e2 := tr_int hv2
    obtain ⟨els, rfl, rfl, hb, hb2, h⟩ := h
    have hzc : zv.cells.size = ie.size := by
      have := (constL_ok (w := w) (g := g) hz2).length
      rw [plainP_length, hzl] at this
      simpa using this.symm
    have hno : ∀ c ∈ zs, ∀ nn z e, c ≠ .own nn z e := by
      intro c hc nn' z' e' he
      obtain ⟨i, hi', rfl⟩ := List.getElem_of_mem hc
      obtain ⟨x, _, hx⟩ := (constL_ok (w := w) (g := g) hz2).get (i := i) (c := .p zs[i]) (by rw [plainP_get]; simp [hi'])
      rw [he] at hx
      cases hx with | p _ _ hx => cases hx
    have hrun := run_make (P := P) w t e ie zv ht hi hz1 k1 k2 els els (by omega) (by omega) (by
      have : ((els * ie.bytes : Nat) : Int) ≤ 100000000000000 := by omega
      rw [Int.natCast_mul] at this
      rw [Int.mul_comm]
      omega) (by omega)
    simp only [Int.toNat_natCast] at hrun
    have hat : ∀ i j c, at2 (List.replicate els zs) i j = some c → i < els ∧ zs[j]? = some c := by
      intro i j c hij
      unfold at2 at hij
      cases hr : (List.replicate els zs)[i]? with
      | none => simp [hr] at hij
      | some e' =>
        rw [hr] at hij
        have h3 := (List.getElem?_eq_some_iff.1 hr).1
        simp at h3
        rw [List.eq_of_mem_replicate (List.mem_of_getElem? hr)] at hij
        exact ⟨h3, by simpa using hij⟩
    refine new_sound hs hsl (n := (els * ie.size, els)) (madeCells zv.cells (els * ie.size)) e (ob := .row true ie.size (List.replicate els zs)) (x := .slice (some ⟨w.heap.size, 0, none⟩) els els) ?_ (by simp) (by simp [plsOb]) ?_ ?_ h ?_ ?_
    · intro p hp
      cases p with
      | nil => rfl
      | cons ij p =>
        obtain ⟨i, j⟩ := ij
        rw [rowAt_cons] at hp
        split at hp
        · rename_i nn' z' e' heq
          obtain ⟨_, h3⟩ := hat _ _ _ heq
          exact absurd rfl (hno _ (List.mem_of_getElem? h3) _ _ _)
        · simp at hp
    · have hβ : (g.new (newI sl s.h) w.heap.size (els * ie.size, els)).β ⟨newI sl s.h, []⟩ = w.heap.size := by simp [G.new]
      have hC : (g.new (newI sl s.h) w.heap.size (els * ie.size, els)).C ⟨newI sl s.h, []⟩ = (els * ie.size, els) := by simp [G.new]
      have hrel := TRL.new hs.hok hsl (constL_ok (w := w) (g := g) hz2) (by simp [plainP_ids]) (.cells (madeCells zv.cells (els * ie.size)) e) (els * ie.size, els)
      refine RowR.mk _ ie.size _ (madeCells zv.cells (els * ie.size)) e (0, 0) (fun _ j => zv.cells.toList.getD j undef) (by rw [hβ]; exact heap_alloc_new w _) (by rw [hC, size_madeCells]; exact Nat.le_refl _) NF0 ?_ (by rw [hC]; simp) (by rw [hC]; simp) hpos ?_ ?_
      · intro e' he'
        rw [List.eq_of_mem_replicate he', hzl]
      · intro i j c hij
        obtain ⟨h3, h4⟩ := hat _ _ _ hij
        have hjl := (List.getElem?_eq_some_iff.1 h4).1
        rw [hzl] at hjl
        have hfit : i * ie.size + j < els * ie.size := by
          have : (i + 1) * ie.size ≤ els * ie.size := Nat.mul_le_mul_right _ h3
          rw [Nat.add_mul] at this
          omega
        have hmod : (i * ie.size + j) % ie.size = j := by rw [Nat.mul_comm, Nat.mul_add_mod]; exact Nat.mod_eq_of_lt hjl
        simp only [madeCells, Array.getElem?_map]
        rw [Array.getElem?_range, if_pos hfit]
        simp only [Option.map_some, hzc, hmod]
        rw [getElem!_def]
        simp [List.getD_eq_getElem?_getD, show j < zv.cells.size by omega]
      · intro i j c hij
        obtain ⟨h3, h4⟩ := hat _ _ _ hij
        obtain ⟨x, hx, htr⟩ := hrel.get (i := j) (c := .p c) (by rw [plainP_get]; simp [h4])
        cases htr with
        | p _ _ hir =>
          refine .im _ _ _ ?_
          simp only [List.getD_eq_getElem?_getD, hx, Option.getD_some]
          exact hir
    · simp only [execOp, ho, e1, e2, Sem.run_bind, hrun, Result.andThen_ok]
      rfl
    · have := TR.sl1 (w := w.alloc (.cells (madeCells zv.cells (els * ie.size)) e)) (g := g.new (newI sl s.h) w.heap.size (els * ie.size, els)) ⟨newI sl s.h, []⟩ ie.size 0 els els (Nat.le_refl _) (by simp only [maxLen]; omega) (by simp [G.new])
      simpa [G.new] using this
    · intro i hi'
      simpa [plsV] using hi'
  · exact h.elim

/-! ### parts -/
theorem run_bounds {isS : Bool} {len cap : Nat} {lo hi mx : Option Value} {va vb vm : Nat} (hm : match mx with | none => vm = cap | some v => ∃ q, v = .int q vm) (hh : match hi with | none => vb = len ∧ mx = none | some v => ∃ q, v = .int q vb)
    (hl : match lo with | none => va = 0 | some v => ∃ q, v = .int q va) (h1 : va ≤ vb) (h2 : vb ≤ vm) (h3 : vm ≤ cap) : (Instr.sliceBounds isS len cap lo hi mx).run P w = .ok (va, vb, vm) w := by
  have sb : ∀ (q : IntKind) (n y : Nat) (c : BoundsCode), n ≤ y → (Instr.sliceBound (.int q n) y c).run P w = .ok n w := fun q n y c h => by
    have := run_sliceBound (P := P) (w := w) q (n : Int) y c (by omega) (by omega)
    simpa using this
  cases mx with
  | none =>
    simp only at hm
    subst hm
    cases hi with
    | none =>
      obtain ⟨rfl, _⟩ := hh
      cases lo with
      | none => simp only at hl; subst hl; simp [Instr.sliceBounds]
      | some v => obtain ⟨q, rfl⟩ := hl; simp [Instr.sliceBounds, sb _ _ _ _ h1]
    | some v =>
      obtain ⟨q, rfl⟩ := hh
      cases lo with
      | none => simp only at hl; subst hl; simp [Instr.sliceBounds, sb _ _ _ _ h2]
      | some v => obtain ⟨q', rfl⟩ := hl; simp [Instr.sliceBounds, sb _ _ _ _ h1, sb _ _ _ _ h2]
  | some v =>
    obtain ⟨q, rfl⟩ := hm
    cases hi with
    | none => exact absurd hh.2 (by simp)
    | some v =>
      obtain ⟨q1, rfl⟩ := hh
      cases lo with
      | none => simp only at hl; subst hl; simp [Instr.sliceBounds, sb _ _ _ _ h2, sb _ _ _ _ h3]
      | some v => obtain ⟨q', rfl⟩ := hl; simp [Instr.sliceBounds, sb _ _ _ _ h1, sb _ _ _ _ h2, sb _ _ _ _ h3]

theorem evO_sound (hs : Sim Γ s a.tmps w g) {y : Option Operand} {x : Option X} (h : opO y = some x) {n : Nat} {d : Prop} (hv : match evO s.ev x with | none => d | some (.p (.int _ v)) => v = (n : Int) | _ => False) :
    (y = none ∧ x = none ∧ d) ∨ ∃ y', y = some y' ∧ ∃ q, a.eval y' = .int q n := by
  cases y with
  | none => simp only [opO, Option.some.injEq] at h; subst h; exact .inl ⟨rfl, rfl, hv⟩
  | some y =>
    simp only [opO, Option.map_eq_some_iff] at h
    obtain ⟨x', hx, rfl⟩ := h
    right
    refine ⟨y, rfl, ?_⟩
    obtain ⟨ht, _⟩ := hs.ev' hx
    simp only [evO] at hv
    split at hv
    · rename_i heq; cases heq
    · rename_i q v heq
      simp only [Option.some.injEq] at heq
      rw [heq] at ht
      have := tr_int ht
      subst hv
      exact ⟨q, this⟩
    · exact hv.elim

theorem ssl_sound (hs : Sim Γ s a.tmps w g) {t : TypeId} {y : Operand} {lo hi : Option Operand} {x : X} {xl xh : Option X} (ho : o.op = .slice t y lo hi none) (ht : P.underlying t = some .string) (h1 : opX y = some x) (h2 : opO lo = some xl) (h3 : opO hi = some xh)
    (h : wpS stdI stdB stdE sl (.ssl x xl xh) s k kp) : OpS P o Γ a.tmps a w k kp := by
  obtain ⟨hv, _⟩ := hs.ev' h1
  simp only [wpS, wpK] at h
  split at h
  · rename_i l hc
    rw [hc] at hv
    obtain ⟨e1, hml⟩ := tr_str hv
    obtain ⟨va, vb, r, hlo, hhi, hab, hbl, rfl, h⟩ := h
    have hsz : (⟨l.toArray⟩ : ByteArray).size = l.length := by simp [ByteArray.size]
    have b1 : match lo.map a.eval with | none => va = 0 | some v => ∃ q, v = .int q va := by
      rcases evO_sound hs h2 hlo with ⟨rfl, _, hd⟩ | ⟨y', rfl, q, hq⟩
      · exact hd
      · exact ⟨q, hq⟩
    have b2 : match hi.map a.eval with | none => vb = l.length ∧ (none : Option Value) = none | some v => ∃ q, v = .int q vb := by
      rcases evO_sound hs h3 hhi with ⟨rfl, _, hd⟩ | ⟨y', rfl, q, hq⟩
      · exact ⟨hd, rfl⟩
      · exact ⟨q, hq⟩
    have hb := run_bounds (P := P) (w := w) (isS := false) (len := l.length) (cap := l.length) (mx := none) (vm := l.length) rfl b2 b1 hab hbl (Nat.le_refl _)
    have hex : (⟨l.toArray⟩ : ByteArray).extract va vb = ⟨((l.drop va).take (vb - va)).toArray⟩ := by
      apply WideShapes.bytes_inj
      simp [List.extract_eq_take_drop]
    refine OpS.pure_ hs (x := .string ⟨((l.drop va).take (vb - va)).toArray⟩) ?_ h (.p _ _ (.str _ (by simp; omega))) refP
    simp [execOp, ho, e1, Instr.sliceAt, Instr.slice, run_underlying ht, hsz, hb, hex]
  · exact h.elim

theorem sls_sound (hs : Sim Γ s a.tmps w g) {t e : TypeId} {y : Operand} {lo hi mx : Option Operand} {x : X} {xl xh xm : Option X} {w' : Nat} (ho : o.op = .slice t y lo hi mx) (ht : P.underlying t = some (.slice e)) (he : sizeT P e = some w')
    (h1 : opX y = some x) (h2 : opO lo = some xl) (h3 : opO hi = some xh) (h4 : opO mx = some xm) (hmh : hi = none → mx = none)
    (h : wpS stdI stdB stdE sl (.sls w' x xl xh xm) s k kp) : OpS P o Γ a.tmps a w k kp := by
  obtain ⟨hv, hf⟩ := hs.ev' h1
  unfold sizeT at he
  simp only [Option.map_eq_some_iff] at he
  obtain ⟨ti, hti, htz⟩ := he
  simp only [wpS, wpK] at h
  generalize hev : a.eval y = ax at hv
  split at h
  · rename_i nn z els hc
    rw [hc] at hv
    split at h
    · obtain ⟨va, vb, r, hlo, hhi, hab, hbl, rfl, hwz, h⟩ := h
      have hmx : mx = none := by
        cases mx with
        | none => rfl
        | some m => simp only [opO, Option.map_eq_some_iff] at h4; obtain ⟨_, _, h4⟩ := h4; cases h4
      subst hmx
      have b1 : match lo.map a.eval with | none => va = 0 | some v => ∃ q, v = .int q va := by
        rcases evO_sound hs h2 hlo with ⟨rfl, _, hd⟩ | ⟨y', rfl, q, hq⟩
        · exact hd
        · exact ⟨q, hq⟩
      have b2 : match hi.map a.eval with | none => vb = els.length ∧ (none : Option Value) = none | some v => ∃ q, v = .int q vb := by
        rcases evO_sound hs h3 hhi with ⟨rfl, _, hd⟩ | ⟨y', rfl, q, hq⟩
        · exact ⟨hd, rfl⟩
        · exact ⟨q, hq⟩
      cases hv with | p _ _ hv =>
      cases hv with
      | isl0 =>
        have hb0 : vb = 0 := by simpa using hbl
        have ha0 : va = 0 := by omega
        subst hb0
        subst ha0
        have hb := run_bounds (P := P) (w := w) (isS := true) (len := 0) (cap := 0) (mx := none) (vm := 0) rfl b2 b1 (Nat.le_refl _) (Nat.le_refl _) (Nat.le_refl _)
        refine OpS.pure_ hs (x := .slice none 0 0) ?_ h (.p _ _ (by simpa using IR.isl0 z)) refP
        simp [execOp, ho, hev, Instr.sliceAt, Instr.slice, run_underlying ht, hb, sizeOf, typeInfo, hti]
      | isl1 _ _ ad cap vs hsp hI hl hm hz hcell hr =>
        have hb := run_bounds (P := P) (w := w) (isS := true) (len := els.length) (cap := cap) (mx := none) (vm := cap) rfl b2 b1 hab (by omega) (Nat.le_refl _)
        have hrl : ((els.drop va).take (vb - va)).length = vb - va := by simp; omega
        by_cases hnil : els = []
        · subst hnil
          simp only [List.length_nil] at hbl hab
          obtain rfl : vb = 0 := by omega
          obtain rfl : va = 0 := by omega
          refine OpS.pure_ hs (x := .slice (some ad) 0 cap) ?_ h (.p _ _ ?_) refP
          · have hz0 : ad.add 0 = ad := by simp [Addr.add]
            simp only [List.length_nil] at hb
            simp [execOp, ho, hev, Instr.sliceAt, Instr.slice, run_underlying ht, hb, sizeOf, typeInfo, hti, htz, hz0]
          · have := IR.isl1 (w := w) (Im := g.Im) z [] ad cap (fun _ _ => undef) (fun h => absurd rfl h) (fun h => absurd rfl h) (by simp) hm (by simp) (fun i j c hc => by simp [at2] at hc) (fun i j c hc => by simp [at2] at hc)
            simpa using this
        have hsp := hsp hnil
        obtain ⟨b, off, sp⟩ := ad
        simp only at hsp
        subst hsp
        refine OpS.pure_ hs (x := .slice (if cap = va then some ⟨b, off, none⟩ else some ⟨b, off + va * w', none⟩) (vb - va) (cap - va)) ?_ h (.p _ _ ?_) refP
        · simp [execOp, ho, hev, Instr.sliceAt, Instr.slice, run_underlying ht, hb, sizeOf, typeInfo, hti, htz, Addr.add_mid]
        · have hgen : ∀ ad : Addr, ad.spot = none → (vb - va ≠ 0 → ad.block = b ∧ ad.off = off + va * w') → IR w g.Im (.isl true z ((els.drop va).take (vb - va))) (.slice (some ad) (vb - va) (cap - va)) := by
            intro ad hsp had
            have hne : (els.drop va).take (vb - va) ≠ [] → vb - va ≠ 0 := fun h1 h2 => h1 (by simp [h2])
            have hmem : ∀ e' ∈ (els.drop va).take (vb - va), e' ∈ els := fun e' he' => List.mem_of_mem_drop (List.mem_of_mem_take he')
            have hsub : ∀ i j c, at2 ((els.drop va).take (vb - va)) i j = some c → i < vb - va ∧ at2 els (va + i) j = some c := by
              intro i j c hij
              unfold at2 at hij ⊢
              rw [List.getElem?_take] at hij
              split at hij
              · rename_i hlt
                rw [List.getElem?_drop] at hij
                exact ⟨hlt, hij⟩
              · simp at hij
            have := IR.isl1 (w := w) (Im := g.Im) z ((els.drop va).take (vb - va)) ad (cap - va) (fun i j => vs (va + i) j) (fun _ => hsp)
              (fun hne' => by rw [(had (hne hne')).1]; exact hI (by rintro rfl; simp at hne')) (by rw [hrl]; omega) (by omega) (fun e' he' => hz e' (hmem e' he'))
              (fun i j c hij => by
                obtain ⟨hi', h5⟩ := hsub i j c hij
                obtain ⟨h6, h7⟩ := had (by omega)
                have hzw : w' = z := by
                  rcases hwz with h8 | h8
                  · exact h8
                  · rw [h8] at hij; simp [at2] at hij
                rw [h6, h7, hzw]
                have := hcell (va + i) j c h5
                rw [Nat.add_mul] at this
                rw [show off + va * z + (i * z + j) = off + (va * z + i * z + j) by omega]
                exact this) (fun i j c hij => hr _ _ _ (hsub i j c hij).2)
            rwa [hrl] at this
          split
          · exact hgen _ rfl fun h5 => by omega
          · exact hgen _ rfl fun _ => ⟨rfl, rfl⟩
    · exact h.elim
  · rename_i nn0 pl z off len hc
    rw [hc] at hv hf
    obtain ⟨va, vb, off', len', hlo, hhi, hab, hbl, hmx, rfl, rfl, rfl, hne, h⟩ := h
    cases hv with
    | sl0 =>
      have hb0 : vb = 0 := by omega
      have ha0 : va = 0 := by omega
      subst hb0
      subst ha0
      have b1 : match lo.map a.eval with | none => (0 : Nat) = 0 | some v => ∃ q, v = .int q (0 : Nat) := by
        rcases evO_sound hs h2 hlo with ⟨rfl, _, hd⟩ | ⟨y', rfl, q, hq⟩
        · exact hd
        · exact ⟨q, hq⟩
      obtain ⟨b3, b2⟩ : (match mx.map a.eval with | none => (0 : Nat) = 0 | some v => ∃ q, v = .int q (0 : Nat)) ∧ (match hi.map a.eval with | none => (0 : Nat) = 0 ∧ mx.map a.eval = none | some v => ∃ q, v = .int q (0 : Nat)) := by
        rcases evO_sound hs h3 hhi with ⟨rfl, rfl, hd⟩ | ⟨y', rfl, q, hq⟩
        · have := hmh rfl
          subst this
          exact ⟨rfl, rfl, rfl⟩
        · rcases evO_sound hs h4 (n := 0) hmx with ⟨rfl, _, _⟩ | ⟨y2, rfl, q2, hq2⟩
          · exact ⟨rfl, q, hq⟩
          · exact ⟨⟨q2, hq2⟩, q, hq⟩
      have hb := run_bounds (P := P) (w := w) (isS := true) (len := 0) (cap := 0) b3 b2 b1 (Nat.le_refl _) (Nat.le_refl _) (Nat.le_refl _)
      refine OpS.pure_ hs (x := .slice none 0 0) ?_ h ?_ fun i hi' => hf i (by simpa [plsV] using hi')
      · simp [execOp, ho, hev, Instr.sliceAt, Instr.slice, run_underlying ht, hb, sizeOf, typeInfo, hti]
      · have := TR.sl0 (w := w) (g := g) pl w'
        simpa using this
    | sl1 _ _ off len cap hl hm hcap hN =>
    have b1 : match lo.map a.eval with | none => va = 0 | some v => ∃ q, v = .int q va := by
      rcases evO_sound hs h2 hlo with ⟨rfl, _, hd⟩ | ⟨y', rfl, q, hq⟩
      · exact hd
      · exact ⟨q, hq⟩
    obtain ⟨vm, b3, hvm1, hvm2, b2⟩ : ∃ vm, (match mx.map a.eval with | none => vm = cap | some v => ∃ q, v = .int q vm) ∧ vb ≤ vm ∧ vm ≤ cap ∧ (match hi.map a.eval with | none => vb = len ∧ mx.map a.eval = none | some v => ∃ q, v = .int q vb) := by
      rcases evO_sound hs h3 hhi with ⟨rfl, rfl, hd⟩ | ⟨y', rfl, q, hq⟩
      · have := hmh rfl
        subst this
        exact ⟨cap, rfl, by omega, Nat.le_refl _, by omega, rfl⟩
      · rcases evO_sound hs h4 (n := vb) hmx with ⟨rfl, _, _⟩ | ⟨y2, rfl, q2, hq2⟩
        · exact ⟨cap, rfl, by omega, Nat.le_refl _, q, hq⟩
        · exact ⟨vb, ⟨q2, hq2⟩, Nat.le_refl _, by omega, q, hq⟩
    have hb := run_bounds (P := P) (w := w) (isS := true) (len := len) (cap := cap) b3 b2 b1 hab hvm1 hvm2
    refine OpS.pure_ hs (x := .slice (some ⟨g.β pl, (off + va) * w', none⟩) (vb - va) (vm - va)) ?_ h ?_ fun i hi' => hf i (by simpa [plsV] using hi')
    · have had : (if vm = va then some (⟨g.β pl, off * w', none⟩ : Addr) else some ⟨g.β pl, off * w' + va * w', none⟩) = some ⟨g.β pl, (off + va) * w', none⟩ := by
        rw [Nat.add_mul]
        split
        · have : va = 0 := by omega
          subst this
          simp
        · rfl
      simp [execOp, ho, hev, Instr.sliceAt, Instr.slice, run_underlying ht, hb, sizeOf, typeInfo, hti, htz, Addr.add_mid, had]
    · have := TR.sl1 (w := w) (g := g) pl w' (off + va) (vb - va) (vm - va) (by omega) (by omega) (Nat.le_trans (Nat.mul_le_mul_right _ (by omega)) hcap) (by omega)
      have e1 : ((off + va : Nat) : Int) = (off : Int) + va := by omega
      have e2 : ((vb - va : Nat) : Int) = (vb : Int) - va := by omega
      rwa [e1, e2] at this
  · exact h.elim
end

end Go.Ab
/- Single operations are sound: append. -/
set_option linter.unusedVariables false
set_option linter.unusedSimpArgs false
namespace Go.Ab

theorem IR.one {w : World} {Im : Nat → Prop} {c : PV} {x : Value} (h : IR w Im c x) : x.oneCell' = true := by
  cases h <;> first | rfl | assumption
theorem PR.one {w : World} {g : G} {π : Place} {c : PV} {x : Value} (h : PR w g π c x) : x.oneCell' = true := by
  cases h with
  | im _ c x h => exact h.one
  | own0 => rfl
  | own1 => rfl

/-- Values in a row, element by element. -/
def flatN (f : Nat → Nat → Value) (n wd : Nat) : List Value := (List.range (n * wd)).map fun m => f (m / wd) (m % wd)
theorem flatN_length (f : Nat → Nat → Value) (n wd : Nat) : (flatN f n wd).length = n * wd := by simp [flatN]
theorem flatN_get {f : Nat → Nat → Value} {n wd i j : Nat} (hi : i < n) (hj : j < wd) : (flatN f n wd)[i * wd + j]? = some (f i j) := by
  have hfit : i * wd + j < n * wd := by
    have : (i + 1) * wd ≤ n * wd := Nat.mul_le_mul_right _ hi
    rw [Nat.add_mul] at this
    omega
  have h1 : (i * wd + j) / wd = i := by rw [Nat.mul_comm, Nat.mul_add_div (by omega), Nat.div_eq_of_lt hj]; omega
  have h2 : (i * wd + j) % wd = j := by rw [Nat.mul_comm, Nat.mul_add_mod]; exact Nat.mod_eq_of_lt hj
  simp [flatN, hfit, h1, h2]
theorem flatN_all {f : Nat → Nat → Value} {n wd m : Nat} {x : Value} (h : (flatN f n wd)[m]? = some x) : ∃ i j, i < n ∧ j < wd ∧ m = i * wd + j ∧ x = f i j := by
  have hm := (List.getElem?_eq_some_iff.1 h).1
  rw [flatN_length] at hm
  have hw : 0 < wd := by
    rcases Nat.eq_zero_or_pos wd with e | e
    · subst e; simp at hm
    · exact e
  have hi : m / wd < n := by rw [Nat.div_lt_iff_lt_mul hw]; exact hm
  have hj : m % wd < wd := Nat.mod_lt _ hw
  have he : m = m / wd * wd + m % wd := by rw [Nat.mul_comm]; exact (Nat.div_add_mod m wd).symm
  refine ⟨m / wd, m % wd, hi, hj, he, ?_⟩
  have := flatN_get (f := f) hi hj
  rw [← he, h] at this
  exact Option.some.inj this

/-- What the cells of elements that are taken up are. -/
def Took (w : World) (g : G) (h : List Ob) (ab : Option Nat) (c : PV) (x : Value) : Prop :=
  match ab with
  | none => IR w g.Im c x
  | some r => ∃ nn z e0, c = .own nn z e0 ∧ nthO h r = some (.row nn z e0) ∧ PR w g ⟨r, []⟩ c x
theorem Took.one {w : World} {g : G} {h : List Ob} {ab : Option Nat} {c : PV} {x : Value} (t : Took w g h ab c x) : x.oneCell' = true := by
  unfold Took at t
  split at t
  · exact t.one
  · obtain ⟨_, _, _, _, _, t⟩ := t; exact t.one

theorem lowWs_spec {w : World} {g : G} : ∀ (els : List (List TV)) (h : List Ob) (F : Nat → List Value) (els' : List (List PV)) (h2 : List Ob) (q : Prop), (∀ i e, els[i]? = some e → TRL w g e (F i)) → lowWs stdI h els = some (els', h2, q) → q →
    (∀ r nn z els, nthO h r = some (.row nn z els) → RowR w g ⟨r, []⟩ nn z els) →
    ∃ ab : Nat → Nat → Option Nat, els'.length = els.length ∧ h2.length = h.length ∧
      (∀ i cv, els'[i]? = some cv → cv.length = (F i).length ∧ ∀ (k : Nat) (c : PV), cv[k]? = some c → ∃ x, (F i)[k]? = some x ∧ Took w g h (ab i k) c x) ∧
      (∀ i k r, ab i k = some r → ∃ c, at2 els' i k = some c) ∧ (∀ i k i' k' r, ab i k = some r → ab i' k' = some r → i = i' ∧ k = k') ∧
      (∀ r, nthO h2 r = nthO h r ∧ (∀ i k, ab i k ≠ some r) ∨ nthO h2 r = some .dead ∧ ∃ i k, ab i k = some r)
  | [], h, F, els', h2, q, hF, hl, hq, hob => by
    simp only [lowWs, Option.some.injEq, Prod.mk.injEq] at hl
    obtain ⟨rfl, rfl, _⟩ := hl
    exact ⟨fun _ _ => none, rfl, rfl, by simp, by simp, by simp, fun r => .inl ⟨rfl, by simp⟩⟩
  | e :: els, h, F, els', h2, q, hF, hl, hq, hob => by
    simp only [lowWs] at hl
    split at hl
    · rename_i cv h1 q1 hl1
      split at hl
      · rename_i r h3 q2 hl2
        simp only [Option.some.injEq, Prod.mk.injEq] at hl
        obtain ⟨rfl, rfl, rfl⟩ := hl
        obtain ⟨ab0, a1, a2, a3, a4, a5, a6⟩ := lowW_spec e h (F 0) cv h1 q1 (hF 0 e rfl) hl1 hq.1 hob
        have hsame : ∀ r o, nthO h1 r = some o → o ≠ .dead → nthO h r = some o ∧ ∀ k, ab0 k ≠ some r := by
          intro r o hr hd
          rcases a6 r with ⟨h5, h6⟩ | ⟨h5, _⟩
          · exact ⟨h5 ▸ hr, h6⟩
          · rw [h5] at hr
            cases hr
            exact absurd rfl hd
        obtain ⟨ab1, b1, b2, b3, b4, b5, b6⟩ := lowWs_spec els h1 (fun i => F (i + 1)) r h3 q2 (fun i e he => hF (i + 1) e (by simpa using he)) hl2 hq.2 (fun r nn z els hr => hob r nn z els (hsame r _ hr (by simp)).1)
        have hrow1 : ∀ i k r', ab1 i k = some r' → ∃ nn z e0, nthO h1 r' = some (.row nn z e0) := by
          intro i k r' hk
          obtain ⟨c, hc⟩ := b4 i k r' hk
          unfold at2 at hc
          cases hri : r[i]? with
          | none => simp [hri] at hc
          | some cv' =>
            rw [hri] at hc
            obtain ⟨x, _, hx⟩ := (b3 i cv' hri).2 k c (by simpa using hc)
            rw [hk] at hx
            obtain ⟨nn, z, e0, _, h5, _⟩ := hx
            exact ⟨nn, z, e0, h5⟩
        have hdis : ∀ k i k' r', ab0 k = some r' → ab1 i k' ≠ some r' := by
          intro k i k' r' h5 h6
          obtain ⟨nn, z, e0, h7⟩ := hrow1 i k' r' h6
          exact (hsame r' _ h7 (by simp)).2 k h5
        refine ⟨fun i k => match i with | 0 => ab0 k | i + 1 => ab1 i k, by simp [b1], by omega, fun i cv' hi => ?_, fun i k r' hk => ?_, fun i k i' k' r' h5 h6 => ?_, fun r' => ?_⟩
        · cases i with
          | zero =>
            simp only [List.getElem?_cons_zero, Option.some.injEq] at hi
            subst hi
            refine ⟨a1, fun k c hk => ?_⟩
            obtain ⟨x, hx, h5⟩ := a3 k c hk
            refine ⟨x, hx, ?_⟩
            unfold Took
            exact h5
          | succ i =>
            obtain ⟨h5, h6⟩ := b3 i cv' (by simpa using hi)
            refine ⟨h5, fun k c hk => ?_⟩
            obtain ⟨x, hx, h7⟩ := h6 k c hk
            refine ⟨x, hx, ?_⟩
            unfold Took at h7 ⊢
            simp only
            split at h7
            · rename_i e1; first | exact h7 | (rw [e1]; exact h7)
            · rename_i r1 e1
              obtain ⟨nn, z, e0, h8, h9, h10⟩ := h7
              have := (hsame r1 _ h9 (by simp)).1
              first | exact ⟨nn, z, e0, h8, this, h10⟩ | (rw [e1]; exact ⟨nn, z, e0, h8, this, h10⟩)
        · cases i with
          | zero =>
            have := a4 k r' hk
            exact ⟨cv[k], by simp [at2, this]⟩
          | succ i =>
            obtain ⟨c, hc⟩ := b4 i k r' hk
            exact ⟨c, by simpa [at2] using hc⟩
        · cases i with
          | zero =>
            cases i' with
            | zero => exact ⟨rfl, a5 k k' r' h5 h6⟩
            | succ i' => exact absurd h6 (hdis k i' k' r' h5)
          | succ i =>
            cases i' with
            | zero => exact absurd h5 (hdis k' i k r' h6)
            | succ i' =>
              obtain ⟨e1, e2⟩ := b5 i k i' k' r' h5 h6
              exact ⟨by rw [e1], e2⟩
        · rcases b6 r' with ⟨h5, h6⟩ | ⟨h5, i, k, h6⟩
          · rcases a6 r' with ⟨h7, h8⟩ | ⟨h7, k, h8⟩
            · refine .inl ⟨h5.trans h7, fun i k => ?_⟩
              cases i with
              | zero => exact h8 k
              | succ i => exact h6 i k
            · exact .inr ⟨h5.trans h7, 0, k, h8⟩
          · exact .inr ⟨h5, i + 1, k, h6⟩
      · cases hl
    · cases hl

/-- What append takes. -/
theorem srcW_spec {P : Program} {w : World} {g : G} {h : List Ob} (hk : HOK w g h) {tx : TypeId} (hkind : (∃ e', P.underlying tx = some (.slice e')) ∨ P.underlying tx = some .string) {wd : Nat} (hw : 0 < wd) {y : TV} {xv : Value} (hv : TR w g y xv)
    {els : List (List PV)} {h1 : List Ob} {q : Prop} (hl : srcW stdI stdE wd h y = some (els, h1, q)) (hq : q) :
    ∃ (news : List Value) (ab : Nat → Nat → Option Nat), Src P wd tx xv els.length news w ∧ (∀ e ∈ els, e.length = wd) ∧ h1.length = h.length ∧
      (∀ i j c, at2 els i j = some c → ∃ x, news[i * wd + j]? = some x ∧ Took w g h (ab i j) c x) ∧
      (∀ i j r, ab i j = some r → ∃ c, at2 els i j = some c) ∧ (∀ i k i' k' r, ab i k = some r → ab i' k' = some r → i = i' ∧ k = k') ∧
      (∀ r, nthO h1 r = nthO h r ∧ (∀ i j, ab i j ≠ some r) ∨ nthO h1 r = some .dead ∧ ((∃ i j, ab i j = some r) ∨ ∃ z e, nthO h r = some (.lit z e))) := by
  -- values that lie behind an address
  have slice : ∀ (f : Nat → Nat → Value) (ab : Nat → Nat → Option Nat) (n : Nat) (ad : Addr) (cap : Nat), els.length = n → (∀ e ∈ els, e.length = wd) → xv = .slice (some ad) n cap → (∀ i j, i < n → j < wd → w.cell? (ad.add (i * wd + j)) = some (f i j)) →
      (∀ i j c, at2 els i j = some c → Took w g h (ab i j) c (f i j)) → ∃ news, Src P wd tx xv els.length news w ∧ ∀ i j c, at2 els i j = some c → ∃ x, news[i * wd + j]? = some x ∧ Took w g h (ab i j) c x := by
    intro f ab n ad cap hn hz hx hcell htook
    have hat : ∀ i j, i < n → j < wd → ∃ c, at2 els i j = some c := by
      intro i j hi hj
      have hi' : i < els.length := by omega
      have := hz els[i] (List.getElem_mem hi')
      exact ⟨els[i][j], by simp [at2, hi', this, hj]⟩
    have hat' : ∀ i j c, at2 els i j = some c → i < n ∧ j < wd := by
      intro i j c hc
      unfold at2 at hc
      cases he : els[i]? with
      | none => simp [he] at hc
      | some e =>
        rw [he] at hc
        have h1 := (List.getElem?_eq_some_iff.1 he).1
        have h2 := (List.getElem?_eq_some_iff.1 (show e[j]? = some c by simpa using hc)).1
        have := hz e (List.mem_of_getElem? he)
        omega
    refine ⟨flatN f n wd, ?_, fun i j c hc => ?_⟩
    · rw [hn, hx]
      have hnews : ∀ m u, (flatN f n wd)[m]? = some u → w.cell? (ad.add m) = some u := by
        intro m u hu
        obtain ⟨i, j, hi, hj, rfl, rfl⟩ := flatN_all hu
        exact hcell i j hi hj
      refine ⟨hkind, fun _ => rfl, run_firstCells_some w wd n ad n cap _ (flatN_length f n wd) hnews, run_firstCells_some w.drew wd n ad n cap _ (flatN_length f n wd) (by simpa using hnews), flatN_length f n wd, fun u hu => ?_⟩
      obtain ⟨m, hm, rfl⟩ := List.getElem_of_mem hu
      obtain ⟨i, j, hi, hj, _, e⟩ := flatN_all (List.getElem?_eq_getElem hm)
      rw [e]
      obtain ⟨c, hc⟩ := hat i j hi hj
      exact (htook i j c hc).one
    · obtain ⟨hi, hj⟩ := hat' i j c hc
      exact ⟨f i j, flatN_get hi hj, htook i j c hc⟩
  have none_ : xv = .slice none 0 0 → els = [] → ∃ news, Src P wd tx xv els.length news w ∧ ∀ (ab : Nat → Nat → Option Nat) i j c, at2 els i j = some c → ∃ x, news[i * wd + j]? = some x ∧ Took w g h (ab i j) c x := by
    rintro rfl rfl
    exact ⟨[], ⟨hkind, fun _ => rfl, run_firstCells_none w wd 0 0 0, run_firstCells_none w.drew wd 0 0 0, by simp, fun _ h => by cases h⟩, by simp [at2]⟩
  have same : ∀ r : Nat, nthO h r = nthO h r ∧ (∀ i j : Nat, (none : Option Nat) ≠ some r) ∨ nthO h r = some .dead ∧ ((∃ i j : Nat, (none : Option Nat) = some r) ∨ ∃ z e, nthO h r = some (.lit z e)) := fun r => .inl ⟨rfl, by simp⟩
  unfold srcW at hl
  split at hl
  · -- data that stay
    rename_i nn z els0
    simp only [Option.some.injEq, Prod.mk.injEq] at hl
    obtain ⟨rfl, rfl, rfl⟩ := hl
    cases hv with | p _ _ hv =>
    cases hv with
    | isl0 =>
      obtain ⟨news, n1, n2⟩ := none_ rfl rfl
      exact ⟨news, fun _ _ => none, n1, by simp, rfl, n2 _, by simp, by simp, same⟩
    | isl1 _ _ ad cap vs hsp hI hl hm hz hc hr =>
      have hzw : ∀ e ∈ els0, e.length = wd := by
        rcases hq with rfl | rfl
        · exact hz
        · simp
      obtain ⟨news, n1, n2⟩ := slice vs (fun _ _ => none) els0.length ad cap rfl hzw rfl (fun i j hi hj => by
        have hsp := hsp (by rintro e; rw [e] at hi; simp at hi)
        obtain ⟨b, off, sp⟩ := ad
        simp only at hsp
        subst hsp
        have h2 := hzw els0[i] (List.getElem_mem hi)
        have h3 := hz els0[i] (List.getElem_mem hi)
        have := hc i j els0[i][j] (by simp [at2, hi, h2, hj])
        rw [Addr.add_mid]
        rw [← h2, h3]
        exact this) (fun i j c hc => hr i j c hc)
      exact ⟨news, fun _ _ => none, n1, hzw, rfl, n2, by simp, by simp, same⟩
  · -- a string
    rename_i l
    simp only [Option.some.injEq, Prod.mk.injEq] at hl
    obtain ⟨rfl, rfl, rfl⟩ := hl
    subst hq
    obtain ⟨rfl, hml⟩ := tr_str hv
    have hsz : (⟨l.toArray⟩ : ByteArray).size = l.length := by simp [ByteArray.size]
    have hlen : (u8s l).length = l.length := by simp [u8s]
    refine ⟨byteCells ⟨l.toArray⟩, fun _ _ => none, ?_, by simp [u8s], rfl, fun i j c hc => ?_, by simp, by simp, same⟩
    · rw [hlen, ← hsz]
      exact ⟨hkind, fun _ => rfl, firstCells_string _ w, firstCells_string _ w.drew, by rw [byteCells_length, Nat.mul_one], fun u hu => by
        obtain ⟨_, _, rfl⟩ := List.mem_map.1 hu
        rfl⟩
    · simp only [at2, u8s, List.getElem?_map] at hc
      cases hli : l[i]? with
      | none => simp [hli] at hc
      | some b =>
        rw [hli] at hc
        cases j with
        | succ j => simp at hc
        | zero =>
          simp at hc
          subst hc
          refine ⟨.int .u8 b.toNat, ?_, .int _ _⟩
          simp [byteCells, hli]
  · -- a slice
    rename_i nn pl z off len
    split at hl
    · rename_i nn0 z0 els0 hob
      split at hl
      · rename_i nb r hr
        simp only [Option.some.injEq, Prod.mk.injEq] at hl
        obtain ⟨rfl, rfl, rfl⟩ := hl
        obtain ⟨rfl, hnn, hno⟩ := hq
        subst hnn
        have hrow : RowR w g ⟨pl.root, []⟩ nn0 z0 els0 := hk.ob _ _ hob
        obtain ⟨z'', hrow2⟩ := hrow.at_ hr
        have hpl : (⟨pl.root, []⟩ : Place).app pl.path = pl := by cases pl; simp [Place.app]
        rw [hpl] at hrow2
        generalize hels : stdE (.sub r off len) = els at *
        simp only [stdE] at hels
        cases hv with
        | sl0 =>
          simp at hels
          subst hels
          obtain ⟨news, n1, n2⟩ := none_ rfl rfl
          exact ⟨news, fun _ _ => none, n1, by simp, rfl, n2 _, by simp, by simp, same⟩
        | sl1 _ _ off len cap hl hm hcap hN =>
          simp only [Int.toNat_natCast] at hels
          cases hrow2 with
          | mk _ _ _ cur t fr vs hb hC hf hz hn2 hN' hpos hcc hrr =>
            have hlen : els.length = len := by rw [← hels]; simp; omega
            have hmem : ∀ e ∈ els, e ∈ r := fun e he => by rw [← hels] at he; exact List.mem_of_mem_drop (List.mem_of_mem_take he)
            have hzw : ∀ e ∈ els, e.length = z := fun e he => (hno e (hmem e he)).2
            have hsub : ∀ i j, i < len → at2 els i j = at2 r (off + i) j := by
              intro i j hi
              unfold at2
              rw [← hels, List.getElem?_take, if_pos hi, List.getElem?_drop]
            have hlt : ∀ i j c, at2 els i j = some c → i < len := by
              intro i j c hc
              unfold at2 at hc
              cases he : els[i]? with
              | none => simp [he] at hc
              | some e => have := (List.getElem?_eq_some_iff.1 he).1; omega
            have hz2 : ∀ e ∈ els, z = z'' := fun e he => by rw [← hzw e he, ← hz e (hmem e he)]
            obtain ⟨news, n1, n2⟩ := slice (fun i j => vs (off + i) j) (fun _ _ => none) len ⟨g.β pl, off * z, none⟩ cap hlen hzw rfl (fun i j hi hj => by
              have hi' : i < els.length := by omega
              have hme := List.getElem_mem hi'
              have h3 := hzw els[i] hme
              have h4 := hz2 _ hme
              have h5 : at2 els i j = some els[i][j] := by simp [at2, hi', h3, hj]
              rw [hsub i j hi] at h5
              have := hcc _ _ _ h5
              rw [Addr.add_mid, cell_cells hb]
              rw [← h4, Nat.add_mul] at this
              rw [← Nat.add_assoc]
              exact this) (fun i j c hc => by
              have hi := hlt i j c hc
              have h5 := hc
              rw [hsub i j hi] at h5
              have := hrr _ _ _ h5
              have hnoc : ∀ nn z e, c ≠ .own nn z e := by
                unfold at2 at h5
                cases he : r[off + i]? with
                | none => simp [he] at h5
                | some e => exact noOwnB_get (hno e (List.mem_of_getElem? he)).1 j c (by simpa [he] using h5)
              generalize vs (off + i) j = x at this
              cases this with
              | im _ _ _ h => exact h
              | own0 => exact absurd rfl (hnoc _ _ _)
              | own1 => exact absurd rfl (hnoc _ _ _))
            exact ⟨news, fun _ _ => none, n1, hzw, rfl, n2, by simp, by simp, same⟩
      · cases hl
    · -- a literal
      rename_i z0 els0 hob
      split at hl
      · rename_i els h' q' hpath hlw
        simp only [Option.some.injEq, Prod.mk.injEq] at hl
        obtain ⟨rfl, rfl, rfl⟩ := hl
        obtain ⟨rfl, rfl, rfl, rfl, hq'⟩ := hq
        obtain ⟨cur, ty, fr, hb, hf, hC, hn2, hN, hp, hz, hel⟩ := hk.ob _ _ hob
        have hpl : (⟨pl.root, []⟩ : Place) = pl := by cases pl; simp_all
        rw [hpl] at hb hC hn2 hN
        have hrl := nthO_lt hob
        have hget : ∀ r', nthO (setO h pl.root .dead) r' = if r' = pl.root then some .dead else nthO h r' := fun r' => by
          rw [nthO_setO]
          by_cases e : r' = pl.root
          · rw [if_pos ⟨e, hrl⟩, if_pos e]
          · rw [if_neg (fun h => e h.1), if_neg e]
        have hF : ∃ F : Nat → List Value, ∀ i e, els0[i]? = some e → TRL w g e (F i) ∧ ∀ (k : Nat) (x : Value), (F i)[k]? = some x → cur[i * z0 + k]? = some x := by
          refine ⟨fun i => if h : i < els0.length then (hel i els0[i] (List.getElem?_eq_getElem h)).choose else [], fun i e he => ?_⟩
          obtain ⟨hi, rfl⟩ := List.getElem?_eq_some_iff.1 he
          simp only [hi, dite_true]
          exact (hel i els0[i] (List.getElem?_eq_getElem hi)).choose_spec
        obtain ⟨F, hF⟩ := hF
        obtain ⟨ab, b1, b2, b3, b4, b5, b6⟩ := lowWs_spec els0 (setO h pl.root .dead) F _ _ q' (fun i e he => (hF i e he).1) hlw hq' (fun r nn z els hr => by
          rw [hget] at hr
          split at hr
          · cases hr
          · exact hk.ob _ _ hr)
        have hlenF : ∀ i e, els0[i]? = some e → (F i).length = z0 := fun i e he => by rw [← (hF i e he).1.length]; exact hz e (List.mem_of_getElem? he)
        have hzw : ∀ e ∈ els, e.length = z0 := by
          intro e he
          obtain ⟨i, hi, rfl⟩ := List.getElem_of_mem he
          have hi0 : i < els0.length := by omega
          rw [(b3 i _ (List.getElem?_eq_getElem hi)).1, hlenF i _ (List.getElem?_eq_getElem hi0)]
        have htook : ∀ i j c, at2 els i j = some c → i < els0.length ∧ ∃ x, (F i)[j]? = some x ∧ Took w g h (ab i j) c x := by
          intro i j c hc
          unfold at2 at hc
          cases he : els[i]? with
          | none => simp [he] at hc
          | some e =>
            rw [he] at hc
            have := (List.getElem?_eq_some_iff.1 he).1
            obtain ⟨x, hx, ht⟩ := (b3 i e he).2 j c (by simpa using hc)
            refine ⟨by omega, x, hx, ?_⟩
            unfold Took at ht ⊢
            split at ht
            · rename_i e1; first | exact ht | (rw [e1]; exact ht)
            · rename_i r1 e1
              obtain ⟨nn, z, e0, h8, h9, h10⟩ := ht
              rw [hget] at h9
              split at h9
              · cases h9
              · first | exact ⟨nn, z, e0, h8, h9, h10⟩ | (rw [e1]; exact ⟨nn, z, e0, h8, h9, h10⟩)
        generalize hgl : stdI (.len els) = len at hv
        simp only [stdI] at hgl
        generalize hg0 : (0 : Int) = off at hv
        cases hv with
        | sl0 =>
          have h0 : els = [] := List.eq_nil_of_length_eq_zero (by omega)
          subst h0
          obtain ⟨news, n1, n2⟩ := none_ rfl rfl
          refine ⟨news, ab, n1, by simp, by rw [b2, setO_eq]; simp, n2 _, b4, b5, fun r => ?_⟩
          rcases b6 r with ⟨c1, c2⟩ | ⟨c1, c2⟩
          · rw [hget] at c1
            by_cases e : r = pl.root
            · subst e
              rw [if_pos rfl] at c1
              exact .inr ⟨c1, .inr ⟨_, _, hob⟩⟩
            · rw [if_neg e] at c1
              exact .inl ⟨c1, c2⟩
          · exact .inr ⟨c1, .inl c2⟩
        | sl1 _ _ off len cap hl hm hcap hN' =>
          have e0 : off = 0 := by omega
          have e1 : len = els.length := by omega
          subst e0
          subst e1
          obtain ⟨news, n1, n2⟩ := slice (fun i j => (F i).getD j undef) ab els.length ⟨g.β pl, 0 * z0, none⟩ cap rfl hzw rfl (fun i j hi hj => by
            have hi0 : i < els0.length := by omega
            have h3 := hlenF i _ (List.getElem?_eq_getElem hi0)
            have h4 := (hF i _ (List.getElem?_eq_getElem hi0)).2 j (F i)[j] (by simp [h3, hj])
            rw [Addr.add_mid, cell_cells hb, Nat.zero_mul, Nat.zero_add, h4]
            simp [List.getD_eq_getElem?_getD, h3, hj]) (fun i j c hc => by
            obtain ⟨_, x, hx, ht⟩ := htook i j c hc
            simpa [List.getD_eq_getElem?_getD, hx] using ht)
          refine ⟨news, ab, n1, hzw, by rw [b2, setO_eq]; simp, n2, b4, b5, fun r => ?_⟩
          rcases b6 r with ⟨c1, c2⟩ | ⟨c1, c2⟩
          · rw [hget] at c1
            by_cases e : r = pl.root
            · subst e
              rw [if_pos rfl] at c1
              exact .inr ⟨c1, .inr ⟨_, _, hob⟩⟩
            · rw [if_neg e] at c1
              exact .inl ⟨c1, c2⟩
          · exact .inr ⟨c1, .inl c2⟩
      · cases hl
    · cases hl
  · cases hl
end Go.Ab
/- Single operations are sound: append, second part. -/
set_option linter.unusedVariables false
set_option linter.unusedSimpArgs false
namespace Go.Ab

/-- Where the places of a row that was appended to come from. -/
def backA (r' rd n : Nat) (ab : Nat → Nat → Option Nat) (π : Place) : Place :=
  if π.root = r' then
    match π.path with
    | [] => ⟨rd, []⟩
    | (a, b) :: p => if a < n then ⟨rd, (a, b) :: p⟩ else match ab (a - n) b with | some r => ⟨r, p⟩ | none => π
  else π
def G.app (g : G) (r' rd n : Nat) (ab : Nat → Nat → Option Nat) (B : Nat) (N : Nat × Nat) : G :=
  ⟨fun π => if π = ⟨r', []⟩ then B else g.β (backA r' rd n ab π), fun π => if π = ⟨r', []⟩ then N else g.C (backA r' rd n ab π), g.Im⟩

theorem app_core {Γ : Ctx} {s : AS} {tm : Array Value} {w w' : World} {g : G} (hs : Sim Γ s tm w g) {sl : Option Nat} (hsl : SlotOk sl s.h) {h2 : List Ob} {wd n rd B : Nat} {N : Nat × Nat} {nn' : Bool} {old els new : List (List PV)} {ab : Nat → Nat → Option Nat}
    (hlen : h2.length = s.h.length) (hwd : 0 < wd) (hnew : new = old.take n ++ els) (hn : n ≤ old.length)
    -- what is dead behind it
    (hdead : ∀ r, nthO h2 r = nthO s.h r ∧ (∀ i j, ab i j ≠ some r) ∧ (r = rd → n = 0 ∧ (VP s.h ⟨rd, []⟩ → B ≠ g.β ⟨rd, []⟩)) ∨ nthO h2 r = some .dead ∧ nthO s.h r ≠ none ∧ nthO s.h r ≠ some .free)
    (hab : ∀ i j r, ab i j = some r → ∃ nn z e0, at2 els i j = some (.own nn z e0) ∧ nthO s.h r = some (.row nn z e0) ∧ r ≠ rd) (habi : ∀ i k i' k' r, ab i k = some r → ab i' k' = some r → i = i' ∧ k = k')
    -- the old elements that have rows of their own
    (hold : ∀ i j nn z e0, i < n → at2 old i j = some (.own nn z e0) → ∃ z0, nthO s.h rd = some (.row true z0 old))
    (hels : ∀ i j nn z e0, at2 els i j = some (.own nn z e0) → ∃ r, ab i j = some r)
    (hz1 : ∀ e ∈ new, e.length = wd) (hnil : nn' = false → new = [] ∧ N.2 = 0)
    -- the world
    (h1 : w'.os = w.os) (h3 : w'.tape = w.tape) (h4 : w'.output = w.output) (hsz : w.heap.size ≤ w'.heap.size)
    (hw : ∀ b, b < w.heap.size → (b = g.β ⟨rd, []⟩ → ¬ VP s.h ⟨rd, []⟩ ∨ B ≠ g.β ⟨rd, []⟩) → w'.heap[b]? = w.heap[b]?)
    (hB : nn' = true → (VP s.h ⟨rd, []⟩ ∧ B = g.β ⟨rd, []⟩) ∨ (w.heap.size ≤ B ∧ B < w'.heap.size))
    (hrow : nn' = true → ∃ (cur' : Array Value) (t : TypeId) (fr : Nat × Nat) (vs : Nat → Nat → Value), w'.heap[B]? = some (.cells cur' t fr) ∧ N.1 ≤ cur'.size ∧ NF cur'.size fr ∧ new.length * wd ≤ N.1 ∧ new.length = N.2 ∧
      (∀ i j c, at2 new i j = some c → cur'[i * wd + j]? = some (vs i j)) ∧
      (∀ i j c, i < n → at2 old i j = some c → PR w g ((⟨rd, []⟩ : Place).snoc i j) c (vs i j)) ∧
      (∀ i j c, at2 els i j = some c → Took w g s.h (ab i j) c (vs (n + i) j))) :
    Sim Γ ⟨s.t, newH sl h2 (.row nn' wd new)⟩ tm w' (g.app (newI sl s.h) rd n ab B N) := by
  have hI : newI sl h2 = newI sl s.h := by cases sl <;> simp [newI, hlen]
  have hsl2 : SlotOk sl h2 := by
    intro i hi
    have h0 := hsl i hi
    rcases hdead i with ⟨h5, _⟩ | ⟨_, _, h5⟩
    · rw [h5]; exact h0
    · exact absurd h0 h5
  obtain ⟨hget, hfr, hlen3⟩ := newI_fresh hsl2 (.row nn' wd new)
  rw [hI] at hget hfr
  generalize hr' : newI sl s.h = r' at *
  have hfr0 : nthO s.h r' = none ∨ nthO s.h r' = some .free := by
    have := (newI_fresh hsl .dead).2.1
    rwa [hr'] at this
  have hrd' : ∀ r o, nthO s.h r = some o → o ≠ .free → r ≠ r' := by
    rintro r o h5 h6 rfl
    rcases hfr0 with h7 | h7 <;> rw [h7] at h5 <;> cases h5
    exact h6 rfl
  have hnl : (old.take n).length = n := by simp; omega
  have hat1 : ∀ i j, i < n → at2 new i j = at2 old i j := by
    intro i j hi
    unfold at2
    rw [hnew, List.getElem?_append_left (by omega), List.getElem?_take, if_pos hi]
  have hat2 : ∀ i j, ¬ i < n → at2 new i j = at2 els (i - n) j := by
    intro i j hi
    unfold at2
    rw [hnew, List.getElem?_append_right (by omega), hnl]
  have hok : ∀ π, OkP s.h π → OkP (newH sl h2 (.row nn' wd new)) π ∧ (g.app r' rd n ab B N).β π = g.β π ∧ (g.app r' rd n ab B N).C π = g.C π := by
    intro π v
    have hne : π.root ≠ r' := fresh_root hfr0 v
    have hne2 : π ≠ ⟨r', []⟩ := fun e => hne (by rw [e])
    refine ⟨?_, by simp [G.app, hne2, backA, hne], by simp [G.app, hne2, backA, hne]⟩
    have h0 := hget π.root
    rw [if_neg hne] at h0
    rcases hdead π.root with ⟨h5, _⟩ | ⟨h5, _⟩
    · exact (OkP_congr (h0.trans h5)).2 v
    · unfold OkP
      rw [h0, h5]
      trivial
  -- the places behind it
  have hvp : ∀ π, VP (newH sl h2 (.row nn' wd new)) π → π = ⟨r', []⟩ ∧ nn' = true ∨ π ≠ ⟨r', []⟩ ∧ VP s.h (backA r' rd n ab π) ∧
      (π.root ≠ r' ∧ backA r' rd n ab π = π ∧ nthO h2 π.root = nthO s.h π.root ∧ (∀ i j, ab i j ≠ some π.root) ∧ (π.root = rd → n = 0 ∧ (VP s.h ⟨rd, []⟩ → B ≠ g.β ⟨rd, []⟩)) ∨
        (∃ a b p, π = ⟨r', (a, b) :: p⟩ ∧ a < n ∧ backA r' rd n ab π = ⟨rd, (a, b) :: p⟩) ∨ ∃ a b p r, π = ⟨r', (a, b) :: p⟩ ∧ ¬ a < n ∧ ab (a - n) b = some r ∧ backA r' rd n ab π = ⟨r, p⟩) := by
    intro π v
    have h0 := hget π.root
    by_cases er : π.root = r'
    · rw [if_pos er] at h0
      obtain ⟨rt, path⟩ := π
      simp only at er
      subst er
      unfold VP at v
      rw [h0] at v
      obtain ⟨e, he⟩ := v
      cases path with
      | nil =>
        simp only [rowAt, Option.some.injEq, Prod.mk.injEq] at he
        exact .inl ⟨rfl, he.1⟩
      | cons ij p =>
        obtain ⟨i, j⟩ := ij
        simp only [rowAt_cons] at he
        right
        refine ⟨by simp, ?_⟩
        split at he
        · rename_i nn0 z0 e0 hc
          by_cases hi : i < n
          · rw [hat1 i j hi] at hc
            obtain ⟨z1, hrow⟩ := hold i j nn0 z0 e0 hi hc
            have hb : backA rt rd n ab ⟨rt, (i, j) :: p⟩ = ⟨rd, (i, j) :: p⟩ := by simp [backA, hi]
            rw [hb]
            refine ⟨VP_row hrow (e := e) ?_, .inr (.inl ⟨i, j, p, rfl, hi, rfl⟩)⟩
            rw [rowAt_cons, hc]
            exact he
          · rw [hat2 i j hi] at hc
            obtain ⟨r, hr⟩ := hels _ _ _ _ _ hc
            obtain ⟨nn1, z1, e1, h5, h6, _⟩ := hab _ _ _ hr
            rw [hc] at h5
            cases h5
            have hb : backA rt rd n ab ⟨rt, (i, j) :: p⟩ = ⟨r, p⟩ := by simp [backA, hi, hr]
            rw [hb]
            exact ⟨VP_row h6 he, .inr (.inr ⟨i, j, p, r, rfl, hi, hr, rfl⟩)⟩
        · cases he
    · rw [if_neg er] at h0
      have hb : backA r' rd n ab π = π := by simp [backA, er]
      right
      refine ⟨fun e => er (by rw [e]), ?_⟩
      rw [hb]
      rcases hdead π.root with ⟨h5, h6, h7⟩ | ⟨h5, _⟩
      · exact ⟨(VP_congr (h0.trans h5)).1 v, .inl ⟨er, rfl, h5, h6, h7⟩⟩
      · unfold VP at v
        rw [h0, h5] at v
        exact v.elim
  have hβ0 : (g.app r' rd n ab B N).β ⟨r', []⟩ = B := by simp [G.app]
  have hβ1 : ∀ π, π ≠ ⟨r', []⟩ → (g.app r' rd n ab B N).β π = g.β (backA r' rd n ab π) ∧ (g.app r' rd n ab B N).C π = g.C (backA r' rd n ab π) := fun π h => by simp [G.app, h]
  -- a place that goes on has another block
  have hneB : ∀ π, VP (newH sl h2 (.row nn' wd new)) π → π ≠ ⟨r', []⟩ → nn' = true → g.β (backA r' rd n ab π) ≠ B := by
    intro π v hne hnn e
    rcases hvp π v with ⟨h5, _⟩ | ⟨_, v0, hk⟩
    · exact hne h5
    · rcases hB hnn with ⟨v1, e1⟩ | ⟨e1, _⟩
      · have e2 := hs.hok.inj _ _ v0 v1 (e.trans e1)
        rcases hk with ⟨_, h6, _, _, h7⟩ | ⟨a, b, p, _, _, h6⟩ | ⟨a, b, p, r, _, _, h6, h7⟩
        · rw [h6] at e2
          have := h7 (by rw [e2])
          exact this.2 v1 e1
        · rw [h6] at e2
          simp at e2
        · rw [h7] at e2
          obtain ⟨_, _, _, _, _, h8⟩ := hab _ _ _ h6
          simp only [Place.mk.injEq] at e2
          exact h8 e2.1
      · have := hs.hok.lt _ v0
        omega
  have hwv : ∀ π, VP (newH sl h2 (.row nn' wd new)) π → π ≠ ⟨r', []⟩ → w'.heap[g.β (backA r' rd n ab π)]? = w.heap[g.β (backA r' rd n ab π)]? := by
    intro π v hne
    rcases hvp π v with ⟨h5, _⟩ | ⟨_, v0, hk⟩
    · exact absurd h5 hne
    · refine hw _ (hs.hok.lt _ v0) fun e => ?_
      by_cases hv1 : VP s.h ⟨rd, []⟩
      · right
        have e2 := hs.hok.inj _ _ v0 hv1 e
        rcases hk with ⟨_, h6, _, _, h7⟩ | ⟨a, b, p, _, _, h6⟩ | ⟨a, b, p, r, _, _, h6, h7⟩
        · rw [h6] at e2
          exact (h7 (by rw [e2])).2 hv1
        · rw [h6] at e2
          simp at e2
        · rw [h7] at e2
          obtain ⟨_, _, _, _, _, h8⟩ := hab _ _ _ h6
          simp only [Place.mk.injEq] at e2
          exact absurd e2.1 h8
      · exact .inl hv1
  have him : ∀ b, g.Im b → w'.heap[b]? = w.heap[b]? := fun b hb => hw b (hs.hok.im b hb) fun e => by
    by_cases hv1 : VP s.h ⟨rd, []⟩
    · exact absurd (e ▸ hb) (hs.hok.dis _ hv1)
    · exact .inl hv1
  refine Sim.chg (t := s.t) (h := s.h) (h' := newH sl h2 (.row nn' wd new)) (g' := g.app r' rd n ab B N) hs ⟨h1, h3, h4, hsz, fun b hb hno => hw b hb fun e => ?_, fun b hb => hb, fun b hb => .inl hb, fun π v => ?_, fun π1 π2 v1 v2 e => ?_, fun π v => ?_, fun r o e => ?_, by omega, fun r hr hnf => ?_⟩ hok ?_
  · by_cases hv1 : VP s.h ⟨rd, []⟩
    · exact absurd e.symm (hno _ hv1)
    · exact .inl hv1
  · rcases hvp π v with ⟨rfl, hnn⟩ | ⟨hne, v0, _⟩
    · rw [hβ0]
      rcases hB hnn with ⟨v1, e1⟩ | h5
      · exact .inl ⟨_, v1, e1.symm⟩
      · exact .inr h5
    · exact .inl ⟨_, v0, (hβ1 π hne).1.symm⟩
  · by_cases e1 : π1 = ⟨r', []⟩
    · by_cases e2 : π2 = ⟨r', []⟩
      · rw [e1, e2]
      · exfalso
        have hnn : nn' = true := by
          rcases hvp π1 v1 with ⟨_, h5⟩ | ⟨h5, _⟩
          · exact h5
          · exact absurd e1 h5
        rw [e1, hβ0, (hβ1 π2 e2).1] at e
        exact hneB π2 v2 e2 hnn e.symm
    · by_cases e2 : π2 = ⟨r', []⟩
      · exfalso
        have hnn : nn' = true := by
          rcases hvp π2 v2 with ⟨_, h5⟩ | ⟨h5, _⟩
          · exact h5
          · exact absurd e2 h5
        rw [e2, hβ0, (hβ1 π1 e1).1] at e
        exact hneB π1 v1 e1 hnn e
      · rw [(hβ1 π1 e1).1, (hβ1 π2 e2).1] at e
        rcases hvp π1 v1 with ⟨h5, _⟩ | ⟨_, u1, k1⟩
        · exact absurd h5 e1
        rcases hvp π2 v2 with ⟨h5, _⟩ | ⟨_, u2, k2⟩
        · exact absurd h5 e2
        have e3 := hs.hok.inj _ _ u1 u2 e
        rcases k1 with ⟨_, c1, _, c2, c3⟩ | ⟨a1, b1, p1, rfl, i1, c1⟩ | ⟨a1, b1, p1, r1, rfl, i1, d1, c1⟩ <;> rcases k2 with ⟨_, c4, _, c5, c6⟩ | ⟨a2, b2, p2, rfl, i2, c4⟩ | ⟨a2, b2, p2, r2, rfl, i2, d2, c4⟩ <;> rw [c1, c4] at e3
        · exact e3
        · have := (c3 (by rw [e3])).1; omega
        · exact absurd d2 (by rw [e3] at c2; exact c2 _ _)
        · have := (c6 (by rw [← e3])).1; omega
        · simp only [Place.mk.injEq, true_and] at e3
          rw [e3]
        · simp only [Place.mk.injEq] at e3
          obtain ⟨_, _, _, _, _, h8⟩ := hab _ _ _ d2
          exact absurd e3.1.symm h8
        · exact absurd d1 (by rw [← e3] at c5; exact c5 _ _)
        · simp only [Place.mk.injEq] at e3
          obtain ⟨_, _, _, _, _, h8⟩ := hab _ _ _ d1
          exact absurd e3.1 h8
        · simp only [Place.mk.injEq] at e3
          obtain ⟨rfl, rfl⟩ := e3
          obtain ⟨h5, h6⟩ := habi _ _ _ _ _ d1 d2
          rw [show a1 = a2 by omega, h6]
  · rcases hvp π v with ⟨rfl, hnn⟩ | ⟨hne, v0, _⟩
    · rw [hβ0]
      rcases hB hnn with ⟨v1, e1⟩ | h5
      · rw [e1]; exact hs.hok.dis _ v1
      · intro hi
        have := hs.hok.im _ hi
        omega
    · rw [(hβ1 π hne).1]
      exact hs.hok.dis _ v0
  · have h0 := hget r
    by_cases er : r = r'
    · rw [if_pos er] at h0
      rw [h0] at e
      cases e
      subst er
      show RowR w' (g.app r rd n ab B N) ⟨r, []⟩ nn' wd new
      cases nn' with
      | false =>
        rw [(hnil rfl).1]
        exact .nil _ _ (by simpa [G.app] using (hnil rfl).2)
      | true =>
        obtain ⟨cur', t, fr, vs, c1, c2, c3, c4, c5, c6, c7, c8⟩ := hrow rfl
        have hC0 : (g.app r rd n ab B N).C ⟨r, []⟩ = N := by simp [G.app]
        refine .mk _ wd new cur' t fr vs (by rw [hβ0]; exact c1) (by rw [hC0]; exact c2) c3 hz1 (by rw [hC0]; exact c4) (by rw [hC0]; exact c5) hwd c6 fun i j c hc => ?_
        -- moved from where it was
        have mv : ∀ π0 c x, PR w g π0 c x → (∀ nn z e0, c = .own nn z e0 → ∀ p, backA r rd n ab (((⟨r, []⟩ : Place).snoc i j).app p) = π0.app p) → at2 new i j = some c → PR w' (g.app r rd n ab B N) ((⟨r, []⟩ : Place).snoc i j) c x := by
          intro π0 c x hpr hbk hc
          refine hpr.move him (fun _ h => h) fun nn0 z0 e0 hc0 => ?_
          subst hc0
          have hv : ∀ p e', rowAt nn0 e0 p = some (true, e') → VP (newH sl h2 (.row true wd new)) (((⟨r, []⟩ : Place).snoc i j).app p) ∧ ((⟨r, []⟩ : Place).snoc i j).app p ≠ ⟨r, []⟩ := by
            intro p e' hp
            refine ⟨?_, by simp [Place.app, Place.snoc]⟩
            rw [Place.snoc_app]
            have := VP_row (p := (i, j) :: p) (e := e') h0 (by rw [rowAt_cons, hc]; exact hp)
            simpa [Place.app] using this
          refine ⟨him, fun _ h => h, fun p e' hp => ?_, fun p e' hp => ?_, fun p nb e' hp => ?_⟩
          · obtain ⟨v, hne⟩ := hv p e' hp
            have := hwv _ v hne
            rwa [hbk _ _ _ rfl p] at this
          · obtain ⟨v, hne⟩ := hv p e' hp
            rw [(hβ1 _ hne).1, hbk _ _ _ rfl p]
          · rw [(hβ1 _ (by simp [Place.app, Place.snoc])).2, hbk _ _ _ rfl p]
        by_cases hi : i < n
        · have hc' := hc
          rw [hat1 i j hi] at hc'
          refine mv _ c _ (c7 i j c hi hc') (fun nn z e0 _ p => ?_) hc
          simp [backA, Place.app, Place.snoc, hi]
        · have hc' := hc
          rw [hat2 i j hi] at hc'
          have ht := c8 _ j c hc'
          rw [show n + (i - n) = i by omega] at ht
          unfold Took at ht
          split at ht
          · exact .im _ _ _ (ht.mono him fun _ h => h)
          · rename_i r1 hr1
            obtain ⟨nn0, z0, e0, rfl, h6, h7⟩ := ht
            refine mv _ _ _ h7 (fun nn z e0 _ p => ?_) hc
            simp [backA, Place.app, Place.snoc, hi, hr1]
    · rw [if_neg er] at h0
      rw [h0] at e
      have hold' : ∀ π, VP (newH sl h2 (.row nn' wd new)) π → π.root = r → w'.heap[g.β π]? = w.heap[g.β π]? ∧ (g.app r' rd n ab B N).β π = g.β π ∧ (g.app r' rd n ab B N).C π = g.C π := by
        intro π v hpr
        have hne : π ≠ ⟨r', []⟩ := fun e => er (by rw [← hpr, e])
        have hb : backA r' rd n ab π = π := by simp [backA, hpr, er]
        have := hwv π v hne
        obtain ⟨h5, h6⟩ := hβ1 π hne
        rw [hb] at this h5 h6
        exact ⟨this, h5, h6⟩
      have hg2 : nthO (newH sl h2 (.row nn' wd new)) r = some o := by rw [h0]; exact e
      rcases hdead r with ⟨h5, _⟩ | ⟨h5, _⟩
      · rw [h5] at e
        refine (hs.hok.ob r o e).keep him (fun _ h => h) (fun d1 d2 d3 => hold' _ (VP_root hg2 d1 d2 d3) rfl) (fun nn z els p e' e2 hp => ?_) (fun nn z els p nb e' e2 hp => ?_) fun π hp => (hok π (hs.refH _ _ e π hp)).2
        · subst e2
          exact ⟨(hold' _ (VP_row hg2 hp) rfl).1, (hold' _ (VP_row hg2 hp) rfl).2.1⟩
        · subst e2
          exact (hok _ (OkP_row e hp)).2.2
      · rw [h5] at e
        cases e
        trivial
  · have h0 := hget r
    by_cases er : r = r'
    · exfalso
      have hlt : r < s.h.length := Nat.lt_of_lt_of_le hr hs.frm.len
      rcases hfr0 with h5 | h5
      · rw [← er, nthO_eq, List.getElem?_eq_none_iff] at h5
        omega
      · exact hnf (er ▸ h5)
    · rw [if_neg er] at h0
      rw [h0]
      have hlt : r < s.h.length := Nat.lt_of_lt_of_le hr hs.frm.len
      obtain ⟨o1, ho1⟩ : ∃ o, nthO s.h r = some o := by rw [nthO_eq]; exact ⟨_, List.getElem?_eq_getElem hlt⟩
      refine ⟨?_, (hok _ (OkP_root ho1 (fun e => hnf (e ▸ ho1)))).2⟩
      rcases hdead r with ⟨h5, _⟩ | ⟨h5, _⟩
      · rw [h5]; exact hnf
      · rw [h5]; simp
  · intro r o e π hp
    have h0 := hget r
    rw [h0] at e
    split at e
    · cases e; simp [plsOb] at hp
    · rcases hdead r with ⟨h5, _⟩ | ⟨h5, _⟩
      · rw [h5] at e
        exact (hok π (hs.refH _ _ e π hp)).1
      · rw [h5] at e
        cases e
        simp [plsOb] at hp
end Go.Ab
/- Single operations are sound: append, third part. -/
set_option linter.unusedVariables false
set_option linter.unusedSimpArgs false
namespace Go.Ab

def noOwn (cs : List PV) : Prop := ∀ c ∈ cs, ∀ nn z els, c ≠ .own nn z els
theorem lowP_rel {w : World} {g : G} : ∀ {cs : List TV} {vs : List Value} {l : List PV}, TRL w g cs vs → lowP cs = some l → l.length = vs.length ∧ (∀ (i : Nat) (c : PV), l[i]? = some c → ∃ x, vs[i]? = some x ∧ IR w g.Im c x) ∧ noOwn l
  | [], vs, l, hvs, hl => by
    cases hvs
    simp only [lowP, Option.some.injEq] at hl
    subst hl
    exact ⟨rfl, by simp, by simp [noOwn]⟩
  | c :: cs, vs, l, hvs, hl => by
    cases hvs with
    | cons _ x _ vs hx hvs =>
      have fin : ∀ c' r, IR w g.Im c' x → lowP cs = some r → l = c' :: r → l.length = (x :: vs).length ∧ (∀ (i : Nat) (c : PV), l[i]? = some c → ∃ y, (x :: vs)[i]? = some y ∧ IR w g.Im c y) ∧ noOwn l := by
        intro c' r hc' hr e
        subst e
        obtain ⟨h1, h2, h3⟩ := lowP_rel hvs hr
        refine ⟨by simp [h1], fun i c hi => ?_, ?_⟩
        · cases i with
          | zero => simp only [List.getElem?_cons_zero, Option.some.injEq] at hi; subst hi; exact ⟨x, rfl, hc'⟩
          | succ i => simpa using h2 i c (by simpa using hi)
        · intro c hc nn z els
          rcases List.mem_cons.1 hc with rfl | hc
          · rintro rfl; cases hc'
          · exact h3 c hc nn z els
      cases c with
      | p c' =>
        simp only [lowP] at hl
        split at hl
        · rename_i r hr
          simp only [Option.some.injEq] at hl
          cases hx with | p _ _ hx => exact fin _ _ hx hr hl.symm
        · cases hl
      | fn f caps =>
        cases caps with
        | nil =>
          simp only [lowP] at hl
          split at hl
          · rename_i r hr
            simp only [Option.some.injEq] at hl
            cases hx with | fn _ _ us hus => cases hus; exact fin _ _ (.fn f) hr hl.symm
          · cases hl
        | cons => simp [lowP] at hl
      | _ => simp [lowP] at hl


theorem lowEls_rel {w : World} {g : G} : ∀ {els : List (List TV)} {l : List (List PV)}, lowEls els = some l → l.length = els.length ∧ ∀ (i : Nat) (cv : List PV), l[i]? = some cv → ∃ e, els[i]? = some e ∧ lowP e = some cv
  | [], l, h => by simp only [lowEls, Option.some.injEq] at h; subst h; simp
  | e :: els, l, h => by
    simp only [lowEls] at h
    split at h
    · rename_i a b h1 h2
      simp only [Option.some.injEq] at h
      subst h
      obtain ⟨h3, h4⟩ := lowEls_rel (w := w) (g := g) h2
      refine ⟨by simp [h3], fun i cv hi => ?_⟩
      cases i with
      | zero => simp only [List.getElem?_cons_zero, Option.some.injEq] at hi; subst hi; exact ⟨e, rfl, h1⟩
      | succ i => simpa using h4 i cv (by simpa using hi)
    · cases h

section
variable {P : Program} {o : Oper} {Γ : Ctx} {s : AS} {a : Act} {w : World} {g : G} {k kp : TV → AS → Prop} {sl : Option Nat}

theorem app_sound (hs : Sim Γ s a.tmps w g) (hsl : SlotOk sl s.h) {c : Call} {y1 y2 : Operand} {t u e : TypeId} {ie : TypeInfo} {zs : List PV} {x1 x2 : X} (ho : o.op = .call c) (hcal : c.callee = .builtin .append) (hargs : c.args.toList = [y1, y2]) (hty : c.argTypes.toList = [t, u])
    (ht : P.underlying t = some (.slice e)) (hu : (∃ e', P.underlying u = some (.slice e')) ∨ P.underlying u = some .string) (hi : P.info? e = some ie) (hz : zeroT P e = some zs) (hzl : zs.length = ie.size) (hpos : 0 < ie.size) (hbpos : 0 < ie.bytes)
    (h1 : opX y1 = some x1) (h2 : opX y2 = some x2) (h : appH stdI stdE sl ie.size ie.bytes (s.ev x1) (s.ev x2) s.h (fun v h => k v ⟨s.t, h⟩)) : OpS P o Γ a.tmps a w k kp := by
  obtain ⟨hv1, _⟩ := hs.ev' h1
  obtain ⟨hv2, _⟩ := hs.ev' h2
  obtain ⟨ie', zv, hi', hz1, hz2⟩ := zeroT_eq hz
  rw [hi] at hi'
  cases hi'
  have hzc : zv.cells.size = ie.size := by
    have := (constL_ok (w := w) (g := g) hz2).length
    rw [plainP_length, hzl] at this
    simpa using this.symm
  have hrun0 : (execOp a.eval o).run P w = ((Builtin.append_ #[t, u] o.type #[a.eval y1, a.eval y2]).run P w).andThen fun x w' => .ok (.value x) w' := by
    simp [execOp, ho, resolve, hcal, arr_of hargs, arr_of hty, invoke, builtin]
  generalize hwd : ie.size = wd at *
  unfold appH at h
  split at h
  · rename_i els h1' q1 hsrc
    split at h
    · rename_i old nn len h2' q2 hdst
      obtain ⟨hq1, hq2, n, nn', new, len', hlen, hn, hnew, hnn, hlen', hbytes, h⟩ := h
      obtain ⟨news, ab, hSrc, hez, hl1, htook, hab, habi, hd1⟩ := srcW_spec hs.hok hu hpos hv2 hsrc hq1
      have hat : ∀ (l : List (List PV)), (∀ e ∈ l, e.length = wd) → ∀ i j c, at2 l i j = some c → i < l.length ∧ j < wd := by
        intro l hl i j c hc
        unfold at2 at hc
        cases he : l[i]? with
        | none => simp [he] at hc
        | some e =>
          rw [he] at hc
          have h1 := (List.getElem?_eq_some_iff.1 he).1
          have h2 := (List.getElem?_eq_some_iff.1 (show e[j]? = some c by simpa using hc)).1
          have := hl e (List.mem_of_getElem? he)
          omega
      have habo : ∀ i j r, ab i j = some r → ∃ nn z e0, at2 els i j = some (.own nn z e0) ∧ nthO s.h r = some (.row nn z e0) := by
        intro i j r hr
        obtain ⟨c, hc⟩ := hab i j r hr
        obtain ⟨x, _, hx⟩ := htook i j c hc
        rw [hr] at hx
        obtain ⟨nn, z, e0, rfl, h5, _⟩ := hx
        exact ⟨nn, z, e0, hc, h5⟩
      have helso : ∀ i j nn z e0, at2 els i j = some (.own nn z e0) → ∃ r, ab i j = some r := by
        intro i j nn z e0 hc
        obtain ⟨x, _, hx⟩ := htook i j _ hc
        cases hab : ab i j with
        | none => rw [hab] at hx; cases hx
        | some r => exact ⟨r, rfl⟩
      have hl2 : h2'.length = h1'.length := by
        unfold dstW at hdst
        split at hdst
        · simp only [Option.some.injEq, Prod.mk.injEq] at hdst; obtain ⟨_, _, _, rfl, _⟩ := hdst; rfl
        · split at hdst
          · split at hdst
            · simp only [Option.some.injEq, Prod.mk.injEq] at hdst; obtain ⟨_, _, _, rfl, _⟩ := hdst; rw [setO_eq]; simp
            · cases hdst
          · split at hdst
            · simp only [Option.some.injEq, Prod.mk.injEq] at hdst; obtain ⟨_, _, _, rfl, _⟩ := hdst; rw [setO_eq]; simp
            · cases hdst
          · cases hdst
        · cases hdst
      -- where it is added to
      have dst : (a.eval y1 = .slice none 0 0 ∧ n = 0 ∧ nn = false ∧ ∀ r, nthO h2' r = nthO h1' r ∨ nthO h2' r = some .dead ∧ ∃ z e0, nthO h1' r = some (.row nn z e0)) ∨
          ∃ (rd cap : Nat) (cur : Array Value) (ty : TypeId) (fr : Nat × Nat) (vs0 : Nat → Nat → Value), nn = true ∧ a.eval y1 = .slice (some ⟨g.β ⟨rd, []⟩, 0, none⟩) n cap ∧ n ≤ cap ∧ cap ≤ maxLen ∧ cap * wd ≤ (g.C ⟨rd, []⟩).1 ∧ w.heap[g.β ⟨rd, []⟩]? = some (.cells cur ty fr) ∧ (g.C ⟨rd, []⟩).1 ≤ cur.size ∧ NF cur.size fr ∧
            VP s.h ⟨rd, []⟩ ∧ (∀ e ∈ old, e.length = wd) ∧ (∀ i j c, at2 old i j = some c → cur[i * wd + j]? = some (vs0 i j) ∧ PR w g ((⟨rd, []⟩ : Place).snoc i j) c (vs0 i j)) ∧
            (∀ i j nn z e0, at2 old i j = some (.own nn z e0) → nthO s.h rd = some (.row true wd old)) ∧ (∀ r, nthO h2' r = if r = rd then some .dead else nthO h1' r) ∧ (∀ i j, ab i j ≠ some rd) ∧ nthO s.h rd ≠ none ∧ nthO s.h rd ≠ some .free := by
        have live : ∀ r o, nthO h1' r = some o → o ≠ .dead → nthO s.h r = some o ∧ ∀ i j, ab i j ≠ some r := by
          intro r o hr hd
          rcases hd1 r with ⟨h5, h6⟩ | ⟨h5, _⟩
          · exact ⟨h5 ▸ hr, h6⟩
          · rw [h5] at hr
            cases hr
            exact absurd rfl hd
        have dead : ∀ r, r < h1'.length → ∀ r', nthO (setO h1' r .dead) r' = if r' = r then some .dead else nthO h1' r' := fun r hl r' => by
          rw [nthO_setO]
          by_cases e : r' = r
          · rw [if_pos ⟨e, hl⟩, if_pos e]
          · rw [if_neg (fun h => e h.1), if_neg e]
        unfold dstW at hdst
        split at hdst
        · rename_i nn0 z0 els0 hc
          simp only [Option.some.injEq, Prod.mk.injEq] at hdst
          obtain ⟨rfl, rfl, rfl, rfl, rfl⟩ := hdst
          subst hq2
          rw [hc] at hv1
          generalize a.eval y1 = ax at hv1 ⊢
          cases hv1 with | p _ _ hv1 =>
          cases hv1
          exact .inl ⟨rfl, by omega, rfl, fun r => .inl rfl⟩
        · rename_i nn0 r z off len0 hc
          rw [hc] at hv1
          split at hdst
          · rename_i nn1 z1 els1 hob
            split at hdst
            · rename_i hb1 hb2
              have hb1 := Nat.eq_of_beq_eq_true hb1
              have hb2 := Nat.eq_of_beq_eq_true hb2
              subst hb1
              subst hb2
              simp only [Option.some.injEq, Prod.mk.injEq] at hdst
              obtain ⟨rfl, rfl, rfl, rfl, rfl⟩ := hdst
              obtain ⟨hoff, rfl⟩ := hq2
              obtain ⟨hobs, hnab⟩ := live r _ hob (by simp)
              have hrow : RowR w g ⟨r, []⟩ nn0 z1 els1 := hs.hok.ob _ _ hobs
              have hdd := dead r (nthO_lt hob)
              generalize a.eval y1 = ax at hv1 ⊢
              cases hv1 with
              | sl0 =>
                left
                refine ⟨rfl, by omega, rfl, fun r' => ?_⟩
                rw [hdd]
                by_cases e : r' = r
                · subst e; rw [if_pos rfl]; exact .inr ⟨rfl, _, _, hob⟩
                · rw [if_neg e]; exact .inl rfl
              | sl1 _ _ off len cap b1 b2 b3 b4 =>
                right
                have e0 : off = 0 := by omega
                have e1 : len = n := by omega
                subst e0
                subst e1
                cases hrow with
                | mk _ _ _ cur ty fr vs hb hC hf hz hn2 hN hp hcc hrr =>
                  refine ⟨r, cap, cur, ty, fr, vs, rfl, by simp, b1, b2, by simpa using b3, hb, hC, hf, VP_row hobs rfl, hz, fun i j c hc => ⟨hcc i j c hc, hrr i j c hc⟩, fun i j nn z e0 _ => hobs, hdd, hnab, by rw [hobs]; simp, by rw [hobs]; simp⟩
            · cases hdst
          · rename_i z1 els1 hob
            split at hdst
            · rename_i old' hb1 hb2 hlow
              have hb1 := Nat.eq_of_beq_eq_true hb1
              have hb2 := Nat.eq_of_beq_eq_true hb2
              subst hb1
              subst hb2
              simp only [Option.some.injEq, Prod.mk.injEq] at hdst
              obtain ⟨rfl, rfl, rfl, rfl, rfl⟩ := hdst
              obtain ⟨hoff, hnt⟩ := hq2
              obtain ⟨hobs, hnab⟩ := live r _ hob (by simp)
              obtain ⟨cur, ty, fr, hb, hf, hC, hn2, hN, hp, hz, hel⟩ := hs.hok.ob _ _ hobs
              obtain ⟨g1, g2⟩ := lowEls_rel (w := w) (g := g) hlow
              have hdd := dead r (nthO_lt hob)
              generalize a.eval y1 = ax at hv1 ⊢
              cases hv1 with
              | sl0 =>
                cases hnt
              | sl1 _ _ off len cap b1 b2 b3 b4 =>
                right
                have e0 : off = 0 := by omega
                have e1 : len = n := by omega
                subst e0
                subst e1
                have hcell : ∀ i j c, at2 old' i j = some c → ∃ x, cur[i * z1 + j]? = some x ∧ IR w g.Im c x := by
                  intro i j c hc
                  unfold at2 at hc
                  cases he : old'[i]? with
                  | none => simp [he] at hc
                  | some cv =>
                    rw [he] at hc
                    obtain ⟨e', he', hle⟩ := g2 i cv he
                    obtain ⟨vs, hvs, hk⟩ := hel i e' he'
                    obtain ⟨m1, m2, m3⟩ := lowP_rel hvs hle
                    obtain ⟨x, hx, hir⟩ := m2 j c (by simpa using hc)
                    exact ⟨x, hk j x hx, hir⟩
                refine ⟨r, cap, cur, ty, fr, fun i j => cur.getD (i * z1 + j) undef, rfl, by simp, b1, b2, by simpa using b3, hb, hC, hf, VP_root hobs (by simp) (by simp) (by simp), fun e' he' => ?_, fun i j c hc => ?_, fun i j nn z e0 hc => ?_, hdd, hnab, by rw [hobs]; simp, by rw [hobs]; simp⟩
                · obtain ⟨i, hi', rfl⟩ := List.getElem_of_mem he'
                  obtain ⟨e2, he2, hle⟩ := g2 i _ (List.getElem?_eq_getElem hi')
                  obtain ⟨vs, hvs, _⟩ := hel i e2 he2
                  rw [(lowP_rel hvs hle).1, ← hvs.length]
                  exact hz e2 (List.mem_of_getElem? he2)
                · obtain ⟨x, hx, hir⟩ := hcell i j c hc
                  have : cur.getD (i * z1 + j) undef = x := by simp [Array.getD_eq_getD_getElem?, hx]
                  simp only [this]
                  exact ⟨hx, .im _ _ _ hir⟩
                · obtain ⟨x, _, hir⟩ := hcell i j _ hc
                  cases hir
            · cases hdst
          · cases hdst
        · cases hdst
      have hnlen : (old.take n).length = n := by simp; omega
      have hnewl : new.length = n + els.length := by rw [hnew]; simp; omega
      have hI : newI sl h2' = newI sl s.h := by cases sl <;> simp [newI, hl2, hl1]
      have hbl : new.length ≤ 100000000000000 := Nat.le_trans (Nat.le_mul_of_pos_right _ hbpos) hbytes
      have hmul : (n + els.length) * wd = n * wd + els.length * wd := Nat.add_mul ..
      have hnl : news.length = els.length * wd := hSrc.newsLen
      have hat1 : ∀ i j, i < n → at2 new i j = at2 old i j := by
        intro i j hi
        unfold at2
        rw [hnew, List.getElem?_append_left (by omega), List.getElem?_take, if_pos hi]
      have hat2 : ∀ i j, ¬ i < n → at2 new i j = at2 els (i - n) j := by
        intro i j hi
        unfold at2
        rw [hnew, List.getElem?_append_right (by omega), hnlen]
      have hne1 : nn' = false → new = [] ∧ nn = false ∧ els = [] := by
        intro e
        rw [e] at hnn
        have h5 := hnn.symm
        simp only [Bool.or_eq_false_iff, Bool.not_eq_false', List.isEmpty_iff] at h5
        refine ⟨?_, h5.1, h5.2⟩
        rcases dst with ⟨_, h6, _⟩ | ⟨_, _, _, _, _, _, h6, _⟩
        · apply List.eq_nil_of_length_eq_zero
          rw [hnewl, h5.2, h6]
          rfl
        · rw [h5.1] at h6; cases h6
      -- the end, when the world is told
      have fin : ∀ (rd B cap : Nat) (N : Nat × Nat) (w' : World) (x : Value),
          (∀ r, nthO h2' r = nthO s.h r ∧ (∀ i j, ab i j ≠ some r) ∧ (r = rd → n = 0 ∧ (VP s.h ⟨rd, []⟩ → B ≠ g.β ⟨rd, []⟩)) ∨ nthO h2' r = some .dead ∧ nthO s.h r ≠ none ∧ nthO s.h r ≠ some .free) →
          (∀ i j, ab i j ≠ some rd) → (∀ i j nn z e0, i < n → at2 old i j = some (.own nn z e0) → ∃ z0, nthO s.h rd = some (.row true z0 old)) → (∀ e ∈ new, e.length = wd) →
          w'.os = w.os → w'.tape = w.tape → w'.output = w.output → w.heap.size ≤ w'.heap.size →
          (∀ b, b < w.heap.size → (b = g.β ⟨rd, []⟩ → ¬ VP s.h ⟨rd, []⟩ ∨ B ≠ g.β ⟨rd, []⟩) → w'.heap[b]? = w.heap[b]?) →
          (nn' = true → (VP s.h ⟨rd, []⟩ ∧ B = g.β ⟨rd, []⟩) ∨ (w.heap.size ≤ B ∧ B < w'.heap.size)) →
          (nn' = true → ∃ (cur' : Array Value) (t : TypeId) (fr : Nat × Nat) (vs : Nat → Nat → Value), w'.heap[B]? = some (.cells cur' t fr) ∧ N.1 ≤ cur'.size ∧ NF cur'.size fr ∧ new.length * wd ≤ N.1 ∧ new.length = N.2 ∧
            (∀ i j c, at2 new i j = some c → cur'[i * wd + j]? = some (vs i j)) ∧
            (∀ i j c, i < n → at2 old i j = some c → PR w g ((⟨rd, []⟩ : Place).snoc i j) c (vs i j)) ∧
            (∀ i j c, at2 els i j = some c → Took w g s.h (ab i j) c (vs (n + i) j))) →
          (execOp a.eval o).run P w = .ok (.value x) w' →
          (nn' = false → N.2 = 0) → (nn' = false → x = .slice none 0 0) → (nn' = true → x = .slice (some ⟨B, 0, none⟩) new.length cap ∧ new.length ≤ cap ∧ cap ≤ maxLen ∧ cap * wd ≤ N.1) → OpS P o Γ a.tmps a w k kp := by
        intro rd B cap N w' x f1 f2 f3 f4 f5 f6 f7 f8 f9 f10 f11 f12 f15 f13 f14
        have hsim := app_core (tm := a.tmps) hs hsl (h2 := h2') (wd := wd) (n := n) (rd := rd) (B := B) (N := N) (nn' := nn') (old := old) (els := els) (new := new) (ab := ab) (by omega) hpos hnew hn f1
          (fun i j r hr => by
            obtain ⟨nn0, z0, e0, h5, h6⟩ := habo i j r hr
            exact ⟨nn0, z0, e0, h5, h6, fun e => f2 i j (e ▸ hr)⟩) habi f3 helso f4 (fun e => ⟨(hne1 e).1, f15 e⟩) f5 f6 f7 f8 f9 f10 f11
        refine OpS.value f12 h ⟨hsim, ?_, fun π hπ => ?_⟩
        · have hβ : (g.app (newI sl s.h) rd n ab B N).β ⟨newI sl s.h, []⟩ = B := by simp [G.app]
          have hC : (g.app (newI sl s.h) rd n ab B N).C ⟨newI sl s.h, []⟩ = N := by simp [G.app]
          cases hb : nn' with
          | false =>
            rw [f13 hb, hlen', (hne1 hb).1]
            exact .sl0 _ _
          | true =>
            obtain ⟨g1, g2, g3, g4⟩ := f14 hb
            obtain ⟨cur', t', fr', vs', _, _, _, _, g5, _⟩ := f11 hb
            have := TR.sl1 (w := w') (g := g.app (newI sl s.h) rd n ab B N) ⟨newI sl s.h, []⟩ wd 0 new.length cap g2 g3 (by rw [hC]; simpa using g4) (by rw [hC]; omega)
            rw [hβ, Nat.zero_mul] at this
            rw [g1, hlen']
            exact this
        · simp only [plsV, List.mem_singleton] at hπ
          subst hπ
          rw [← hI]
          refine newH_ok ?_ (by simp)
          intro i hi0
          have h0 := hsl i hi0
          rcases f1 i with ⟨h5, _⟩ | ⟨_, _, h5⟩
          · rw [h5]; exact h0
          · exact absurd h0 h5
      -- a new block
      have grow : ∀ (base : Option Addr) (cap rd : Nat) (olds : List Value), a.eval y1 = .slice base n cap → olds.length = n * wd → (Builtin.firstCells wd n (.slice base n cap)).run P w.drew = .ok olds.toArray w.drew → cap < n + els.length →
          (∀ i j c, i < n → at2 old i j = some c → ∃ x, olds[i * wd + j]? = some x ∧ PR w g ((⟨rd, []⟩ : Place).snoc i j) c x) →
          (∀ r, nthO h2' r = nthO s.h r ∧ (∀ i j, ab i j ≠ some r) ∧ (r = rd → n = 0 ∧ ¬ VP s.h ⟨rd, []⟩) ∨ nthO h2' r = some .dead ∧ nthO s.h r ≠ none ∧ nthO s.h r ≠ some .free) →
          (∀ i j, ab i j ≠ some rd) → (∀ i j nn z e0, i < n → at2 old i j = some (.own nn z e0) → ∃ z0, nthO s.h rd = some (.row true z0 old)) → (∀ e ∈ new, e.length = wd) → OpS P o Γ a.tmps a w k kp := by
        intro base cap rd olds f1 f2 f3 f4 f5 f6 f7 f8 f9
        have hnt : nn' = true := by
          cases hb : nn' with
          | true => rfl
          | false => have := (hne1 hb).2.2; rw [this] at f4; have h6 := (hne1 hb).1; rw [h6] at hnewl; simp [this] at hnewl f4; omega
        have hrun := run_append_grow_src (P := P) w t u o.type e ie zv ht hi hz1 base n cap olds (by rw [hwd]; exact f3) (a.eval y2) els.length news (by rw [hwd]; exact hSrc) f4 (by omega)
          (growslice_fits f4 (by rw [← hnewl]; omega))
        have hge := grownCap_ge w (n + els.length) cap e
        have hcm : grownCap w (n + els.length) cap e ≤ maxLen := grownCap_le_maxLen w (n + els.length) cap e (by simp only [maxLen]; omega)
        generalize grownCap w (n + els.length) cap e = cap' at hrun hge hcm
        generalize hcur' : ((olds ++ news).toArray ++ Builtin.zeroCells zv.cells (cap' - (n + els.length))) = cur' at hrun
        have hcs : cur'.size = cap' * wd := by
          rw [← hcur']
          simp only [Array.size_append, List.size_toArray, List.length_append, size_zeroCells, hzc, f2, hnl, ← Nat.add_mul]
          congr 1
          omega
        have hcg : ∀ (m : Nat) (x : Value), (olds ++ news)[m]? = some x → cur'[m]? = some x := by
          intro m x hm
          have hml := (List.getElem?_eq_some_iff.1 hm).1
          rw [← hcur', Array.getElem?_append, if_pos (by simpa using hml)]
          simpa using hm
        refine fin rd w.heap.size cap' (cap' * wd, new.length) (w.drew.alloc (.cells cur' e)) (.slice (some ⟨w.heap.size, 0, none⟩) (n + els.length) cap') (fun r => ?_) f7 f8 f9 rfl rfl rfl (by simp) (fun b hb _ => ?_) (fun _ => .inr ⟨Nat.le_refl _, by simp⟩) (fun _ => ?_) ?_ (fun e => by rw [hnt] at e; cases e) (fun e => by rw [hnt] at e; cases e) (fun _ => ⟨by rw [hnewl], by omega, hcm, Nat.le_refl _⟩)
        · rcases f6 r with ⟨g1, g2, g3⟩ | g1
          · exact .inl ⟨g1, g2, fun e => ⟨(g3 e).1, fun hv => absurd hv (g3 e).2⟩⟩
          · exact .inr g1
        · exact heap_alloc_old w.drew _ b hb
        · refine ⟨cur', e, (0, 0), fun i j => (olds ++ news).getD (i * wd + j) undef, heap_alloc_new w.drew _, by rw [hcs]; exact Nat.le_refl _, NF0, ?_, rfl, fun i j c hc => ?_, fun i j c hi' hc => ?_, fun i j c hc => ?_⟩
          · rw [hnewl]; exact Nat.mul_le_mul_right _ hge
          · obtain ⟨b1, b2⟩ := hat new f9 i j c hc
            have hfit : i * wd + j < (olds ++ news).length := by
              have : (i + 1) * wd ≤ new.length * wd := Nat.mul_le_mul_right _ b1
              rw [Nat.add_mul, hnewl, hmul] at this
              rw [List.length_append]
              omega
            refine hcg _ _ ?_
            show (olds ++ news)[i * wd + j]? = some ((olds ++ news).getD (i * wd + j) undef)
            rw [List.getD_eq_getElem?_getD, List.getElem?_eq_getElem hfit]
            rfl
          · obtain ⟨x, hx, hpr⟩ := f5 i j c hi' hc
            have : (olds ++ news).getD (i * wd + j) undef = x := by
              rw [List.getD_eq_getElem?_getD, List.getElem?_append_left (List.getElem?_eq_some_iff.1 hx).1, hx]
              rfl
            simp only [this]
            exact hpr
          · obtain ⟨x, hx, ht'⟩ := htook i j c hc
            have : (olds ++ news).getD ((n + i) * wd + j) undef = x := by
              rw [List.getD_eq_getElem?_getD, List.getElem?_append_right (by rw [f2, Nat.add_mul]; omega), f2, Nat.add_mul, show n * wd + i * wd + j - n * wd = i * wd + j by omega, hx]
              rfl
            simp only [this]
            exact ht'
        · rw [hrun0, f1, hrun]
          rfl
      rcases dst with ⟨e1, rfl, rfl, hd3⟩ | ⟨rd, cap, cur, ty, fr, vs0, rfl, e1, c1, c2, c3, hb, hC, hf, hvp, hzo, hcell, hown, hd3, hnab, hrn, hrf⟩
      · -- onto nil
        have hnone : nthO s.h (s.h.length + 1) = none := by rw [nthO_eq]; exact List.getElem?_eq_none (by omega)
        have hnv : ¬ VP s.h ⟨s.h.length + 1, []⟩ := by unfold VP; rw [hnone]; exact id
        have hnabr : ∀ i j, ab i j ≠ some (s.h.length + 1) := by
          intro i j hr
          obtain ⟨_, _, _, _, h5⟩ := habo i j _ hr
          rw [hnone] at h5
          cases h5
        have hdN : ∀ r, nthO h2' r = nthO s.h r ∧ (∀ i j, ab i j ≠ some r) ∨ nthO h2' r = some .dead ∧ nthO s.h r ≠ none ∧ nthO s.h r ≠ some .free := by
          intro r
          have hs1 : nthO h1' r = nthO s.h r ∧ (∀ i j, ab i j ≠ some r) ∨ nthO h1' r = some .dead ∧ nthO s.h r ≠ none ∧ nthO s.h r ≠ some .free := by
            rcases hd1 r with h5 | ⟨h5, ⟨i, j, h6⟩ | ⟨z, e', h6⟩⟩
            · exact .inl h5
            · obtain ⟨_, _, _, _, h7⟩ := habo i j r h6
              exact .inr ⟨h5, by rw [h7]; simp, by rw [h7]; simp⟩
            · exact .inr ⟨h5, by rw [h6]; simp, by rw [h6]; simp⟩
          rcases hd3 r with h5 | ⟨h5, z, e0, h6⟩
          · rw [h5]; exact hs1
          · rcases hs1 with ⟨h7, _⟩ | ⟨h7, h8, h9⟩
            · exact .inr ⟨h5, by rw [← h7, h6]; simp, by rw [← h7, h6]; simp⟩
            · exact .inr ⟨h5, h8, h9⟩
        have hne : new = els := by rw [hnew]; simp
        rcases Nat.eq_zero_or_pos els.length with h0 | h0
        · have hels : els = [] := List.eq_nil_of_length_eq_zero h0
          have hnf : nn' = false := by rw [hnn, hels]; rfl
          have hn0 : news = [] := List.eq_nil_of_length_eq_zero (by rw [hnl, h0]; simp)
          have hrun : (Builtin.append_ #[t, u] o.type #[.slice none 0 0, a.eval y2]).run P w = .ok (.slice none 0 0) w := by
            have hc1 := hSrc.cells
            have hl1 := hSrc.len
            rw [h0] at hc1 hl1
            rcases hSrc.kind with ⟨e', hk⟩ | hk <;> simp [Builtin.append_, run_underlying ht, run_underlying hk, sizeOf, typeInfo, hi, hl1, hwd, hc1]
          refine fin (s.h.length + 1) (g.β ⟨s.h.length + 1, []⟩) 0 (0, 0) w (.slice none 0 0) (fun r => ?_) hnabr (fun i j nn z e0 hi' => by omega) (fun e' he' => by rw [hne, hels] at he'; simp at he') rfl rfl rfl (Nat.le_refl _) (fun _ _ _ => rfl) (fun e => by rw [hnf] at e; cases e) (fun e => by rw [hnf] at e; cases e) ?_ (fun _ => rfl) (fun _ => rfl) (fun e => by rw [hnf] at e; cases e)
          · rcases hdN r with ⟨h5, h6⟩ | h5
            · exact .inl ⟨h5, h6, fun e => ⟨rfl, fun hv => absurd hv hnv⟩⟩
            · exact .inr h5
          · rw [hrun0, e1, hrun]
            rfl
        · refine grow none 0 (s.h.length + 1) [] e1 (by simp) (run_firstCells_none _ _ _ _ _) (by omega) (fun i j c hi' => by omega) (fun r => ?_) hnabr (fun i j nn z e0 hi' => by omega) (fun e' he' => by rw [hne] at he'; exact hez e' he')
          rcases hdN r with ⟨h5, h6⟩ | h5
          · exact .inl ⟨h5, h6, fun e => ⟨rfl, by rw [e] at *; exact hnv⟩⟩
          · exact .inr h5
      · -- onto elements
        have hdN : ∀ r, nthO h2' r = nthO s.h r ∧ (∀ i j, ab i j ≠ some r) ∧ r ≠ rd ∨ nthO h2' r = some .dead ∧ nthO s.h r ≠ none ∧ nthO s.h r ≠ some .free := by
          intro r
          rw [hd3]
          by_cases e : r = rd
          · subst e
            rw [if_pos rfl]
            exact .inr ⟨rfl, hrn, hrf⟩
          · rw [if_neg e]
            rcases hd1 r with ⟨h5, h6⟩ | ⟨h5, ⟨i, j, h6⟩ | ⟨z, e', h6⟩⟩
            · exact .inl ⟨h5, h6, e⟩
            · obtain ⟨_, _, _, _, h7⟩ := habo i j r h6
              exact .inr ⟨h5, by rw [h7]; simp, by rw [h7]; simp⟩
            · exact .inr ⟨h5, by rw [h6]; simp, by rw [h6]; simp⟩
        have hznew : ∀ e' ∈ new, e'.length = wd := by
          intro e' he'
          rw [hnew] at he'
          rcases List.mem_append.1 he' with h5 | h5
          · exact hzo e' (List.mem_of_mem_take h5)
          · exact hez e' h5
        have hcapc : cap * wd ≤ cur.size := by omega
        by_cases hroom : n + els.length ≤ cap
        · -- there is room
          have hfit : (n + els.length) * wd ≤ cap * wd := Nat.mul_le_mul_right _ hroom
          have hnt : nn' = true := by rw [hnn]; rfl
          have hrun := run_append_room_src (P := P) w t u o.type e ie ht hi (g.β ⟨rd, []⟩) 0 n cap (a.eval y2) els.length news (by rw [hwd]; exact hSrc) hroom (fun j hj => by
            rw [hwd, cell_cells hb]
            rw [Array.getElem?_eq_getElem (show 0 + n * wd + j < cur.size by omega)]
            rfl) (fun j hj => by
            rw [hwd]
            exact frozen_cells hb hf (by omega))
          rw [hwd, Nat.zero_add] at hrun
          obtain ⟨cur', k1, k2, k3, k4, k5, k6, k7, k8⟩ := setCells_heap (g.β ⟨rd, []⟩) ty fr news (n * wd) w cur hb (by omega)
          refine fin rd (g.β ⟨rd, []⟩) cap ((g.C ⟨rd, []⟩).1, new.length) (w.setCells (g.β ⟨rd, []⟩) (n * wd) news) (.slice (some ⟨g.β ⟨rd, []⟩, 0, none⟩) (n + els.length) cap) (fun r => ?_) hnab (fun i j nn z e0 _ hc => ⟨_, hown i j nn z e0 hc⟩) hznew k6 k7 k8 (by omega)
            (fun b _ hne' => k4 b fun e => ?_) (fun _ => .inl ⟨hvp, rfl⟩) (fun _ => ?_) ?_ (fun e => by rw [hnt] at e; cases e) (fun e => by rw [hnt] at e; cases e) (fun _ => ⟨by rw [hnewl], by omega, c2, c3⟩)
          · rcases hdN r with ⟨h5, h6, h7⟩ | h5
            · exact .inl ⟨h5, h6, fun e => absurd e h7⟩
            · exact .inr h5
          · rcases hne' e with h5 | h5
            · exact h5 hvp
            · exact h5 rfl
          · refine ⟨cur', ty, fr, fun i j => cur'.getD (i * wd + j) undef, k1, by rw [k2]; exact hC, by rw [k2]; exact hf, by rw [hnewl]; simp only; omega, rfl, fun i j c hc => ?_, fun i j c hi' hc => ?_, fun i j c hc => ?_⟩
            · obtain ⟨b1, b2⟩ := hat new hznew i j c hc
              have : (i + 1) * wd ≤ new.length * wd := Nat.mul_le_mul_right _ b1
              rw [Nat.add_mul, hnewl] at this
              have hlt : i * wd + j < cur'.size := by omega
              simp [Array.getD_eq_getD_getElem?, hlt]
            · obtain ⟨h5, h6⟩ := hcell i j c hc
              obtain ⟨_, b2⟩ := hat old hzo i j c hc
              have h7 := k3 (i * wd + j)
              have : (i + 1) * wd ≤ n * wd := Nat.mul_le_mul_right _ hi'
              rw [Nat.add_mul] at this
              rw [if_neg (by omega), h5] at h7
              have h8 : cur'.getD (i * wd + j) undef = vs0 i j := by simp [Array.getD_eq_getD_getElem?, h7]
              simp only [h8]
              exact h6
            · obtain ⟨x, hx, ht'⟩ := htook i j c hc
              have hxl := (List.getElem?_eq_some_iff.1 hx).1
              have h7 := k3 ((n + i) * wd + j)
              rw [Nat.add_mul, if_pos (by omega), show n * wd + i * wd + j - n * wd = i * wd + j by omega, hx] at h7
              have h8 : cur'.getD ((n + i) * wd + j) undef = x := by rw [Nat.add_mul]; simp [Array.getD_eq_getD_getElem?, h7]
              simp only [h8]
              exact ht'
          · rw [hrun0, e1, hrun]
            rfl
        · have hol : (cur.toList.take (n * wd)).length = n * wd := by
            have : n * wd ≤ cap * wd := Nat.mul_le_mul_right _ c1
            simp
            omega
          refine grow (some ⟨g.β ⟨rd, []⟩, 0, none⟩) cap rd (cur.toList.take (n * wd)) e1 hol ?_ (by omega) (fun i j c hi' hc => ?_) (fun r => ?_) hnab (fun i j nn z e0 _ hc => ⟨_, hown i j nn z e0 hc⟩) hznew
          · refine run_firstCells_some w.drew wd n _ n cap _ hol fun j v hj => ?_
            rw [Addr.add_mid, Nat.zero_add]
            show w.cell? _ = _
            rw [cell_cells hb]
            rw [List.getElem?_take] at hj
            split at hj
            · simpa using hj
            · cases hj
          · obtain ⟨h5, h6⟩ := hcell i j c hc
            obtain ⟨_, b2⟩ := hat old hzo i j c hc
            refine ⟨_, ?_, h6⟩
            have : (i + 1) * wd ≤ n * wd := Nat.mul_le_mul_right _ hi'
            rw [Nat.add_mul] at this
            rw [List.getElem?_take, if_pos (by omega)]
            simpa using h5
          · rcases hdN r with ⟨h5, h6, h7⟩ | h5
            · exact .inl ⟨h5, h6, fun e => absurd e h7⟩
            · exact .inr h5
    · exact h.elim
  · exact h.elim
end
end Go.Ab
/- Steps that the world does not see: what is forgotten, and places that get other names. -/
set_option linter.unusedVariables false
set_option linter.unusedSimpArgs false
namespace Go.Ab

mutual
theorem killV_tr {w : World} {g : G} {p : Place → Bool} {v : TV} {x : Value} (h : TR w g v x) : TR w g (killV p v) x := by
  cases h with
  | un x => exact .un x
  | p c x h => exact .p c x h
  | agg cs vs h => exact .agg _ vs (killL_tr h)
  | ptr pl z i j =>
    simp only [killV]
    split
    · exact .un _
    · exact .ptr pl z i j
  | cptr cs j b o vs hI hc hr => exact .cptr cs j b o vs hI hc hr
  | sl0 pl z =>
    simp only [killV]
    split
    · exact .un _
    · exact .sl0 pl z
  | sl1 pl z off len cap hl hm hc hN =>
    simp only [killV]
    split
    · exact .un _
    · exact .sl1 pl z off len cap hl hm hc hN
  | fn f cs vs h => exact .fn f _ vs (killL_tr h)
  | tup cs vs h => exact .tup _ vs (killL_tr h)
  | map id =>
    simp only [killV]
    split
    · exact .un _
    · exact .map id
  | ifv t v x h => exact .ifv t _ x (killV_tr h)
theorem killL_tr {w : World} {g : G} {p : Place → Bool} {cs : List TV} {vs : List Value} (h : TRL w g cs vs) : TRL w g (killL p cs) vs := by
  cases h with
  | nil => exact .nil
  | cons v x cs vs h hs => exact .cons _ x _ vs (killV_tr h) (killL_tr hs)
end
mutual
theorem killV_pls {p : Place → Bool} (v : TV) : ∀ π ∈ plsV (killV p v), π ∈ plsV v ∧ p π = false := by
  cases v with
  | ptr pl z i j =>
    simp only [killV]
    split
    · simp [plsV]
    · rename_i h; simp [plsV, h]
  | sl nn pl z off len =>
    simp only [killV]
    split
    · simp [plsV]
    · rename_i h; simp [plsV, h]
  | map id =>
    simp only [killV]
    split
    · simp [plsV]
    · rename_i h; simp [plsV, h]
  | agg cs => simpa [killV, plsV] using killL_pls cs
  | fn f cs => simpa [killV, plsV] using killL_pls cs
  | tup cs => simpa [killV, plsV] using killL_pls cs
  | ifv t v => simpa [killV, plsV] using killV_pls v
  | un => simp [killV, plsV]
  | p c => simp [killV, plsV]
  | cptr cs j => simp [killV, plsV]
theorem killL_pls {p : Place → Bool} (l : List TV) : ∀ π ∈ plsL (killL p l), π ∈ plsL l ∧ p π = false := by
  cases l with
  | nil => simp [killL, plsL]
  | cons v l =>
    intro π hπ
    simp only [killL, plsL, List.mem_append] at hπ ⊢
    rcases hπ with h | h
    · obtain ⟨h1, h2⟩ := killV_pls v π h; exact ⟨.inl h1, h2⟩
    · obtain ⟨h1, h2⟩ := killL_pls l π h; exact ⟨.inr h1, h2⟩
end
theorem killL_length (p : Place → Bool) (l : List TV) : (killL p l).length = l.length := by
  induction l with
  | nil => rfl
  | cons a l ih => simp [killL, ih]
theorem killL_getD (p : Place → Bool) (l : List TV) (i : Nat) : (killL p l).getD i .un = killV p (l.getD i .un) := by
  induction l generalizing i with
  | nil => simp [killL, killV]
  | cons a l ih => cases i <;> simp [killL]; simpa using ih _
theorem getT_kill (p : Place → Bool) (t : List (List TV)) (i : Nat) : getT (t.map (killL p)) i = killV p (getT t i) := by
  unfold getT
  have : ((t.map (killL p)).getD (i / 16) []) = killL p (t.getD (i / 16) []) := by
    simp only [List.getD_eq_getElem?_getD, List.getElem?_map]
    cases t[i / 16]? <;> rfl
  rw [this, killL_getD]
theorem nthO_mapH (f : List TV → List TV) (h : List Ob) (r : Nat) : nthO (mapH f h) r = (nthO h r).map (mapO f) := by
  induction h generalizing r with
  | nil => simp [mapH, nthO]
  | cons o h ih => cases r <;> simp [mapH, nthO, ih]
theorem mapH_length (f : List TV → List TV) (h : List Ob) : (mapH f h).length = h.length := by
  induction h with
  | nil => rfl
  | cons o h ih => simp [mapH, ih]
theorem VP_mapH {f : List TV → List TV} {h : List Ob} {π : Place} : VP (mapH f h) π ↔ VP h π := by
  unfold VP
  rw [nthO_mapH]
  cases nthO h π.root with
  | none => rfl
  | some o => cases o <;> rfl
theorem OkP_mapH {f : List TV → List TV} {h : List Ob} {π : Place} : OkP (mapH f h) π ↔ OkP h π := by
  unfold OkP
  rw [nthO_mapH]
  cases nthO h π.root with
  | none => rfl
  | some o => cases o <;> rfl
theorem mapO_dead {f : List TV → List TV} {o : Option Ob} : o.map (mapO f) = some .dead ↔ o = some .dead := by
  cases o with
  | none => simp
  | some o => cases o <;> simp [mapO]
theorem mapO_free {f : List TV → List TV} {o : Option Ob} : o.map (mapO f) = some .free ↔ o = some .free := by
  cases o with
  | none => simp
  | some o => cases o <;> simp [mapO]

/-- Forgetting. -/
theorem Sim.kill {Γ : Ctx} {s : AS} {tm : Array Value} {w : World} {g : G} (hs : Sim Γ s tm w g) (p : Place → Bool) : Sim Γ ⟨s.t.map (killL p), mapH (killL p) s.h⟩ tm w g := by
  refine ⟨fun i => by rw [getT_kill]; exact killV_tr (hs.tmp i), hs.n, ⟨fun r o e => ?_, fun π π' v v' => hs.hok.inj _ _ (VP_mapH.1 v) (VP_mapH.1 v'), fun π v => hs.hok.lt _ (VP_mapH.1 v), fun π v => hs.hok.dis _ (VP_mapH.1 v), hs.hok.im⟩,
    ⟨hs.frm.os, hs.frm.tape, hs.frm.output, hs.frm.size, hs.frm.block, fun π v => hs.frm.vp _ (VP_mapH.1 v), hs.frm.im0, hs.frm.im1, fun r hr => hs.frm.root r hr, fun r hr => ?_, by rw [mapH_length]; exact hs.frm.len⟩, fun i π hπ => ?_, fun r o e π hπ => ?_⟩
  · rw [nthO_mapH] at e
    cases ho : nthO s.h r with
    | none => rw [ho] at e; cases e
    | some o0 =>
      rw [ho] at e
      simp only [Option.map_some, Option.some.injEq] at e
      subst e
      have h0 := hs.hok.ob r o0 ho
      cases o0 with
      | box cs =>
        obtain ⟨cur, t, fr, h1, h2, vs, h3, h4⟩ := h0
        exact ⟨cur, t, fr, h1, h2, vs, killL_tr h3, h4⟩
      | lit z els =>
        obtain ⟨cur, t, fr, h1, h2, h3, h4, h5, h6, h7, h8⟩ := h0
        refine ⟨cur, t, fr, h1, h2, h3, by simpa using h4, by simpa using h5, h6, fun e he => ?_, fun i e he => ?_⟩
        · obtain ⟨e0, he0, rfl⟩ := List.mem_map.1 he
          rw [killL_length]; exact h7 e0 he0
        · simp only [List.getElem?_map, Option.map_eq_some_iff] at he
          obtain ⟨e0, he0, rfl⟩ := he
          obtain ⟨vs, h9, h10⟩ := h8 i e0 he0
          exact ⟨vs, killL_tr h9, h10⟩
      | row nn z els => exact h0
      | dead => trivial
      | free => trivial
  · rw [nthO_mapH]
    exact fun h => hs.frm.nofree r hr (mapO_free.1 h)
  · show OkP (mapH (killL p) s.h) π
    change π ∈ plsV (getT (s.t.map (killL p)) i) at hπ
    rw [getT_kill] at hπ
    exact OkP_mapH.2 (hs.refT i π (killV_pls _ π hπ).1)
  · refine OkP_mapH.2 ?_
    change nthO (mapH (killL p) s.h) r = some o at e
    rw [nthO_mapH] at e
    cases ho : nthO s.h r with
    | none => rw [ho] at e; cases e
    | some o0 =>
      rw [ho] at e
      simp only [Option.map_some, Option.some.injEq] at e
      subst e
      refine hs.refH r o0 ho π ?_
      cases o0 with
      | box cs => exact (killL_pls cs π hπ).1
      | lit z els =>
        simp only [mapO, plsOb] at hπ ⊢
        obtain ⟨e, he, h1⟩ := plsLL_mem.1 hπ
        obtain ⟨e0, he0, rfl⟩ := List.mem_map.1 he
        exact plsLL_mem.2 ⟨e0, he0, (killL_pls e0 π h1).1⟩
      | row nn z els => exact hπ
      | dead => exact hπ
      | free => exact hπ
end Go.Ab
/- Steps that the world does not see: rows become data that stay. -/
set_option linter.unusedVariables false
set_option linter.unusedSimpArgs false
namespace Go.Ab

theorem frzC_eq (l : List PV) : frzC l = l.map frzP := by
  induction l with
  | nil => rfl
  | cons a l ih => simp [frzC, ih]
theorem frzEs_eq (l : List (List PV)) : frzEs l = l.map (List.map frzP) := by
  induction l with
  | nil => rfl
  | cons a l ih => simp [frzEs, frzC_eq, ih]
theorem at2_frz (l : List (List PV)) (i j : Nat) : at2 (frzEs l) i j = (at2 l i j).map frzP := by
  unfold at2
  rw [frzEs_eq, List.getElem?_map]
  cases l[i]? <;> simp
theorem IR.frz {w : World} {Im : Nat → Prop} {c : PV} {x : Value} (h : IR w Im c x) : frzP c = c := by cases h <;> rfl

/-- What a row reads as once nobody turns it. -/
theorem RowR.frozen {w : World} {g : G} {Im' : Nat → Prop} {π : Place} {nn : Bool} {z : Nat} {els : List (List PV)} (h : RowR w g π nn z els) (hsub : ∀ b, g.Im b → Im' b) (hIm : ∀ p e, rowAt nn els p = some (true, e) → Im' (g.β (π.app p))) :
    nn = false ∧ els = [] ∨ nn = true ∧ ∃ vs : Nat → Nat → Value, ∀ i j c, at2 els i j = some c → w.cell? ⟨g.β π, i * z + j, none⟩ = some (vs i j) ∧ IR w Im' (frzP c) (vs i j) := by
  refine RowR.rec (w := w) (g := g) (motive_1 := fun π c x _ => (∀ nn z els, c = .own nn z els → ∀ p e, rowAt nn els p = some (true, e) → Im' (g.β (π.app p))) → IR w Im' (frzP c) x)
    (motive_2 := fun π nn z els _ => (∀ p e, rowAt nn els p = some (true, e) → Im' (g.β (π.app p))) → nn = false ∧ els = [] ∨ nn = true ∧ ∃ vs : Nat → Nat → Value, ∀ i j c, at2 els i j = some c → w.cell? ⟨g.β π, i * z + j, none⟩ = some (vs i j) ∧ IR w Im' (frzP c) (vs i j)) ?_ ?_ ?_ ?_ ?_ h hIm
  · intro π c x h _
    rw [h.frz]
    exact h.mono (fun _ _ => rfl) hsub
  · intro π z _ _
    exact .isl0 z
  · intro π z els cap h hl hm hc ih hI
    have hI := hI true z els rfl
    rcases ih hI with ⟨h1, _⟩ | ⟨_, vs, h2⟩
    · cases h1
    · have hz : ∀ e ∈ els, e.length = z := by cases h with | mk _ _ _ cur t fr vs hb hC hf hz => exact hz
      have hlen : (frzEs els).length = els.length := by rw [frzEs_eq]; simp
      have := IR.isl1 (w := w) (Im := Im') z (frzEs els) ⟨g.β π, 0, none⟩ cap vs (fun _ => rfl) (fun _ => by have := hI [] els rfl; rwa [Place.app_nil] at this) (by rw [hlen]; exact hl) hm (fun e he => by
        rw [frzEs_eq] at he
        obtain ⟨e0, he0, rfl⟩ := List.mem_map.1 he
        simpa using hz e0 he0) (fun i j c hc => by
        rw [at2_frz] at hc
        obtain ⟨c0, hc0, rfl⟩ := Option.map_eq_some_iff.1 hc
        simpa using (h2 i j c0 hc0).1) (fun i j c hc => by
        rw [at2_frz] at hc
        obtain ⟨c0, hc0, rfl⟩ := Option.map_eq_some_iff.1 hc
        exact (h2 i j c0 hc0).2)
      rw [hlen] at this
      exact this
  · intro π z _ _
    exact .inl ⟨rfl, rfl⟩
  · intro π z els cur t fr vs hb hC hf hz hn hN hp hc hr ih hI
    right
    refine ⟨rfl, vs, fun i j c hij => ⟨?_, ?_⟩⟩
    · rw [cell_cells hb]
      exact hc i j c hij
    · refine ih i j c hij fun nn z els e p e' hp' => ?_
      rw [Place.snoc_app]
      refine hI _ e' ?_
      rw [rowAt_cons, hij, e]
      exact hp'

/-- A slice of a root that is frozen. -/
def FrzOk (w : World) (g : G) (Im' : Nat → Prop) (r z0 : Nat) (els : List (List PV)) : Prop :=
  els.length = (g.C ⟨r, []⟩).2 ∧ (∀ e ∈ els, e.length = z0) ∧ (els ≠ [] → Im' (g.β ⟨r, []⟩)) ∧ ∃ vs : Nat → Nat → Value, ∀ i j c, at2 els i j = some c → w.cell? ⟨g.β ⟨r, []⟩, i * z0 + j, none⟩ = some (vs i j) ∧ IR w Im' (frzP c) (vs i j)

theorem FrzOk.slice {w : World} {g : G} {Im' : Nat → Prop} {r z0 : Nat} {els : List (List PV)} (h : FrzOk w g Im' r z0 els) {nn : Bool} {off len : Int} {x : Value} (hv : TR w g (.sl nn ⟨r, []⟩ z0 off len) x) :
    IR w Im' (.isl nn z0 (frzEs ((els.drop off.toNat).take len.toNat))) x := by
  obtain ⟨h1, h2, h3, vs, h4⟩ := h
  cases hv with
  | sl0 => simpa [frzEs_eq] using IR.isl0 (w := w) (Im := Im') z0
  | sl1 _ _ off len cap hl hm hc hN =>
    simp only [Int.toNat_natCast]
    have hlen : (frzEs ((els.drop off).take len)).length = len := by rw [frzEs_eq]; simp; omega
    have hsub : ∀ i j c, at2 (frzEs ((els.drop off).take len)) i j = some c → ∃ c0, at2 els (off + i) j = some c0 ∧ c = frzP c0 := by
      intro i j c hc
      rw [at2_frz] at hc
      obtain ⟨c0, hc0, rfl⟩ := Option.map_eq_some_iff.1 hc
      refine ⟨c0, ?_, rfl⟩
      unfold at2 at hc0 ⊢
      rw [List.getElem?_take] at hc0
      split at hc0
      · rwa [List.getElem?_drop] at hc0
      · simp at hc0
    have := IR.isl1 (w := w) (Im := Im') z0 (frzEs ((els.drop off).take len)) ⟨g.β ⟨r, []⟩, off * z0, none⟩ cap (fun i j => vs (off + i) j) (fun _ => rfl) (fun hne => h3 (by rintro rfl; simp [frzEs_eq] at hne)) (by rw [hlen]; exact hl) hm (fun e he => by
      rw [frzEs_eq] at he
      obtain ⟨e0, he0, rfl⟩ := List.mem_map.1 he
      simpa using h2 e0 (List.mem_of_mem_drop (List.mem_of_mem_take he0))) (fun i j c hc => by
      obtain ⟨c0, hc0, rfl⟩ := hsub i j c hc
      have := (h4 _ _ _ hc0).1
      rw [Nat.add_mul, Nat.add_assoc] at this
      exact this) (fun i j c hc => by
      obtain ⟨c0, hc0, rfl⟩ := hsub i j c hc
      exact (h4 _ _ _ hc0).2)
    rw [hlen] at this
    exact this
end Go.Ab
/- Steps that the world does not see: freezing, thawing, new dead objects, forgetting. -/
set_option linter.unusedVariables false
set_option linter.unusedSimpArgs false
namespace Go.Ab

theorem frzL_length {LE : PE → List (List PV)} {r z0 : Nat} {els : List (List PV)} (l : List TV) : (frzL LE r z0 els l).length = l.length := by
  induction l with
  | nil => simp [frzL]
  | cons a l ih => simp [frzL, ih]
theorem frzL_getD {LE : PE → List (List PV)} {r z0 : Nat} {els : List (List PV)} (l : List TV) (i : Nat) : (frzL LE r z0 els l).getD i .un = frzV LE r z0 els (l.getD i .un) := by
  induction l generalizing i with
  | nil => simp [frzL, frzV]
  | cons a l ih =>
    cases i with
    | zero => simp [frzL]
    | succ i => simpa only [frzL, List.getD_cons_succ] using ih i
theorem frzLL_getD {LE : PE → List (List PV)} {r z0 : Nat} {els : List (List PV)} (t : List (List TV)) (i : Nat) : (frzLL LE r z0 els t).getD i [] = frzL LE r z0 els (t.getD i []) := by
  induction t generalizing i with
  | nil => simp [frzLL, frzL]
  | cons a l ih =>
    cases i with
    | zero => simp [frzLL]
    | succ i => simpa only [frzLL, List.getD_cons_succ] using ih i
theorem getT_frz {LE : PE → List (List PV)} {r z0 : Nat} {els : List (List PV)} (t : List (List TV)) (i : Nat) : getT (frzLL LE r z0 els t) i = frzV LE r z0 els (getT t i) := by
  unfold getT
  rw [frzLL_getD, frzL_getD]

mutual
theorem frzV_pls {LE : PE → List (List PV)} {r z0 : Nat} {els : List (List PV)} (v : TV) : ∀ π ∈ plsV (frzV LE r z0 els v), π ∈ plsV v := by
  intro π hπ
  cases v with
  | sl nn pl z off len =>
    obtain ⟨rt, path⟩ := pl
    cases path with
    | nil =>
      simp only [frzV] at hπ
      split at hπ
      · split at hπ <;> simp [plsV] at hπ
      · exact hπ
    | cons _ _ => simpa [frzV] using hπ
  | agg cs => simp only [frzV, plsV] at hπ ⊢; exact frzL_pls cs π hπ
  | tup cs => simp only [frzV, plsV] at hπ ⊢; exact frzL_pls cs π hπ
  | fn f cs => simp only [frzV, plsV] at hπ ⊢; exact frzL_pls cs π hπ
  | un => simpa [frzV] using hπ
  | p c => simpa [frzV] using hπ
  | ptr => simpa [frzV] using hπ
  | cptr => simpa [frzV] using hπ
  | map => simpa [frzV] using hπ
  | ifv => simpa [frzV] using hπ
theorem frzL_pls {LE : PE → List (List PV)} {r z0 : Nat} {els : List (List PV)} (l : List TV) : ∀ π ∈ plsL (frzL LE r z0 els l), π ∈ plsL l := by
  intro π hπ
  cases l with
  | nil => simpa [frzL] using hπ
  | cons a l =>
    simp only [frzL, plsL, List.mem_append] at hπ ⊢
    exact hπ.imp (frzV_pls a π) (frzL_pls l π)
end

mutual
theorem frzV_tr {w : World} {g g' : G} {r z0 : Nat} {els : List (List PV)} (hβ : g'.β = g.β) (hC : g'.C = g.C) (hsub : ∀ b, g.Im b → g'.Im b) (hf : FrzOk w g g'.Im r z0 els) {v : TV} {x : Value} (h : TR w g v x) :
    TR w g' (frzV stdE r z0 els v) x := by
  have keep : TR w g' v x := h.mono (fun _ _ => rfl) hsub fun π _ => ⟨by rw [hβ], by rw [hC]⟩
  cases v with
  | sl nn pl z off len =>
    obtain ⟨rt, path⟩ := pl
    cases path with
    | nil =>
      simp only [frzV]
      split
      · rename_i e
        split
        · rename_i e2
          have e := Nat.eq_of_beq_eq_true e
          have e2 := Nat.eq_of_beq_eq_true e2
          subst e; subst e2
          exact .p _ _ (hf.slice h)
        · exact .un _
      · exact keep
    | cons _ _ => simpa [frzV] using keep
  | agg cs => cases h with | agg cs vs h => exact .agg _ _ (frzL_tr hβ hC hsub hf h)
  | tup cs => cases h with | tup cs vs h => exact .tup _ _ (frzL_tr hβ hC hsub hf h)
  | fn f cs => cases h with | fn f cs vs h => exact .fn _ _ _ (frzL_tr hβ hC hsub hf h)
  | un => simpa [frzV] using keep
  | p c => simpa [frzV] using keep
  | ptr => simpa [frzV] using keep
  | cptr => simpa [frzV] using keep
  | map => simpa [frzV] using keep
  | ifv => simpa [frzV] using keep
theorem frzL_tr {w : World} {g g' : G} {r z0 : Nat} {els : List (List PV)} (hβ : g'.β = g.β) (hC : g'.C = g.C) (hsub : ∀ b, g.Im b → g'.Im b) (hf : FrzOk w g g'.Im r z0 els) {cs : List TV} {vs : List Value} (h : TRL w g cs vs) :
    TRL w g' (frzL stdE r z0 els cs) vs := by
  cases h with
  | nil => exact .nil
  | cons v x cs vs h hs => exact .cons _ _ _ _ (frzV_tr hβ hC hsub hf h) (frzL_tr hβ hC hsub hf hs)
end

/-- An object whose cells are seen otherwise. -/
theorem ObR.mapped {w : World} {g g' : G} {r : Nat} {o : Ob} {f : List TV → List TV} (h : ObR w g r o) (hf : ∀ cs vs, TRL w g cs vs → TRL w g' (f cs) vs) (hl : ∀ cs, (f cs).length = cs.length)
    (hβ : g'.β = g.β) (hC : g'.C = g.C) (hsub : ∀ b, g.Im b → g'.Im b) : ObR w g' r (mapO f o) := by
  cases o with
  | box cs =>
    obtain ⟨cur, t, fr, h1, h2, vs, h3, h4⟩ := h
    exact ⟨cur, t, fr, by rw [hβ]; exact h1, h2, vs, hf _ _ h3, h4⟩
  | lit z els =>
    obtain ⟨cur, t, fr, h1, h2, h3, h4, h5, h6, h7, h8⟩ := h
    refine ⟨cur, t, fr, by rw [hβ]; exact h1, h2, by rw [hC]; exact h3, by rw [hC]; simpa using h4, by rw [hC]; simpa using h5, h6, fun e he => ?_, fun i e he => ?_⟩
    · obtain ⟨e0, he0, rfl⟩ := List.mem_map.1 he
      rw [hl]; exact h7 e0 he0
    · simp only [List.getElem?_map, Option.map_eq_some_iff] at he
      obtain ⟨e0, he0, rfl⟩ := he
      obtain ⟨vs, h9, h10⟩ := h8 i e0 he0
      exact ⟨vs, hf _ _ h9, h10⟩
  | row nn z els =>
    have h' : RowR w g ⟨r, []⟩ nn z els := h
    exact h'.move ⟨fun _ _ => rfl, hsub, fun _ _ _ => rfl, fun _ _ _ => by rw [hβ], fun _ _ _ _ => by rw [hC]⟩
  | dead => trivial
  | free => trivial
theorem plsOb_mapO {f : List TV → List TV} {o : Ob} {π : Place} (hf : ∀ cs, ∀ π ∈ plsL (f cs), π ∈ plsL cs) (h : π ∈ plsOb (mapO f o)) : π ∈ plsOb o := by
  cases o with
  | box cs => exact hf cs π h
  | lit z els =>
    simp only [mapO, plsOb] at h ⊢
    obtain ⟨e, he, h1⟩ := plsLL_mem.1 h
    obtain ⟨e0, he0, rfl⟩ := List.mem_map.1 he
    exact plsLL_mem.2 ⟨e0, he0, hf e0 π h1⟩
  | row nn z els => exact h
  | dead => exact h
  | free => exact h

theorem frzO_ok {w : World} {g : G} {h : List Ob} (hk : HOK w g h) {r z0 : Nat} {els : List (List PV)} {Im' : Nat → Prop} (hsub : ∀ b, g.Im b → Im' b) (hIm : ∀ π, VP h π → π.root = r → Im' (g.β π))
    (e : frzO (nthO h r) = some (z0, els)) : FrzOk w g Im' r z0 els := by
  cases ho : nthO h r with
  | none => rw [ho] at e; simp [frzO] at e
  | some o =>
    rw [ho] at e
    have h0 := hk.ob r o ho
    cases o with
    | row nn z els' =>
      simp only [frzO, Option.some.injEq, Prod.mk.injEq] at e
      obtain ⟨rfl, rfl⟩ := e
      have h' : RowR w g ⟨r, []⟩ nn z els' := h0
      have hfz := h'.frozen (Im' := Im') hsub fun p e he => hIm ⟨r, p⟩ (VP_row ho he) rfl
      have hz : els'.length = (g.C ⟨r, []⟩).2 ∧ (∀ e ∈ els', e.length = z) := by
        cases h' with
        | nil _ _ hC => simp [hC]
        | mk _ _ _ cur t fr vs hb hC hf hz hn hN hp hc hr => exact ⟨hN, hz⟩
      refine ⟨hz.1, hz.2, fun hne => ?_, ?_⟩
      · rcases hfz with ⟨_, h2⟩ | ⟨h1, _⟩
        · exact absurd h2 hne
        · subst h1
          exact hIm ⟨r, []⟩ (VP_row ho (rowAt_nil _ _)) rfl
      · rcases hfz with ⟨_, h2⟩ | ⟨_, h1⟩
        · subst h2
          exact ⟨fun _ _ => undef, fun i j c hc => by simp [at2] at hc⟩
        · exact h1
    | lit z els' =>
      simp only [frzO] at e
      split at e
      · rename_i l hl
        simp only [Option.some.injEq, Prod.mk.injEq] at e
        obtain ⟨rfl, rfl⟩ := e
        obtain ⟨cur, t, fr, h1, h2, h3, h4, h5, h6, h7, h8⟩ := h0
        obtain ⟨l1, l2⟩ := lowEls_rel (w := w) (g := g) hl
        have hv : VP h ⟨r, []⟩ := VP_root ho (by simp) (by simp) (by simp)
        have key : ∀ i cv, l[i]? = some cv → ∃ vs : List Value, vs.length = cv.length ∧ (∀ (k : Nat) (x : Value), vs[k]? = some x → cur[i * z + k]? = some x) ∧ cv.length = z ∧ (∀ (k : Nat) (c : PV), cv[k]? = some c → ∃ x, vs[k]? = some x ∧ IR w g.Im c x) ∧ noOwn cv := by
          intro i cv hi
          obtain ⟨e, he, hlow⟩ := l2 i cv hi
          obtain ⟨vs, h9, h10⟩ := h8 i e he
          obtain ⟨a1, a2, a3⟩ := lowP_rel h9 hlow
          have := h9.length
          have := h7 e (List.mem_of_getElem? he)
          exact ⟨vs, a1.symm, h10, by omega, a2, a3⟩
        refine ⟨by omega, fun e he => ?_, fun _ => hIm _ hv rfl, ?_⟩
        · obtain ⟨i, hi⟩ := List.mem_iff_getElem?.1 he
          obtain ⟨_, _, _, h9, _⟩ := key i e hi
          exact h9
        · refine ⟨fun i j => (cur[i * z + j]?).getD undef, fun i j c hc => ?_⟩
          unfold at2 at hc
          cases hi : l[i]? with
          | none => rw [hi] at hc; simp at hc
          | some cv =>
            rw [hi] at hc
            simp only [Option.bind_some] at hc
            obtain ⟨vs, b1, b2, b3, b4, b5⟩ := key i cv hi
            obtain ⟨x, hx, hir⟩ := b4 j c hc
            have hcur := b2 j x hx
            simp only [cell_cells h1, hcur, Option.getD_some]
            refine ⟨trivial, ?_⟩
            have : frzP c = c := by
              have := b5 c (List.mem_of_getElem? hc)
              cases c <;> first | rfl | exact absurd rfl (this _ _ _)
            rw [this]
            exact hir.mono (fun _ _ => rfl) hsub
      · cases e
    | box cs => simp [frzO] at e
    | dead => simp [frzO] at e
    | free => simp [frzO] at e

/-- A row becomes data that stay. -/
theorem Sim.frz {Γ : Ctx} {s : AS} {tm : Array Value} {w : World} {g : G} (hs : Sim Γ s tm w g) {r z0 : Nat} {els : List (List PV)} (e : frzO (nthO s.h r) = some (z0, els)) :
    Sim Γ ⟨frzLL stdE r z0 els s.t, mapH (frzL stdE r z0 els) (setO s.h r .dead)⟩ tm w ⟨g.β, g.C, fun b => g.Im b ∨ ∃ π, VP s.h π ∧ π.root = r ∧ g.β π = b⟩ := by
  have hsub : ∀ b, g.Im b → (g.Im b ∨ ∃ π, VP s.h π ∧ π.root = r ∧ g.β π = b) := fun b h => .inl h
  have hf : FrzOk w g (fun b => g.Im b ∨ ∃ π, VP s.h π ∧ π.root = r ∧ g.β π = b) r z0 els := frzO_ok hs.hok hsub (fun π v er => .inr ⟨π, v, er, rfl⟩) e
  have hrl : r < s.h.length := by
    cases ho : nthO s.h r with
    | none => rw [ho] at e; simp [frzO] at e
    | some o => exact nthO_lt ho
  have hget : ∀ q, nthO (setO s.h r .dead) q = if q = r then some .dead else nthO s.h q := fun q => by
    rw [nthO_setO]
    by_cases eq : q = r
    · rw [if_pos ⟨eq, hrl⟩, if_pos eq]
    · rw [if_neg (fun h => eq h.1), if_neg eq]
  have hvp : ∀ π, VP (mapH (frzL stdE r z0 els) (setO s.h r .dead)) π → VP s.h π ∧ π.root ≠ r := by
    intro π v
    have v := VP_mapH.1 v
    have h0 := hget π.root
    by_cases er : π.root = r
    · rw [if_pos er] at h0
      unfold VP at v
      rw [h0] at v
      exact v.elim
    · rw [if_neg er] at h0
      exact ⟨(VP_congr h0).1 v, er⟩
  have hok : ∀ π, OkP s.h π → OkP (mapH (frzL stdE r z0 els) (setO s.h r .dead)) π := by
    intro π v
    refine OkP_mapH.2 ?_
    have h0 := hget π.root
    by_cases er : π.root = r
    · rw [if_pos er] at h0
      unfold OkP
      rw [h0]
      trivial
    · rw [if_neg er] at h0
      exact (OkP_congr h0).2 v
  refine ⟨fun i => ?_, hs.n, ⟨fun q o eo => ?_, fun π π' v v' eb => hs.hok.inj _ _ (hvp π v).1 (hvp π' v').1 eb, fun π v => hs.hok.lt _ (hvp π v).1, fun π v => ?_, fun b hb => ?_⟩,
    ⟨hs.frm.os, hs.frm.tape, hs.frm.output, hs.frm.size, hs.frm.block, fun π v => hs.frm.vp _ (hvp π v).1, fun b hb => .inl (hs.frm.im0 b hb), fun b hb => ?_, hs.frm.root, fun q hq => ?_, ?_⟩, fun i π hπ => ?_, fun q o eo π hπ => ?_⟩
  · rw [getT_frz]
    exact frzV_tr (g := g) (g' := ⟨g.β, g.C, fun b => g.Im b ∨ ∃ π, VP s.h π ∧ π.root = r ∧ g.β π = b⟩) rfl rfl hsub hf (hs.tmp i)
  · rw [nthO_mapH, hget] at eo
    by_cases er : q = r
    · rw [if_pos er] at eo
      simp only [Option.map_some, mapO, Option.some.injEq] at eo
      subst eo
      trivial
    · rw [if_neg er] at eo
      cases ho : nthO s.h q with
      | none => rw [ho] at eo; cases eo
      | some o0 =>
        rw [ho] at eo
        simp only [Option.map_some, Option.some.injEq] at eo
        subst eo
        exact (hs.hok.ob q o0 ho).mapped (fun cs vs h => frzL_tr (g := g) (g' := ⟨g.β, g.C, fun b => g.Im b ∨ ∃ π, VP s.h π ∧ π.root = r ∧ g.β π = b⟩) rfl rfl hsub hf h) frzL_length rfl rfl hsub
  · rintro (h1 | ⟨π', v', er, eb⟩)
    · exact hs.hok.dis _ (hvp π v).1 h1
    · have := hs.hok.inj _ _ v' (hvp π v).1 eb
      exact (hvp π v).2 (this ▸ er)
  · rcases hb with h1 | ⟨π', v', er, rfl⟩
    · exact hs.hok.im b h1
    · exact hs.hok.lt _ v'
  · rcases hb with h1 | ⟨π', v', er, rfl⟩
    · exact hs.frm.im1 b h1
    · exact .inr (hs.frm.vp _ v')
  · rw [nthO_mapH]
    refine fun h => ?_
    have h := mapO_free.1 h
    rw [hget] at h
    split at h
    · cases h
    · exact hs.frm.nofree q hq h
  · rw [mapH_length, setO_eq, List.length_set]
    exact hs.frm.len
  · change π ∈ plsV (getT (frzLL stdE r z0 els s.t) i) at hπ
    rw [getT_frz] at hπ
    exact hok π (hs.refT i π (frzV_pls _ π hπ))
  · change nthO (mapH (frzL stdE r z0 els) (setO s.h r .dead)) q = some o at eo
    rw [nthO_mapH, hget] at eo
    by_cases er : q = r
    · rw [if_pos er] at eo
      simp only [Option.map_some, mapO, Option.some.injEq] at eo
      subst eo
      simp [plsOb] at hπ
    · rw [if_neg er] at eo
      cases ho : nthO s.h q with
      | none => rw [ho] at eo; cases eo
      | some o0 =>
        rw [ho] at eo
        simp only [Option.map_some, Option.some.injEq] at eo
        subst eo
        exact hok π (hs.refH q o0 ho π (plsOb_mapO (fun cs π h => frzL_pls cs π h) hπ))

end Go.Ab
/- Steps that the world does not see: places that get other names, thawing, forgetting at a loop's head. -/
set_option linter.unusedVariables false
set_option linter.unusedSimpArgs false
namespace Go.Ab

theorem nthO_none {α : Type} {h : List α} {r : Nat} (e : h.length ≤ r) : nthO h r = none := by rw [nthO_eq, List.getElem?_eq_none e]
theorem nthO_ext {α : Type} {h h' : List α} (e : ∀ r, nthO h r = nthO h' r) : h = h' := List.ext_getElem? fun r => by rw [← nthO_eq, ← nthO_eq]; exact e r
theorem getT_blank (t : List (List TV)) (i : Nat) : getT (blankT t) i = .un := by
  have hb : ∀ (l : List TV) (j : Nat), (blankL l).getD j .un = .un := by
    intro l
    induction l with
    | nil => intro j; simp [blankL]
    | cons a l ih => intro j; cases j with
      | zero => simp [blankL]
      | succ j => simpa only [blankL, List.getD_cons_succ] using ih j
  have ht : ∀ (t : List (List TV)) (j : Nat), (blankT t).getD j [] = blankL (t.getD j []) := by
    intro t
    induction t with
    | nil => intro j; simp [blankT, blankL]
    | cons a l ih => intro j; cases j with
      | zero => simp [blankT]
      | succ j => simpa only [blankT, List.getD_cons_succ] using ih j
  unfold getT
  rw [ht, hb]
theorem getT_keep (t : List (List TV)) (l : List Nat) : ∀ (acc : List (List TV)) (i : Nat), getT (keepT t l acc) i = getT t i ∨ getT (keepT t l acc) i = getT acc i := by
  induction l with
  | nil => intro acc i; exact .inr rfl
  | cons a l ih =>
    intro acc i
    simp only [keepT]
    rcases ih (setT acc a (getT t a)) i with h | h
    · exact .inl h
    · rcases getT_setT acc a i (getT t a) with ⟨h1, rfl⟩ | ⟨h1, _⟩
      · exact .inl (h.trans h1)
      · exact .inr (h.trans h1)

/-- The same world with other names for places. -/
theorem Sim.re {Γ : Ctx} {s : AS} {tm : Array Value} {w : World} {g g' : G} (hs : Sim Γ s tm w g) {t' : List (List TV)} {h' : List Ob} (back : Place → Place)
    (ht : ∀ i, TR w g' (getT t' i) (tm.getD i undef)) (him : g'.Im = g.Im) (hob : ∀ r o, nthO h' r = some o → ObR w g' r o)
    (hvp : ∀ π, VP h' π → VP s.h (back π) ∧ g'.β π = g.β (back π)) (hinj : ∀ π π', VP h' π → VP h' π' → back π = back π' → π = π')
    (hroot : ∀ r, r < Γ.h0.length → g'.β ⟨r, []⟩ = g.β ⟨r, []⟩ ∧ g'.C ⟨r, []⟩ = g.C ⟨r, []⟩) (hfree : ∀ r, r < Γ.h0.length → nthO h' r ≠ some .free)
    (hlen : Γ.h0.length ≤ h'.length) (hrt : ∀ i, RefV h' (getT t' i)) (hrh : RefH h') : Sim Γ ⟨t', h'⟩ tm w g' := by
  refine ⟨ht, hs.n, ⟨hob, fun π π' v v' e => ?_, fun π v => ?_, fun π v => ?_, fun b hb => hs.hok.im b (by rw [← him]; exact hb)⟩,
    ⟨hs.frm.os, hs.frm.tape, hs.frm.output, hs.frm.size, hs.frm.block, fun π v => ?_, fun b hb => ?_, fun b hb => hs.frm.im1 b (by rw [← him]; exact hb), fun r hr => ?_, hfree, hlen⟩, hrt, hrh⟩
  · refine hinj _ _ v v' (hs.hok.inj _ _ (hvp π v).1 (hvp π' v').1 ?_)
    rw [← (hvp π v).2, ← (hvp π' v').2]; exact e
  · rw [(hvp π v).2]; exact hs.hok.lt _ (hvp π v).1
  · rw [(hvp π v).2, him]; exact hs.hok.dis _ (hvp π v).1
  · rw [(hvp π v).2]; exact hs.frm.vp _ (hvp π v).1
  · rw [him]; exact hs.frm.im0 b hb
  · obtain ⟨h1, h2⟩ := hroot r hr
    obtain ⟨h3, h4⟩ := hs.frm.root r hr
    exact ⟨h1.trans h3, h2.trans h4⟩

/-! ### renaming -/
theorem renL_length (f : Nat → Nat) (l : List TV) : (renL f l).length = l.length := by
  induction l with
  | nil => simp [renL]
  | cons a l ih => simp [renL, ih]
theorem renL_getD (f : Nat → Nat) (l : List TV) (i : Nat) : (renL f l).getD i .un = renV f (l.getD i .un) := by
  induction l generalizing i with
  | nil => simp [renL, renV]
  | cons a l ih => cases i with
    | zero => simp [renL]
    | succ i => simpa only [renL, List.getD_cons_succ] using ih i
theorem getT_ren (f : Nat → Nat) (t : List (List TV)) (i : Nat) : getT (t.map (renL f)) i = renV f (getT t i) := by
  unfold getT
  have : (t.map (renL f)).getD (i / 16) [] = renL f (t.getD (i / 16) []) := by
    simp only [List.getD_eq_getElem?_getD, List.getElem?_map]
    cases t[i / 16]? <;> simp [renL]
  rw [this, renL_getD]
theorem renO_map (f : Nat → Nat) (o : Ob) : renO f o = mapO (renL f) o := by cases o <;> rfl
def Place.ren (f : Nat → Nat) (π : Place) : Place := ⟨f π.root, π.path⟩
mutual
theorem renV_pls (f : Nat → Nat) (v : TV) : plsV (renV f v) = (plsV v).map (Place.ren f) := by
  cases v with
  | ptr pl z i j => simp [renV, plsV, Place.ren]
  | sl nn pl z o l => simp [renV, plsV, Place.ren]
  | map r => simp [renV, plsV, Place.ren]
  | agg cs => simp only [renV, plsV]; exact renL_pls f cs
  | tup cs => simp only [renV, plsV]; exact renL_pls f cs
  | fn g cs => simp only [renV, plsV]; exact renL_pls f cs
  | ifv t v => simp only [renV, plsV]; exact renV_pls f v
  | un => simp [renV, plsV]
  | p c => simp [renV, plsV]
  | cptr => simp [renV, plsV]
theorem renL_pls (f : Nat → Nat) (l : List TV) : plsL (renL f l) = (plsL l).map (Place.ren f) := by
  cases l with
  | nil => simp [renL, plsL]
  | cons a l => simp only [renL, plsL, List.map_append]; rw [renV_pls f a, renL_pls f l]
end
mutual
theorem renV_tr {w w' : World} {g g' : G} {f : Nat → Nat} {v : TV} {x : Value} (h : TR w g v x) (hw : ∀ b, g.Im b → w'.heap[b]? = w.heap[b]?) (hi : ∀ b, g.Im b → g'.Im b)
    (hg : ∀ π ∈ plsV v, g'.β (π.ren f) = g.β π ∧ g'.C (π.ren f) = g.C π) : TR w' g' (renV f v) x := by
  cases h with
  | un x => exact .un x
  | p c x h => exact .p c x (h.mono hw hi)
  | agg cs vs h => exact .agg _ vs (renL_tr h hw hi (by simpa [plsV] using hg))
  | ptr pl z i j =>
    have := (hg pl (by simp [plsV])).1
    rw [← this]
    exact .ptr _ z i j
  | cptr cs j b o vs hI hc hr =>
    refine .cptr cs j b o vs (fun h => hi _ (hI h)) (fun k c h => ?_) (fun k c h => (hr k c h).mono hw hi)
    have hne : cs ≠ [] := by rintro rfl; simp at h
    have := hc k c h
    simp only [World.cell?] at this ⊢
    rw [hw _ (hI hne)]
    exact this
  | sl0 pl z => exact .sl0 _ z
  | sl1 pl z off len cap hl hm hc hN =>
    obtain ⟨h1, h2⟩ := hg pl (by simp [plsV])
    rw [← h1]
    exact .sl1 _ z off len cap hl hm (by rw [show (⟨f pl.root, pl.path⟩ : Place) = pl.ren f from rfl, h2]; exact hc) (by rw [show (⟨f pl.root, pl.path⟩ : Place) = pl.ren f from rfl, h2]; exact hN)
  | fn k cs vs h => exact .fn k _ vs (renL_tr h hw hi (by simpa [plsV] using hg))
  | tup cs vs h => exact .tup _ vs (renL_tr h hw hi (by simpa [plsV] using hg))
  | map id =>
    have := (hg ⟨id, []⟩ (by simp [plsV])).1
    rw [← this]
    exact .map _
  | ifv t v x h => exact .ifv t _ x (renV_tr h hw hi (by simpa [plsV] using hg))
theorem renL_tr {w w' : World} {g g' : G} {f : Nat → Nat} {cs : List TV} {vs : List Value} (h : TRL w g cs vs) (hw : ∀ b, g.Im b → w'.heap[b]? = w.heap[b]?) (hi : ∀ b, g.Im b → g'.Im b)
    (hg : ∀ π ∈ plsL cs, g'.β (π.ren f) = g.β π ∧ g'.C (π.ren f) = g.C π) : TRL w' g' (renL f cs) vs := by
  cases h with
  | nil => exact .nil
  | cons v x cs vs h hs => exact .cons _ x _ vs (renV_tr h hw hi fun π hp => hg π (by simp [plsL, hp])) (renL_tr hs hw hi fun π hp => hg π (by simp [plsL, hp]))
end

/-- Places within an object. -/
def Ob.has (o : Ob) (p : List (Nat × Nat)) : Prop :=
  match o with
  | .row nn _ els => (rowAt nn els p).isSome
  | .free => False
  | _ => p = []
def Ob.hasB (o : Ob) (p : List (Nat × Nat)) : Prop :=
  match o with
  | .row nn _ els => ∃ e, rowAt nn els p = some (true, e)
  | .box _ => p = []
  | .lit _ _ => p = []
  | _ => False
theorem VP_has {h : List Ob} {π : Place} : VP h π ↔ ∃ o, nthO h π.root = some o ∧ o.hasB π.path := by
  unfold VP
  cases nthO h π.root with
  | none => simp
  | some o => cases o <;> simp [Ob.hasB]
theorem hasB_mapO {f : List TV → List TV} {o : Ob} {p : List (Nat × Nat)} : (mapO f o).hasB p ↔ o.hasB p := by cases o <;> rfl
theorem hasB_has {o : Ob} {p : List (Nat × Nat)} (h : o.hasB p) : o.has p := by
  cases o with
  | row nn z els => obtain ⟨e, he⟩ := h; simp [Ob.has, he]
  | free => exact h.elim
  | dead => exact h.elim
  | box cs => exact h
  | lit z els => exact h

/-- An object elsewhere, in another world, its references renamed. -/
theorem ObR.ren {w w' : World} {g g' : G} {r r' : Nat} {o : Ob} {f : Nat → Nat} (h : ObR w g r o) (hw : ∀ b, g.Im b → w'.heap[b]? = w.heap[b]?) (hi : ∀ b, g.Im b → g'.Im b)
    (hblk : ∀ p, o.hasB p → w'.heap[g.β ⟨r, p⟩]? = w.heap[g.β ⟨r, p⟩]?) (hβ : ∀ p, o.hasB p → g'.β ⟨r', p⟩ = g.β ⟨r, p⟩) (hC : ∀ p, o.has p → g'.C ⟨r', p⟩ = g.C ⟨r, p⟩)
    (href : ∀ π ∈ plsOb o, g'.β (π.ren f) = g.β π ∧ g'.C (π.ren f) = g.C π) : ObR w' g' r' (renO f o) := by
  cases o with
  | box cs =>
    obtain ⟨cur, t, fr, h1, h2, vs, h3, h4⟩ := h
    exact ⟨cur, t, fr, by rw [hβ [] rfl, hblk [] rfl]; exact h1, h2, vs, renL_tr h3 hw hi href, h4⟩
  | lit z els =>
    obtain ⟨cur, t, fr, h1, h2, h3, h4, h5, h6, h7, h8⟩ := h
    have e := hC [] rfl
    refine ⟨cur, t, fr, by rw [hβ [] rfl, hblk [] rfl]; exact h1, h2, by rw [e]; exact h3, by rw [e]; simpa using h4, by rw [e]; simpa using h5, h6, fun e he => ?_, fun i e he => ?_⟩
    · obtain ⟨e0, he0, rfl⟩ := List.mem_map.1 he
      rw [renL_length]; exact h7 e0 he0
    · simp only [List.getElem?_map, Option.map_eq_some_iff] at he
      obtain ⟨e0, he0, rfl⟩ := he
      obtain ⟨vs, h9, h10⟩ := h8 i e0 he0
      exact ⟨vs, renL_tr h9 hw hi fun π hp => href π (plsLL_mem.2 ⟨e0, List.mem_of_getElem? he0, hp⟩), h10⟩
  | row nn z els =>
    have h' : RowR w g ⟨r, []⟩ nn z els := h
    exact h'.move ⟨hw, hi, fun p e hp => by simpa [Place.app] using hblk p ⟨e, hp⟩, fun p e hp => by simpa [Place.app] using hβ p ⟨e, hp⟩, fun p nb e hp => by simpa [Place.app] using hC p (by simp [Ob.has, hp])⟩
  | dead => trivial
  | free => trivial

theorem Sim.app_dead {Γ : Ctx} {s : AS} {tm : Array Value} {w : World} {g : G} (hs : Sim Γ s tm w g) : Sim Γ ⟨s.t, s.h ++ [.dead]⟩ tm w g := by
  have hget : ∀ q, nthO (s.h ++ [.dead]) q = if q = s.h.length then some .dead else nthO s.h q := nthO_append _ _
  have hvp : ∀ π, VP (s.h ++ [.dead]) π → VP s.h π := by
    intro π v
    have h0 := hget π.root
    by_cases er : π.root = s.h.length
    · rw [if_pos er] at h0
      unfold VP at v
      rw [h0] at v
      exact v.elim
    · rw [if_neg er] at h0
      exact (VP_congr h0).1 v
  have hok : ∀ π, OkP s.h π → OkP (s.h ++ [.dead]) π := by
    intro π v
    have h0 := hget π.root
    have := OkP_lt v
    rw [if_neg (by omega)] at h0
    exact (OkP_congr h0).2 v
  refine hs.re (fun π => π) hs.tmp rfl (fun r o e => ?_) (fun π v => ⟨hvp π v, rfl⟩) (fun _ _ _ _ e => e) (fun _ _ => ⟨rfl, rfl⟩) (fun r hr => ?_) (by have := hs.frm.len; simp; omega) (fun i π hπ => hok π (hs.refT i π hπ)) (fun r o e π hπ => ?_)
  · rw [hget] at e
    split at e
    · cases e; trivial
    · exact hs.hok.ob r o e
  · rw [hget]
    split
    · simp
    · exact hs.frm.nofree r hr
  · rw [hget] at e
    split at e
    · cases e; simp [plsOb] at hπ
    · exact hok π (hs.refH r o e π hπ)

/-- A nil slice gets a place. -/
theorem Sim.newNil {Γ : Ctx} {s : AS} {tm : Array Value} {w : World} {g : G} (hs : Sim Γ s tm w g) (z : Nat) :
    Sim Γ ⟨s.t, s.h ++ [.row false z []]⟩ tm w (g.new s.h.length 0 (0, 0)) ∧ ∀ i, TR w (g.new s.h.length 0 (0, 0)) (getT s.t i) (tm.getD i undef) := by
  have hget : ∀ q, nthO (s.h ++ [.row false z []]) q = if q = s.h.length then some (.row false z []) else nthO s.h q := nthO_append _ _
  have hvp : ∀ π, VP (s.h ++ [.row false z []]) π → VP s.h π ∧ π.root ≠ s.h.length := by
    intro π v
    have h0 := hget π.root
    by_cases er : π.root = s.h.length
    · rw [if_pos er] at h0
      unfold VP at v
      rw [h0] at v
      obtain ⟨e, he⟩ := v
      cases hp : π.path with
      | nil => rw [hp] at he; simp [rowAt] at he
      | cons ij p => rw [hp] at he; obtain ⟨i, j⟩ := ij; simp [rowAt] at he
    · rw [if_neg er] at h0
      exact ⟨(VP_congr h0).1 v, er⟩
  have hok : ∀ π, OkP s.h π → OkP (s.h ++ [.row false z []]) π ∧ (g.new s.h.length 0 (0, 0)).β π = g.β π ∧ (g.new s.h.length 0 (0, 0)).C π = g.C π := by
    intro π v
    have h0 := hget π.root
    have := OkP_lt v
    rw [if_neg (by omega)] at h0
    exact ⟨(OkP_congr h0).2 v, by simp only [G.new]; rw [if_neg (by omega)], by simp only [G.new]; rw [if_neg (by omega)]⟩
  have htr : ∀ i, TR w (g.new s.h.length 0 (0, 0)) (getT s.t i) (tm.getD i undef) := fun i => (hs.tmp i).mono (fun _ _ => rfl) (fun _ h => h) fun π hπ => (hok π (hs.refT i π hπ)).2
  refine ⟨hs.re (fun π => π) htr rfl (fun r o e => ?_) (fun π v => ⟨(hvp π v).1, (hok π (VP_ok (hvp π v).1)).2.1⟩) (fun _ _ _ _ e => e) (fun r hr => ?_) (fun r hr => ?_) (by have := hs.frm.len; simp; omega)
    (fun i π hπ => (hok π (hs.refT i π hπ)).1) (fun r o e π hπ => ?_), htr⟩
  · rw [hget] at e
    split at e
    · rename_i er
      cases e
      exact .nil _ _ (by simp [G.new, er])
    · refine (hs.hok.ob r o e).keep (fun _ _ => rfl) (fun _ h => h) (fun k1 k2 k3 => ⟨rfl, (hok _ (VP_ok (VP_root e k1 k2 k3))).2⟩) (fun nn z els p e' e2 hp => ⟨rfl, ?_⟩) (fun nn z els p nb e' e2 hp => ?_) (fun π hπ => (hok π (hs.refH r o e π hπ)).2)
      · subst e2
        exact (hok _ (VP_ok (VP_row e hp))).2.1
      · subst e2
        exact (hok _ (OkP_row e hp)).2.2
  · have := hs.frm.len
    exact ⟨by simp only [G.new]; rw [if_neg (by show r ≠ s.h.length; omega)], by simp only [G.new]; rw [if_neg (by show r ≠ s.h.length; omega)]⟩
  · rw [hget]
    split
    · simp
    · exact hs.frm.nofree r hr
  · rw [hget] at e
    split at e
    · cases e; simp [plsOb] at hπ
    · exact (hok π (hs.refH r o e π hπ)).1

theorem thawC_some {n z : Nat} {v v' : TV} (h : thawC n z v = some v') : (∃ z0, v = .p (.isl false z0 [])) ∧ v' = .sl false ⟨n, []⟩ z 0 0 := by
  unfold thawC at h
  split at h
  · rename_i z0
    simp only [Option.some.injEq] at h
    exact ⟨⟨z0, rfl⟩, h.symm⟩
  · cases h
theorem thawC_tr {w : World} {g : G} {n z : Nat} {v v' : TV} {x : Value} (h : thawC n z v = some v') (hv : TR w g v x) (g' : G) : TR w g' v' x := by
  obtain ⟨⟨z0, rfl⟩, rfl⟩ := thawC_some h
  cases hv with
  | p _ _ h => cases h; exact .sl0 _ _
theorem thawL_tr {w : World} {g g' : G} {n z : Nat} : ∀ {cs cs' : List TV} {vs : List Value} {j : Nat}, thawL n z j cs = some cs' → TRL w g cs vs → TRL w g' cs vs → TRL w g' cs' vs
  | [], _, _, _, h, _, _ => by simp [thawL] at h
  | v :: l, cs', _, 0, h, hv, hv' => by
    simp only [thawL] at h
    split at h
    · rename_i v' hc
      simp only [Option.some.injEq] at h
      subst h
      cases hv with
      | cons _ x _ vs h1 h2 =>
        cases hv' with
        | cons _ _ _ _ h3 h4 => exact .cons _ _ _ _ (thawC_tr hc h1 g') h4
    · cases h
  | v :: l, cs', _, j + 1, h, hv, hv' => by
    simp only [thawL] at h
    split at h
    · rename_i l' hc
      simp only [Option.some.injEq] at h
      subst h
      cases hv with
      | cons _ x _ vs h1 h2 =>
        cases hv' with
        | cons _ _ _ _ h3 h4 => exact .cons _ _ _ _ h3 (thawL_tr hc h2 h4)
    · cases h
theorem thawL_pls {n z : Nat} : ∀ {cs cs' : List TV} {j : Nat}, thawL n z j cs = some cs' → ∀ π ∈ plsL cs', π ∈ plsL cs ∨ π = ⟨n, []⟩
  | [], _, _, h => by simp [thawL] at h
  | v :: l, cs', 0, h => by
    simp only [thawL] at h
    split at h
    · rename_i v' hc
      simp only [Option.some.injEq] at h
      subst h
      obtain ⟨_, rfl⟩ := thawC_some hc
      intro π hπ
      simp only [plsL, plsV, List.mem_append, List.mem_singleton] at hπ ⊢
      rcases hπ with h | h
      · exact .inr h
      · exact .inl (.inr h)
    · cases h
  | v :: l, cs', j + 1, h => by
    simp only [thawL] at h
    split at h
    · rename_i l' hc
      simp only [Option.some.injEq] at h
      subst h
      intro π hπ
      simp only [plsL, List.mem_append] at hπ ⊢
      rcases hπ with h | h
      · exact .inl (.inl h)
      · exact (thawL_pls hc π h).imp .inr id
    · cases h

theorem Sim.thaw {Γ : Ctx} {s : AS} {tm : Array Value} {w : World} {g : G} (hs : Sim Γ s tm w g) {i z : Nat} {v : TV} (h : thawC s.h.length z (getT s.t i) = some v) :
    Sim Γ ⟨setT s.t i v, s.h ++ [.row false z []]⟩ tm w (g.new s.h.length 0 (0, 0)) := by
  obtain ⟨h1, h2⟩ := hs.newNil z
  have hokn : OkP (s.h ++ [.row false z []]) ⟨s.h.length, []⟩ := OkP_root (o := .row false z []) (by rw [nthO_append, if_pos rfl]) (by simp)
  refine ⟨fun j => ?_, h1.n, h1.hok, h1.frm, fun j => ?_, h1.refH⟩
  · rcases getT_setT s.t i j v with ⟨e, rfl⟩ | ⟨e, _⟩
    · rw [e]; exact thawC_tr h (hs.tmp i) _
    · rw [e]; exact h2 j
  · show RefV _ (getT (setT s.t i v) j)
    rcases getT_setT s.t i j v with ⟨e, rfl⟩ | ⟨e, _⟩
    · rw [e]
      obtain ⟨_, rfl⟩ := thawC_some h
      intro π hπ
      simp only [plsV, List.mem_singleton] at hπ
      subst hπ
      exact hokn
    · rw [e]; exact h1.refT j

theorem Sim.thawB {Γ : Ctx} {s : AS} {tm : Array Value} {w : World} {g : G} (hs : Sim Γ s tm w g) {r j z : Nat} {cs cs' : List TV} (hr : nthO s.h r = some (.box cs)) (h : thawL s.h.length z j cs = some cs') :
    Sim Γ ⟨s.t, setO s.h r (.box cs') ++ [.row false z []]⟩ tm w (g.new s.h.length 0 (0, 0)) := by
  obtain ⟨h1, h2⟩ := hs.newNil z
  have hl := nthO_lt hr
  have hget : ∀ q, nthO (setO s.h r (.box cs') ++ [.row false z []]) q = if q = r then some (.box cs') else nthO (s.h ++ [.row false z []]) q := by
    intro q
    rw [nthO_append, nthO_append, nthO_setO, setO_eq, List.length_set]
    by_cases e1 : q = s.h.length
    · rw [if_pos e1, if_pos e1, if_neg (by omega)]
    · rw [if_neg e1, if_neg e1]
      by_cases e : q = r
      · rw [if_pos ⟨e, hl⟩, if_pos e]
      · rw [if_neg (fun h => e h.1), if_neg e]
  have hr' : nthO (s.h ++ [.row false z []]) r = some (.box cs) := by rw [nthO_append, if_neg (by omega), hr]
  have hvp : ∀ π, VP (setO s.h r (.box cs') ++ [.row false z []]) π ↔ VP (s.h ++ [.row false z []]) π := by
    intro π
    have h0 := hget π.root
    by_cases e : π.root = r
    · rw [if_pos e] at h0
      unfold VP
      rw [h0, e, hr']
    · rw [if_neg e] at h0
      exact VP_congr h0
  have hok : ∀ π, OkP (setO s.h r (.box cs') ++ [.row false z []]) π ↔ OkP (s.h ++ [.row false z []]) π := by
    intro π
    have h0 := hget π.root
    by_cases e : π.root = r
    · rw [if_pos e] at h0
      unfold OkP
      rw [h0, e, hr']
    · rw [if_neg e] at h0
      exact OkP_congr h0
  have hokn : OkP (s.h ++ [.row false z []]) ⟨s.h.length, []⟩ := OkP_root (o := .row false z []) (by rw [nthO_append, if_pos rfl]) (by simp)
  refine h1.re (fun π => π) h2 rfl (fun q o e => ?_) (fun π v => ⟨(hvp π).1 v, rfl⟩) (fun _ _ _ _ e => e) (fun _ _ => ⟨rfl, rfl⟩) (fun q hq => ?_) (by have := hs.frm.len; simp [setO_eq]; omega)
    (fun i π hπ => (hok π).2 (h1.refT i π hπ)) (fun q o e π hπ => ?_)
  · rw [hget] at e
    split at e
    · rename_i eq
      cases e
      subst eq
      obtain ⟨cur, t, fr, b1, b2, vs, b3, b4⟩ := hs.hok.ob _ _ hr
      obtain ⟨cur', t', fr', c1, c2, vs', c3, c4⟩ := h1.hok.ob _ _ hr'
      have hne : (g.new s.h.length 0 (0, 0)).β ⟨q, []⟩ = g.β ⟨q, []⟩ := by simp only [G.new]; rw [if_neg (by show q ≠ s.h.length; omega)]
      have hm : TRL w (g.new s.h.length 0 (0, 0)) cs vs := b3.mono (fun _ _ => rfl) (fun _ h => h) fun π hπ => by
        have := OkP_lt (hs.refH _ _ hr π hπ)
        exact ⟨by simp only [G.new]; rw [if_neg (by omega)], by simp only [G.new]; rw [if_neg (by omega)]⟩
      exact ⟨cur, t, fr, by rw [hne]; exact b1, b2, vs, thawL_tr h b3 hm, b4⟩
    · exact h1.hok.ob q o e
  · rw [hget]
    split
    · simp
    · exact h1.frm.nofree q hq
  · rw [hok]
    rw [hget] at e
    split at e
    · cases e
      rcases thawL_pls h π hπ with h3 | rfl
      · exact h1.refH _ _ hr' π h3
      · exact hokn
    · exact h1.refH q o e π hπ

/-- An object at another place. -/
theorem Sim.mov {Γ : Ctx} {s : AS} {tm : Array Value} {w : World} {g : G} (hs : Sim Γ s tm w g) {a b : Nat} {o : Ob} (ha : nthO s.h a = some o) (hb : nthO s.h b = some .dead) (hnb : Γ.h0.length ≤ b) (hab : a ≠ b)
    (hkt : ∀ i, ∀ π ∈ plsV (getT s.t i), π.root ≠ b) (hkh : ∀ r o, nthO s.h r = some o → ∀ π ∈ plsOb o, π.root ≠ b) :
    Sim Γ ⟨s.t.map (renL (movF a b)), mapH (renL (movF a b)) (setO (setO s.h b o) a .dead)⟩ tm w
      ⟨fun π => if π.root = b then g.β ⟨a, π.path⟩ else g.β π, fun π => if π.root = b then g.C ⟨a, π.path⟩ else g.C π, g.Im⟩ := by
  generalize hf : movF a b = f
  generalize hg : (⟨fun π => if π.root = b then g.β ⟨a, π.path⟩ else g.β π, fun π => if π.root = b then g.C ⟨a, π.path⟩ else g.C π, g.Im⟩ : G) = g'
  have hfa : ∀ r, f r = if r = a then b else r := by
    intro r
    subst hf
    unfold movF
    split
    · rename_i h; rw [if_pos (Nat.eq_of_beq_eq_true h)]
    · rename_i h; rw [if_neg (Nat.ne_of_beq_eq_false h)]
  have hla := nthO_lt ha
  have hlb := nthO_lt hb
  have hget : ∀ q, nthO (setO (setO s.h b o) a .dead) q = if q = a then some .dead else if q = b then some o else nthO s.h q := by
    intro q
    rw [nthO_setO, nthO_setO]
    have : (setO s.h b o).length = s.h.length := by simp [setO_eq]
    by_cases e : q = a
    · rw [if_pos ⟨e, by omega⟩, if_pos e]
    · rw [if_neg (fun h => e h.1), if_neg e]
      by_cases e2 : q = b
      · rw [if_pos ⟨e2, hlb⟩, if_pos e2]
      · rw [if_neg (fun h => e2 h.1), if_neg e2]
  have hren : ∀ π : Place, π.root ≠ b → g'.β (π.ren f) = g.β π ∧ g'.C (π.ren f) = g.C π := by
    intro π hne
    subst hg
    simp only [Place.ren, hfa]
    by_cases e : π.root = a
    · rw [if_pos e, if_pos rfl, if_pos rfl]
      have : (⟨a, π.path⟩ : Place) = π := by cases π; simp_all
      rw [this]
      exact ⟨rfl, rfl⟩
    · rw [if_neg e, if_neg hne, if_neg hne]
      exact ⟨rfl, rfl⟩
  have him : g'.Im = g.Im := by subst hg; rfl
  have hgb : ∀ p, g'.β ⟨b, p⟩ = g.β ⟨a, p⟩ ∧ g'.C ⟨b, p⟩ = g.C ⟨a, p⟩ := by intro p; subst hg; simp
  have hgo : ∀ π : Place, π.root ≠ b → g'.β π = g.β π ∧ g'.C π = g.C π := by intro π h; subst hg; simp [h]
  have hokr : ∀ π, OkP s.h π → π.root ≠ b → OkP (mapH (renL f) (setO (setO s.h b o) a .dead)) (π.ren f) := by
    intro π v hne
    refine OkP_mapH.2 ?_
    have h0 := hget (f π.root)
    rw [hfa] at h0
    by_cases e : π.root = a
    · rw [if_pos e, if_neg (fun h => hab h.symm), if_pos rfl, ← ha] at h0
      have hra : nthO s.h π.root = nthO s.h a := by rw [e]
      unfold OkP at v ⊢
      simp only [Place.ren, hfa]
      rw [hra] at v
      rw [if_pos e, h0]
      exact v
    · rw [if_neg e, if_neg e, if_neg hne] at h0
      unfold OkP at v ⊢
      simp only [Place.ren, hfa]
      rw [if_neg e, h0]
      exact v
  have hvp : ∀ π, VP (mapH (renL f) (setO (setO s.h b o) a .dead)) π → π.root ≠ a ∧ (π.root = b ∧ VP s.h ⟨a, π.path⟩ ∨ π.root ≠ b ∧ VP s.h π) := by
    intro π v
    have v := VP_mapH.1 v
    have h0 := hget π.root
    by_cases e : π.root = a
    · rw [if_pos e] at h0
      unfold VP at v
      rw [h0] at v
      exact v.elim
    · rw [if_neg e] at h0
      refine ⟨e, ?_⟩
      by_cases e2 : π.root = b
      · rw [if_pos e2] at h0
        refine .inl ⟨e2, ?_⟩
        unfold VP at v ⊢
        rw [h0] at v
        simp only
        rw [ha]
        exact v
      · rw [if_neg e2] at h0
        exact .inr ⟨e2, (VP_congr h0).1 v⟩
  refine hs.re (fun π => if π.root = b then ⟨a, π.path⟩ else π) (fun i => ?_) him (fun r o' e => ?_) (fun π v => ?_) (fun π π' v v' e => ?_) (fun r hr => ?_) (fun r hr => ?_) ?_ (fun i => ?_) (fun r o' e π hπ => ?_)
  · rw [getT_ren]
    exact renV_tr (hs.tmp i) (fun _ _ => rfl) (by rw [him]; exact fun _ h => h) fun π hπ => hren π (hkt i π hπ)
  · rw [nthO_mapH, hget] at e
    by_cases e1 : r = a
    · rw [if_pos e1] at e
      simp only [Option.map_some, mapO, Option.some.injEq] at e
      subst e
      trivial
    · rw [if_neg e1] at e
      by_cases e2 : r = b
      · rw [if_pos e2] at e
        simp only [Option.map_some, Option.some.injEq] at e
        subst e
        subst e2
        rw [← renO_map]
        exact (hs.hok.ob a o ha).ren (fun _ _ => rfl) (by rw [him]; exact fun _ h => h) (fun _ _ => rfl) (fun p _ => (hgb p).1) (fun p _ => (hgb p).2) fun π hπ => hren π (hkh a o ha π hπ)
      · rw [if_neg e2] at e
        cases ho : nthO s.h r with
        | none => rw [ho] at e; cases e
        | some o0 =>
          rw [ho] at e
          simp only [Option.map_some, Option.some.injEq] at e
          subst e
          rw [← renO_map]
          exact (hs.hok.ob r o0 ho).ren (fun _ _ => rfl) (by rw [him]; exact fun _ h => h) (fun _ _ => rfl) (fun p _ => (hgo ⟨r, p⟩ e2).1) (fun p _ => (hgo ⟨r, p⟩ e2).2) fun π hπ => hren π (hkh r o0 ho π hπ)
  · obtain ⟨h1, h2 | h2⟩ := hvp π v
    · simp only [if_pos h2.1]
      refine ⟨h2.2, ?_⟩
      have := (hgb π.path).1
      rw [← this, ← h2.1]
    · simp only [if_neg h2.1]
      exact ⟨h2.2, (hgo π h2.1).1⟩
  · obtain ⟨h1, h2 | h2⟩ := hvp π v <;> obtain ⟨h3, h4 | h4⟩ := hvp π' v'
    · simp only [if_pos h2.1, if_pos h4.1] at e
      cases π; cases π'; simp_all
    · simp only [if_pos h2.1, if_neg h4.1] at e
      exact absurd (by rw [← e]) h3
    · simp only [if_neg h2.1, if_pos h4.1] at e
      exact absurd (by rw [e]) h1
    · simpa only [if_neg h2.1, if_neg h4.1] using e
  · exact hgo ⟨r, []⟩ (by show r ≠ b; omega)
  · rw [nthO_mapH]
    refine fun h => ?_
    have h := mapO_free.1 h
    rw [hget] at h
    split at h
    · cases h
    · rw [if_neg (by omega)] at h
      exact hs.frm.nofree r hr h
  · rw [mapH_length]
    simpa [setO_eq] using hs.frm.len
  · rw [getT_ren]
    intro π hπ
    rw [renV_pls] at hπ
    obtain ⟨π0, h1, rfl⟩ := List.mem_map.1 hπ
    exact hokr π0 (hs.refT i π0 h1) (hkt i π0 h1)
  · rw [nthO_mapH, hget] at e
    have key : ∀ r0 o0, nthO s.h r0 = some o0 → π ∈ plsOb (mapO (renL f) o0) → OkP (mapH (renL f) (setO (setO s.h b o) a .dead)) π := by
      intro r0 o0 h0 hp
      have : ∃ π0 ∈ plsOb o0, π = π0.ren f := by
        cases o0 with
        | box cs =>
          simp only [mapO, plsOb, renL_pls] at hp
          obtain ⟨π0, h1, h2⟩ := List.mem_map.1 hp
          exact ⟨π0, h1, h2.symm⟩
        | lit z els =>
          simp only [mapO, plsOb] at hp
          obtain ⟨e, he, h1⟩ := plsLL_mem.1 hp
          obtain ⟨e0, he0, rfl⟩ := List.mem_map.1 he
          rw [renL_pls] at h1
          obtain ⟨π0, h3, h4⟩ := List.mem_map.1 h1
          exact ⟨π0, plsLL_mem.2 ⟨e0, he0, h3⟩, h4.symm⟩
        | row nn z els => simp [mapO, plsOb] at hp
        | dead => simp [mapO, plsOb] at hp
        | free => simp [mapO, plsOb] at hp
      obtain ⟨π0, h1, rfl⟩ := this
      exact hokr π0 (hs.refH r0 o0 h0 π0 h1) (hkh r0 o0 h0 π0 h1)
    by_cases e1 : r = a
    · rw [if_pos e1] at e
      simp only [Option.map_some, mapO, Option.some.injEq] at e
      subst e
      simp [plsOb] at hπ
    · rw [if_neg e1] at e
      by_cases e2 : r = b
      · rw [if_pos e2] at e
        simp only [Option.map_some, Option.some.injEq] at e
        subst e
        exact key a o ha hπ
      · rw [if_neg e2] at e
        cases ho : nthO s.h r with
        | none => rw [ho] at e; cases e
        | some o0 =>
          rw [ho] at e
          simp only [Option.map_some, Option.some.injEq] at e
          subst e
          exact key r o0 ho hπ

end Go.Ab
/- Calls: what is handed over, and what comes back. -/
set_option linter.unusedVariables false
set_option linter.unusedSimpArgs false
namespace Go.Ab

/-! ### what hangs on no data that stay -/
theorem IR.closed {w w' : World} {Im Im' : Nat → Prop} {c : PV} {x : Value} (h : IR w Im c x) (hc : c.closed) : IR w' Im' c x := by
  induction h with
  | int k n => exact .int k n
  | bool b => exact .bool b
  | str l h => exact .str l h
  | isl0 z => exact .isl0 z
  | isl1 z els a cap vs hs hI hl hm hz hcc hr ih => simp [PV.closed] at hc
  | nilp => exact .nilp
  | nilf => exact .nilf
  | nili => exact .nili
  | nilm => exact .nilm
  | fn f => exact .fn f
  | ifs t c x h ih => exact .ifs t c x (ih (by simpa [PV.closed] using hc))
  | ifa t cs vs h ih =>
    refine .ifa t cs vs fun i c hi => ih i c hi ?_
    have key : ∀ (l : List PV), closedC l → ∀ c ∈ l, c.closed := by
      intro l
      induction l with
      | nil => intro _ c hc; simp at hc
      | cons a l ihl =>
        intro h c hc
        simp only [closedC] at h
        rcases List.mem_cons.1 hc with rfl | hc
        · exact h.1
        · exact ihl h.2 c hc
    exact key cs (by simpa [PV.closed] using hc) c (List.mem_of_getElem? hi)
  | any x h => simp [PV.closed] at hc
theorem closedC_mem : ∀ {l : List PV}, closedC l → ∀ c ∈ l, c.closed
  | [], _, c, hc => by simp at hc
  | a :: l, h, c, hc => by
    simp only [closedC] at h
    rcases List.mem_cons.1 hc with rfl | hc
    · exact h.1
    · exact closedC_mem h.2 c hc
theorem closedEs_at {l : List (List PV)} (h : closedEs l) {i j : Nat} {c : PV} (e : at2 l i j = some c) : c.closed := by
  have key : ∀ (l : List (List PV)), closedEs l → ∀ e ∈ l, closedC e := by
    intro l
    induction l with
    | nil => intro _ c hc; simp at hc
    | cons a l ihl =>
      intro h c hc
      simp only [closedEs] at h
      rcases List.mem_cons.1 hc with rfl | hc
      · exact h.1
      · exact ihl h.2 c hc
  unfold at2 at e
  cases hi : l[i]? with
  | none => rw [hi] at e; simp at e
  | some r =>
    rw [hi] at e
    exact closedC_mem (key l h r (List.mem_of_getElem? hi)) c (List.mem_of_getElem? (by simpa using e))

theorem RowR.closed {w : World} {g g' : G} {π : Place} {nn : Bool} {z : Nat} {els : List (List PV)} (h : RowR w g π nn z els) (hβ : g'.β = g.β) (hC : g'.C = g.C) (hc : closedEs els) : RowR w g' π nn z els := by
  refine RowR.rec (w := w) (g := g) (motive_1 := fun π c x _ => c.closed → PR w g' π c x) (motive_2 := fun π nn z els _ => closedEs els → RowR w g' π nn z els) ?_ ?_ ?_ ?_ ?_ h hc
  · intro π c x h hc
    exact .im _ c x (h.closed hc)
  · intro π z hC0 _
    exact .own0 _ _ (by rw [hC]; exact hC0)
  · intro π z els cap h hl hm hc ih hcl
    rw [← hβ]
    exact .own1 π z els cap (ih (by simpa [PV.closed] using hcl)) hl hm (by rw [hC]; exact hc)
  · intro π z hC0 _
    exact .nil _ _ (by rw [hC]; exact hC0)
  · intro π z els cur t fr vs hb hC0 hf hz hn hN hp hc hr ih hcl
    exact .mk π z els cur t fr vs (by rw [hβ]; exact hb) (by rw [hC]; exact hC0) hf hz (by rw [hC]; exact hn) (by rw [hC]; exact hN) hp hc fun i j c h => ih i j c h (closedEs_at hcl h)
mutual
theorem TR.closed {w : World} {g g' : G} {v : TV} {x : Value} (h : TR w g v x) (hβ : g'.β = g.β) (hC : g'.C = g.C) (hc : v.closed) : TR w g' v x := by
  cases h with
  | un x => exact .un x
  | p c x h => exact .p c x (h.closed (by simpa [TV.closed] using hc))
  | agg cs vs h => exact .agg cs vs (TRL.closed h hβ hC (by simpa [TV.closed] using hc))
  | ptr pl z i j => rw [← hβ]; exact .ptr pl z i j
  | cptr cs j b o vs hI hcc hr => simp [TV.closed] at hc
  | sl0 pl z => exact .sl0 pl z
  | sl1 pl z off len cap hl hm hcap hN => rw [← hβ]; exact .sl1 pl z off len cap hl hm (by rw [hC]; exact hcap) (by rw [hC]; exact hN)
  | fn f cs vs h => exact .fn f cs vs (TRL.closed h hβ hC (by simpa [TV.closed] using hc))
  | tup cs vs h => exact .tup cs vs (TRL.closed h hβ hC (by simpa [TV.closed] using hc))
  | map id => rw [← hβ]; exact .map id
  | ifv t v x h => exact .ifv t v x (TR.closed h hβ hC (by simpa [TV.closed] using hc))
theorem TRL.closed {w : World} {g g' : G} {cs : List TV} {vs : List Value} (h : TRL w g cs vs) (hβ : g'.β = g.β) (hC : g'.C = g.C) (hc : closedL cs) : TRL w g' cs vs := by
  cases h with
  | nil => exact .nil
  | cons v x cs vs h hs =>
    simp only [closedL] at hc
    exact .cons v x cs vs (TR.closed h hβ hC hc.1) (TRL.closed hs hβ hC hc.2)
end
theorem ObR.closed {w : World} {g g' : G} {r : Nat} {o : Ob} (h : ObR w g r o) (hβ : g'.β = g.β) (hC : g'.C = g.C) (hc : o.closed) : ObR w g' r o := by
  cases o with
  | box cs =>
    obtain ⟨cur, t, fr, h1, h2, vs, h3, h4⟩ := h
    exact ⟨cur, t, fr, by rw [hβ]; exact h1, h2, vs, h3.closed hβ hC hc, h4⟩
  | lit z els =>
    obtain ⟨cur, t, fr, h1, h2, h3, h4, h5, h6, h7, h8⟩ := h
    refine ⟨cur, t, fr, by rw [hβ]; exact h1, h2, by rw [hC]; exact h3, by rw [hC]; exact h4, by rw [hC]; exact h5, h6, h7, fun i e he => ?_⟩
    obtain ⟨vs, h9, h10⟩ := h8 i e he
    exact ⟨vs, h9.closed hβ hC (hc e (List.mem_of_getElem? he)), h10⟩
  | row nn z els =>
    have h' : RowR w g ⟨r, []⟩ nn z els := h
    exact h'.closed hβ hC hc
  | dead => trivial
  | free => trivial

/-! ### names -/
theorem disj_eq {a b : List Nat} : disj a b = true ↔ ∀ x ∈ a, x ∉ b := by
  induction a with
  | nil => simp [disj]
  | cons x l ih =>
    simp only [disj]
    cases h : memN x b with
    | true => simp [(memN_eq x b).1 h]
    | false =>
      have : x ∉ b := fun hx => by rw [(memN_eq x b).2 hx] at h; cases h
      simp [ih, this]
theorem subN_eq {a b : List Nat} : subN a b = true ↔ ∀ x ∈ a, x ∈ b := by
  induction a with
  | nil => simp [subN]
  | cons x l ih =>
    simp only [subN]
    cases h : memN x b with
    | true => simp [ih, (memN_eq x b).1 h]
    | false =>
      have : x ∉ b := fun hx => by rw [(memN_eq x b).2 hx] at h; cases h
      simp [this]
theorem isSm_eq {o : Option Ob} : isSm o = true ↔ o ≠ none := by cases o <;> simp [isSm]
theorem clsd_eq {h : List Ob} {ids l : List Nat} : clsd h ids l = true ↔ ∀ i ∈ l, nthO h i ≠ none ∧ ∀ x ∈ idsO (nthO h i), x ∈ ids := by
  induction l with
  | nil => simp [clsd]
  | cons x l ih =>
    simp only [clsd]
    cases hn : isSm (nthO h x) with
    | false => simp only [Bool.false_eq_true, List.mem_cons, forall_eq_or_imp, false_iff]; intro h; rw [isSm_eq.2 h.1.1] at hn; cases hn
    | true =>
      cases hs : subN (idsO (nthO h x)) ids with
      | true => simp only [ih, List.mem_cons, forall_eq_or_imp]; exact ⟨fun h => ⟨⟨isSm_eq.1 hn, subN_eq.1 hs⟩, h⟩, fun h => h.2⟩
      | false => simp only [Bool.false_eq_true, List.mem_cons, forall_eq_or_imp, false_iff]; intro h; rw [subN_eq.2 h.1.2] at hs; cases hs
theorem okIds_eq {h : List Ob} {nr ln : List Nat} {vs : List TV} {ids : List Nat} (e : okIds h nr ln vs ids = true) :
    (∀ x ∈ ids, x ∉ ln) ∧ (∀ x ∈ ids, x ∉ nr) ∧ (∀ x ∈ idsL vs, x ∈ ids) ∧ ∀ i ∈ ids, nthO h i ≠ none ∧ ∀ x ∈ idsO (nthO h i), x ∈ ids := by
  unfold okIds at e
  split at e
  · rename_i h1 h2 h3
    exact ⟨disj_eq.1 h1, disj_eq.1 h2, subN_eq.1 h3, clsd_eq.1 e⟩
  · cases e
mutual
theorem idsV_pls (v : TV) : idsV v = (plsV v).map (·.root) := by
  cases v with
  | ptr pl z i j => simp [idsV, plsV]
  | sl nn pl z o l => simp [idsV, plsV]
  | map r => simp [idsV, plsV]
  | agg cs => simp only [idsV, plsV]; exact idsL_pls cs
  | tup cs => simp only [idsV, plsV]; exact idsL_pls cs
  | fn g cs => simp only [idsV, plsV]; exact idsL_pls cs
  | ifv t v => simp only [idsV, plsV]; exact idsV_pls v
  | un => simp [idsV, plsV]
  | p c => simp [idsV, plsV]
  | cptr => simp [idsV, plsV]
theorem idsL_pls (l : List TV) : idsL l = (plsL l).map (·.root) := by
  cases l with
  | nil => simp [idsL, plsL]
  | cons a l => simp only [idsL, plsL, List.map_append]; rw [idsV_pls a, idsL_pls l]
end
theorem idsLL_pls (l : List (List TV)) : idsLL l = (plsLL l).map (·.root) := by
  induction l with
  | nil => simp [idsLL, plsLL]
  | cons a l ih => simp only [idsLL, plsLL, List.map_append, ih, idsL_pls]
theorem idsO_pls (o : Ob) : idsO (some o) = (plsOb o).map (·.root) := by
  cases o <;> simp [idsO, plsOb, idsL_pls, idsLL_pls]
mutual
theorem nestV_mem {v : TV} {π : Place} (h : π ∈ plsV v) (hp : π.path ≠ []) : π.root ∈ nestV v := by
  cases v with
  | ptr pl z i j =>
    simp only [plsV, List.mem_singleton] at h
    subst h
    obtain ⟨r, p⟩ := π
    cases p with
    | nil => exact absurd rfl hp
    | cons a b => simp [nestV, nestP]
  | sl nn pl z o l =>
    simp only [plsV, List.mem_singleton] at h
    subst h
    obtain ⟨r, p⟩ := π
    cases p with
    | nil => exact absurd rfl hp
    | cons a b => simp [nestV, nestP]
  | map r =>
    simp only [plsV, List.mem_singleton] at h
    subst h
    exact absurd rfl hp
  | agg cs => simp only [nestV, plsV] at h ⊢; exact nestL_mem h hp
  | tup cs => simp only [nestV, plsV] at h ⊢; exact nestL_mem h hp
  | fn g cs => simp only [nestV, plsV] at h ⊢; exact nestL_mem h hp
  | ifv t v => simp only [nestV, plsV] at h ⊢; exact nestV_mem h hp
  | un => simp [plsV] at h
  | p c => simp [plsV] at h
  | cptr => simp [plsV] at h
theorem nestL_mem {l : List TV} {π : Place} (h : π ∈ plsL l) (hp : π.path ≠ []) : π.root ∈ nestL l := by
  cases l with
  | nil => simp [plsL] at h
  | cons a l =>
    simp only [plsL, nestL, List.mem_append] at h ⊢
    exact h.imp (fun h => nestV_mem h hp) (fun h => nestL_mem h hp)
end
theorem nestLL_mem {l : List (List TV)} {π : Place} (h : π ∈ plsLL l) (hp : π.path ≠ []) : π.root ∈ nestLL l := by
  induction l with
  | nil => simp [plsLL] at h
  | cons a l ih =>
    simp only [plsLL, nestLL, List.mem_append] at h ⊢
    exact h.imp (fun h => nestL_mem h hp) ih
theorem nestH_mem : ∀ {h : List Ob} {r : Nat} {o : Ob} {π : Place}, nthO h r = some o → π ∈ plsOb o → π.path ≠ [] → π.root ∈ nestH h
  | [], r, o, π, e, _, _ => by simp [nthO] at e
  | a :: l, 0, o, π, e, h, hp => by
    simp only [nthO, Option.some.injEq] at e
    subst e
    cases a with
    | box cs => simp only [nestH, List.mem_append]; exact .inl (nestL_mem h hp)
    | lit z els => simp only [nestH, List.mem_append]; exact .inl (nestLL_mem h hp)
    | row nn z els => simp [plsOb] at h
    | dead => simp [plsOb] at h
    | free => simp [plsOb] at h
  | a :: l, r + 1, o, π, e, h, hp => by
    have := nestH_mem (h := l) e h hp
    cases a <;> simp only [nestH, List.mem_append] <;> first | exact .inr this | exact this
theorem getT_mem {t : List (List TV)} {i : Nat} {π : Place} (h : π ∈ plsV (getT t i)) (hp : π.path ≠ []) : π.root ∈ nestLL t := by
  unfold getT at h
  have h1 : getT t i = (t.getD (i / 16) []).getD (i % 16) .un := rfl
  cases e : t[i / 16]? with
  | none => simp [e, plsV] at h
  | some row =>
    simp only [List.getD_eq_getElem?_getD, e, Option.getD_some] at h
    cases e2 : row[i % 16]? with
    | none => rw [e2] at h; simp [plsV] at h
    | some v =>
      rw [e2] at h
      exact nestLL_mem (plsLL_mem.2 ⟨row, List.mem_of_getElem? e, plsL_mem.2 ⟨v, List.mem_of_getElem? e2, h⟩⟩) hp

theorem idx_lt {l : List Nat} {n : Nat} : idx l n < l.length ↔ n ∈ l := by
  induction l with
  | nil => simp [idx]
  | cons a l ih =>
    simp only [idx]
    cases h : Nat.beq n a with
    | true => simp [Nat.eq_of_beq_eq_true h]
    | false =>
      have : n ≠ a := Nat.ne_of_beq_eq_false h
      simp [this, ih]
theorem idx_get {l : List Nat} {n : Nat} (h : n ∈ l) : l[idx l n]? = some n := by
  induction l with
  | nil => simp at h
  | cons a l ih =>
    simp only [idx]
    cases e : Nat.beq n a with
    | true => simp [Nat.eq_of_beq_eq_true e]
    | false =>
      have : n ≠ a := Nat.ne_of_beq_eq_false e
      simp only [List.mem_cons, this, false_or] at h
      simpa using ih h
theorem idx_of {l : List Nat} (hn : l.Nodup) {k n : Nat} (h : l[k]? = some n) : idx l n = k := by
  have h1 := idx_get (List.mem_of_getElem? h)
  have hk := (List.getElem?_eq_some_iff.1 h).1
  have hk2 := (List.getElem?_eq_some_iff.1 h1).1
  exact ((List.getElem?_inj hk2 hn).1 (h1.trans h.symm))
theorem nth0_eq (l : List Nat) (base n : Nat) : nth0 l base n = match l[n]? with | some i => i | none => base + (n - l.length) := by
  induction l generalizing n with
  | nil => simp [nth0]
  | cons a l ih =>
    cases n with
    | zero => simp [nth0]
    | succ n => simp [nth0, ih]
theorem reach_nodup (h : List Ob) : ∀ (n : Nat) (todo acc : List Nat), acc.Nodup → (reach h n todo acc).Nodup := by
  intro n
  induction n with
  | zero => intro todo acc ha; simpa [reach] using ha
  | succ n ih =>
    intro todo acc ha
    cases todo with
    | nil => simpa [reach] using ha
    | cons i todo =>
      simp only [reach]
      cases e : memN i acc with
      | true => exact ih _ _ ha
      | false =>
        refine ih _ _ (List.nodup_append.2 ⟨ha, by simp, ?_⟩)
        intro a h1 b h2
        simp only [List.mem_singleton] at h2
        subst h2
        rintro rfl
        rw [(memN_eq _ _).2 h1] at e
        cases e
theorem reach_mem (h : List Ob) : ∀ (n : Nat) (todo acc : List Nat) (x : Nat), x ∈ reach h n todo acc → x ∈ acc ∨ x ∈ todo ∨ ∃ i, x ∈ idsO (nthO h i) := by
  intro n
  induction n with
  | zero => intro todo acc x hx; exact .inl (by simpa [reach] using hx)
  | succ n ih =>
    intro todo acc x hx
    cases todo with
    | nil => exact .inl (by simpa [reach] using hx)
    | cons i todo =>
      simp only [reach] at hx
      split at hx
      · rcases ih _ _ _ hx with h | h | h
        · exact .inl h
        · exact .inr (.inl (List.mem_cons_of_mem _ h))
        · exact .inr (.inr h)
      · rcases ih _ _ _ hx with h | h | h
        · rcases List.mem_append.1 h with h | h
          · exact .inl h
          · exact .inr (.inl (by simp at h; simp [h]))
        · rcases List.mem_append.1 h with h | h
          · exact .inr (.inr ⟨i, h⟩)
          · exact .inr (.inl (List.mem_cons_of_mem _ h))
        · exact .inr (.inr h)

/-! ### lent rows -/
theorem frzLL_tr {w : World} {g g' : G} {r z0 : Nat} {els : List (List PV)} (hβ : g'.β = g.β) (hC : g'.C = g.C) (hsub : ∀ b, g.Im b → g'.Im b) (hf : FrzOk w g g'.Im r z0 els) {cs : List TV} {vs : List Value} (h : TRL w g cs vs) :
    TRL w g' (frzL stdE r z0 els cs) vs := frzL_tr hβ hC hsub hf h
theorem FrzOk.mono {w : World} {g g' : G} {Im Im' : Nat → Prop} {r z0 : Nat} {els : List (List PV)} (h : FrzOk w g Im r z0 els) (hβ : g'.β = g.β) (hC : g'.C = g.C) (hsub : ∀ b, Im b → Im' b) : FrzOk w g' Im' r z0 els := by
  obtain ⟨h1, h2, h3, vs, h4⟩ := h
  refine ⟨by rw [hC]; exact h1, h2, fun h => by rw [hβ]; exact hsub _ (h3 h), vs, fun i j c hc => ?_⟩
  obtain ⟨a, b⟩ := h4 i j c hc
  exact ⟨by rw [hβ]; exact a, b.mono (fun _ _ => rfl) hsub⟩
/-- The ghost in which rows are lent. -/
def G.lend (g : G) (h : List Ob) (ln : List Nat) : G := ⟨g.β, g.C, fun b => g.Im b ∨ ∃ π, VP h π ∧ π.root ∈ ln ∧ g.β π = b⟩
theorem lend_tr {w : World} {g : G} {h : List Ob} (hk : HOK w g h) {L : List Nat} : ∀ (ln : List Nat) (vs : List TV) (xs : List Value), (∀ r ∈ ln, r ∈ L) → TRL w (g.lend h L) vs xs → TRL w (g.lend h L) (lend stdE h ln vs) xs
  | [], vs, xs, _, h => h
  | r :: ln, vs, xs, hL, hv => by
    simp only [lend]
    split
    · rename_i z0 els e
      refine lend_tr hk ln _ _ (fun x hx => hL x (List.mem_cons_of_mem _ hx)) ?_
      have hf : FrzOk w g (g.lend h L).Im r z0 els := frzO_ok hk (fun b hb => .inl hb) (fun π v er => .inr ⟨π, v, by rw [er]; exact hL r (by simp), rfl⟩) e
      exact frzL_tr (g := g.lend h L) (g' := g.lend h L) rfl rfl (fun _ h => h) (hf.mono rfl rfl fun _ h => h) hv
    · exact lend_tr hk ln _ _ (fun x hx => hL x (List.mem_cons_of_mem _ hx)) hv
theorem lend_pls {LE : PE → List (List PV)} {h : List Ob} : ∀ (ln : List Nat) (vs : List TV), ∀ π ∈ plsL (lend LE h ln vs), π ∈ plsL vs
  | [], vs, π, hπ => hπ
  | r :: ln, vs, π, hπ => by
    simp only [lend] at hπ
    split at hπ
    · exact frzL_pls _ π (lend_pls ln _ π hπ)
    · exact lend_pls ln _ π hπ

/-! ### objects that are handed over -/
theorem pickO_get {h : List Ob} {f : Nat → Nat} : ∀ (l : List Nat) (k : Nat), nthO (pickO h f l) k = (l[k]?).map fun i => match nthO h i with | some o => renO f o | none => .dead
  | [], k => by simp [pickO, nthO]
  | a :: l, 0 => by simp [pickO, nthO]; rfl
  | a :: l, k + 1 => by simp only [pickO, nthO, List.getElem?_cons_succ]; exact pickO_get l k
theorem pickO_length {h : List Ob} {f : Nat → Nat} (l : List Nat) : (pickO h f l).length = l.length := by
  induction l with
  | nil => simp [pickO]
  | cons a l ih => simp [pickO, ih]
theorem backO_get {f : Nat → Nat} : ∀ (l : List Nat) (os : List Ob) (h : List Ob), l.length ≤ os.length → l.Nodup → (∀ i ∈ l, i < h.length) → ∀ r,
    nthO (backO f h l os) r = if r ∈ l then (nthO os (idx l r)).map (renO f) else if r < h.length then nthO h r else (nthO os (l.length + (r - h.length))).map (renO f)
  | [], os, h, _, _, _, r => by
    simp only [backO, List.not_mem_nil, if_false]
    split
    · rename_i hr; rw [nthO_eq, List.getElem?_append_left hr, nthO_eq]
    · rename_i hr
      rw [nthO_eq, List.getElem?_append_right (by omega), List.getElem?_map, nthO_eq]
      simp
  | i :: l, [], h, hl, _, _, r => by simp at hl
  | i :: l, o :: os, h, hl, hn, hb, r => by
    simp only [backO]
    have hn' := List.nodup_cons.1 hn
    have hle : (setO h i (renO f o)).length = h.length := by simp [setO_eq]
    rw [backO_get l os _ (by simpa using hl) hn'.2 (fun j hj => by rw [hle]; exact hb j (List.mem_cons_of_mem _ hj)) r]
    by_cases e : r = i
    · subst e
      rw [if_neg hn'.1, if_pos (by rw [hle]; exact hb r (by simp)), if_pos (by simp), nthO_setO, if_pos ⟨rfl, hb r (by simp)⟩]
      simp [idx, nthO]
    · have hbe : Nat.beq r i = false := by
        cases h : Nat.beq r i with
        | true => exact absurd (Nat.eq_of_beq_eq_true h) e
        | false => rfl
      by_cases e2 : r ∈ l
      · rw [if_pos e2, if_pos (by simp [e2])]
        simp [idx, hbe, nthO]
      · rw [if_neg e2, if_neg (c := r ∈ i :: l) (by simp [e, e2]), hle, nthO_setO, if_neg (c := r = i ∧ i < h.length) (fun h => e h.1)]
        split
        · rfl
        · simp only [List.length_cons]
          rw [show l.length + 1 + (r - h.length) = (l.length + (r - h.length)) + 1 by omega]
          simp [nthO]
theorem backO_length {f : Nat → Nat} : ∀ (l : List Nat) (os : List Ob) (h : List Ob), l.length ≤ os.length → (backO f h l os).length = h.length + (os.length - l.length)
  | [], os, h, _ => by simp [backO]
  | i :: l, [], h, hl => by simp at hl
  | i :: l, o :: os, h, hl => by
    simp only [backO]
    rw [backO_length l os _ (by simpa using hl)]
    simp [setO_eq]
end Go.Ab
/- Calls: the state behind them. -/
set_option linter.unusedVariables false
set_option linter.unusedSimpArgs false
namespace Go.Ab

theorem OkP_ren {h h' : List Ob} {r r' : Nat} {o : Ob} {f : Nat → Nat} {p : List (Nat × Nat)} (e : nthO h r = some o) (e' : nthO h' r' = some (renO f o)) (v : OkP h ⟨r, p⟩) : OkP h' ⟨r', p⟩ := by
  unfold OkP at v ⊢
  simp only [e] at v
  simp only [e']
  cases o <;> exact v
theorem VP_ren {h h' : List Ob} {r r' : Nat} {o : Ob} {f : Nat → Nat} {p : List (Nat × Nat)} (e : nthO h r = some o) (e' : nthO h' r' = some (renO f o)) : VP h' ⟨r', p⟩ ↔ VP h ⟨r, p⟩ := by
  unfold VP
  simp only [e, e']
  cases o <;> rfl

/-- The ghost that a callee begins with. -/
def G.hand (g : G) (ids : List Nat) (Im : Nat → Prop) : G := ⟨fun π => g.β ⟨ids.getD π.root 0, π.path⟩, fun π => g.C ⟨ids.getD π.root 0, π.path⟩, Im⟩

section
variable {h : List Ob} {ids : List Nat}

theorem hand_get {f : Nat → Nat} (hlt : ∀ i ∈ ids, i < h.length) {k : Nat} {o : Ob} (e : nthO (pickO h f ids) k = some o) : ∃ i o0, ids[k]? = some i ∧ nthO h i = some o0 ∧ o = renO f o0 := by
  rw [pickO_get] at e
  cases hi : ids[k]? with
  | none => rw [hi] at e; cases e
  | some i =>
    rw [hi] at e
    simp only [Option.map_some, Option.some.injEq] at e
    have hl := hlt i (List.mem_of_getElem? hi)
    have : nthO h i = some h[i] := by rw [nthO_eq]; exact List.getElem?_eq_getElem hl
    rw [this] at e
    exact ⟨i, h[i], rfl, this, e.symm⟩
theorem hand_vp {f : Nat → Nat} (hlt : ∀ i ∈ ids, i < h.length) {π : Place} (v : VP (pickO h f ids) π) : ∃ i, ids[π.root]? = some i ∧ VP h ⟨i, π.path⟩ := by
  obtain ⟨o, e, hb⟩ := VP_has.1 v
  obtain ⟨i, o0, h1, h2, rfl⟩ := hand_get hlt e
  refine ⟨i, h1, ?_⟩
  exact (VP_ren (f := f) h2 e).1 (by cases π; exact v)

theorem hand_hok {w : World} {g : G} (hk : HOK w g h) (hr : RefH h) {Im : Nat → Prop} (hlt : ∀ i ∈ ids, i < h.length) (hnd : ids.Nodup) (hcl : ∀ i ∈ ids, ∀ x ∈ idsO (nthO h i), x ∈ ids)
    (hsub : ∀ b, g.Im b → Im b) (hdis : ∀ π, VP h π → π.root ∈ ids → ¬ Im (g.β π)) (him : ∀ b, Im b → b < w.heap.size) :
    HOK w (g.hand ids Im) (pickO h (idx ids) ids) := by
  have hgd : ∀ {k i : Nat}, ids[k]? = some i → ids.getD k 0 = i := fun e => by simp [List.getD_eq_getElem?_getD, e]
  refine ⟨fun k o e => ?_, fun π π' v v' e => ?_, fun π v => ?_, fun π v => ?_, him⟩
  · obtain ⟨i, o0, h1, h2, rfl⟩ := hand_get hlt e
    refine (hk.ob i o0 h2).ren (fun _ _ => rfl) hsub (fun _ _ => rfl) (fun p _ => ?_) (fun p _ => ?_) fun π hπ => ?_
    · simp only [G.hand, hgd h1]
    · simp only [G.hand, hgd h1]
    · have hm : π.root ∈ ids := hcl i (List.mem_of_getElem? h1) _ (by rw [h2, idsO_pls]; exact List.mem_map.2 ⟨π, hπ, rfl⟩)
      simp only [G.hand, Place.ren, hgd (idx_get hm)]
      exact ⟨trivial, trivial⟩
  · obtain ⟨i, h1, v1⟩ := hand_vp hlt v
    obtain ⟨i', h2, v2⟩ := hand_vp hlt v'
    simp only [G.hand, hgd h1, hgd h2] at e
    have := hk.inj _ _ v1 v2 e
    simp only [Place.mk.injEq] at this
    have hr := (List.getElem?_inj (List.getElem?_eq_some_iff.1 h1).1 hnd).1 (h1.trans (by rw [this.1, h2]))
    cases π; cases π'
    simp_all
  · obtain ⟨i, h1, v1⟩ := hand_vp hlt v
    simp only [G.hand, hgd h1]
    exact hk.lt _ v1
  · obtain ⟨i, h1, v1⟩ := hand_vp hlt v
    simp only [G.hand, hgd h1]
    exact hdis _ v1 (List.mem_of_getElem? h1)
end

/-- The ghost behind a call. -/
def G.back2 (g g1 : G) (ids : List Nat) (N : Nat) (Im : Nat → Prop) : G :=
  ⟨fun π => if π.root ∈ ids then g1.β ⟨idx ids π.root, π.path⟩ else if π.root < N then g.β π else g1.β ⟨ids.length + (π.root - N), π.path⟩,
   fun π => if π.root ∈ ids then g1.C ⟨idx ids π.root, π.path⟩ else if π.root < N then g.C π else g1.C ⟨ids.length + (π.root - N), π.path⟩, Im⟩

theorem call_back {Γ : Ctx} {s : AS} {tm : Array Value} {w w' : World} {g g1 : G} (hs : Sim Γ s tm w g) {ids ln : List Nat} {objs : List Ob} {v : TV} {x : Value}
    (hlt : ∀ i ∈ ids, i < s.h.length) (hnd : ids.Nodup) (hnr : ∀ i ∈ ids, i ∉ s.nr)
    (hv : TR w' g1 v x) (hk : HOK w' g1 objs) (hf : Frm ⟨w, g.hand ids (g.lend s.h ln).Im, pickO s.h (idx ids) ids, 0⟩ w' g1 objs) (hrv : RefV objs v) (hrh : RefH objs)
    (hln : ∀ i ∈ ids, i ∉ ln) (hc : ln = [] ∨ (v.closed ∧ ∀ o ∈ objs, o.closed)) :
    ∃ g2, SimV Γ tm (renV (nth0 ids s.h.length) v) ⟨s.t, backO (nth0 ids s.h.length) s.h ids objs⟩ x w' g2 := by
  have hf_len : ids.length ≤ objs.length := by have := hf.len; simp only [pickO_length] at this; exact this
  have hgd : ∀ {k i : Nat}, ids[k]? = some i → ids.getD k 0 = i := fun e => by simp [List.getD_eq_getElem?_getD, e]
  generalize hfw : nth0 ids s.h.length = f
  have hfin : ∀ {k i : Nat}, ids[k]? = some i → f k = i := fun e => by rw [← hfw, nth0_eq, e]
  have hfout : ∀ {k : Nat}, ids.length ≤ k → f k = s.h.length + (k - ids.length) := fun e => by rw [← hfw, nth0_eq, List.getElem?_eq_none e]
  have hget := backO_get (f := f) ids objs s.h hf_len hnd hlt
  have hlen := backO_length (f := f) ids objs s.h hf_len
  generalize backO f s.h ids objs = h2 at hget hlen
  -- the ghost
  obtain ⟨Im2, hIm2⟩ : ∃ Im2 : Nat → Prop, (ln = [] ∧ Im2 = g1.Im) ∨ (¬ ln = [] ∧ Im2 = g.Im) := by
    by_cases e : ln = []
    · exact ⟨g1.Im, .inl ⟨e, rfl⟩⟩
    · exact ⟨g.Im, .inr ⟨e, rfl⟩⟩
  have hlendIm : ∀ b, g.Im b → (g.lend s.h ln).Im b := fun b hb => .inl hb
  have hgIm2 : ∀ b, g.Im b → Im2 b := by
    rcases hIm2 with ⟨_, rfl⟩ | ⟨_, rfl⟩
    · exact fun b hb => hf.im0 b (hlendIm b hb)
    · exact fun b hb => hb
  generalize hg2 : g.back2 g1 ids s.h.length Im2 = g2
  have hImE : g2.Im = Im2 := by subst hg2; rfl
  have hb_in : ∀ {k i : Nat} (p : List (Nat × Nat)), ids[k]? = some i → g2.β ⟨i, p⟩ = g1.β ⟨k, p⟩ ∧ g2.C ⟨i, p⟩ = g1.C ⟨k, p⟩ := by
    intro k i p e
    subst hg2
    simp only [G.back2, if_pos (List.mem_of_getElem? e), idx_of hnd e]
    exact ⟨trivial, trivial⟩
  have hb_old : ∀ (π : Place), π.root ∉ ids → π.root < s.h.length → g2.β π = g.β π ∧ g2.C π = g.C π := by
    intro π e e2
    subst hg2
    simp only [G.back2, if_neg e, if_pos e2]
    exact ⟨trivial, trivial⟩
  have hb_new : ∀ {k : Nat} (p : List (Nat × Nat)), ids.length ≤ k → g2.β ⟨s.h.length + (k - ids.length), p⟩ = g1.β ⟨k, p⟩ ∧ g2.C ⟨s.h.length + (k - ids.length), p⟩ = g1.C ⟨k, p⟩ := by
    intro k p e
    subst hg2
    have h1 : ¬ s.h.length + (k - ids.length) ∈ ids := fun h => by have := hlt _ h; omega
    have h2 : ¬ s.h.length + (k - ids.length) < s.h.length := by omega
    simp only [G.back2, if_neg h1, if_neg h2]
    rw [show ids.length + (s.h.length + (k - ids.length) - s.h.length) = k by omega]
    exact ⟨rfl, rfl⟩
  have hfb : ∀ (k : Nat) (p : List (Nat × Nat)), g2.β ⟨f k, p⟩ = g1.β ⟨k, p⟩ ∧ g2.C ⟨f k, p⟩ = g1.C ⟨k, p⟩ := by
    intro k p
    by_cases e : k < ids.length
    · have e := List.getElem?_eq_getElem e
      rw [hfin e]
      exact hb_in p e
    · rw [hfout (by omega)]
      exact hb_new p (by omega)
  have hfobj : ∀ (k : Nat) (o : Ob), nthO objs k = some o → nthO h2 (f k) = some (renO f o) := by
    intro k o e
    rw [hget]
    by_cases e1 : k < ids.length
    · have e2 := List.getElem?_eq_getElem e1
      rw [hfin e2, if_pos (List.mem_of_getElem? e2), idx_of hnd e2, e]
      rfl
    · rw [hfout (by omega), if_neg (fun h => by have := hlt _ h; omega), if_neg (by omega), show ids.length + (s.h.length + (k - ids.length) - s.h.length) = k by omega, e]
      rfl
  have hold : ∀ r, r ∉ ids → r < s.h.length → nthO h2 r = nthO s.h r := fun r h1 h3 => by rw [hget, if_neg h1, if_pos h3]
  -- a root's own place
  have hroot : ∀ i ∈ ids, g2.β ⟨i, []⟩ = g.β ⟨i, []⟩ ∧ g2.C ⟨i, []⟩ = g.C ⟨i, []⟩ := by
    intro i hi
    have e := idx_get hi
    obtain ⟨h1, h3⟩ := hb_in [] e
    obtain ⟨h4, h5⟩ := hf.root (idx ids i) (by simp only [pickO_length]; exact idx_lt.2 hi)
    simp only [G.hand, hgd e] at h4 h5
    exact ⟨h1.trans h4, h3.trans h5⟩
  -- what the callee may turn
  have hFP : ∀ b, (⟨w, g.hand ids (g.lend s.h ln).Im, pickO s.h (idx ids) ids, 0⟩ : Ctx).FP b → ∃ π, VP s.h π ∧ π.root ∈ ids ∧ g.β π = b := by
    rintro b ⟨π, v, rfl⟩
    obtain ⟨i, h1, v1⟩ := hand_vp hlt v
    exact ⟨⟨i, π.path⟩, v1, List.mem_of_getElem? h1, by simp only [G.hand, hgd h1]⟩
  have hIm : ∀ b, g.Im b → w'.heap[b]? = w.heap[b]? := fun b hb => hf.block b (hs.hok.im b hb) fun hfp => by
    obtain ⟨π, v, _, e⟩ := hFP b hfp
    exact hs.hok.dis π v (e ▸ hb)
  have hblk : ∀ π, VP s.h π → π.root ∉ ids → w'.heap[g.β π]? = w.heap[g.β π]? := fun π v hn => hf.block _ (hs.hok.lt π v) fun hfp => by
    obtain ⟨π', v', hm, e⟩ := hFP _ hfp
    exact hn (hs.hok.inj _ _ v' v e ▸ hm)
  -- references
  have hrefs : ∀ π, OkP s.h π → (π.path ≠ [] → π.root ∈ s.nr) → OkP h2 π ∧ g2.β π = g.β π ∧ g2.C π = g.C π := by
    intro π v hp
    by_cases e : π.root ∈ ids
    · have hnil : π.path = [] := Classical.byContradiction fun h => hnr _ e (hp h)
      obtain ⟨r, p⟩ := π
      simp only at hnil e
      subst hnil
      refine ⟨?_, hroot r e⟩
      have h1 := idx_get e
      have h3 : idx ids r < objs.length := by have := idx_lt.2 e; omega
      have h4 : nthO objs (idx ids r) = some objs[idx ids r] := by rw [nthO_eq]; exact List.getElem?_eq_getElem h3
      have h5 := hfobj _ _ h4
      rw [hfin h1] at h5
      refine OkP_root h5 ?_
      have := hf.nofree (idx ids r) (by simp only [pickO_length]; exact idx_lt.2 e)
      intro h6
      rw [h4] at this
      cases ho : objs[idx ids r] <;> rw [ho] at h6 <;> simp [renO] at h6
      rw [ho] at this
      exact this rfl
    · have := OkP_lt v
      exact ⟨(OkP_congr (hold _ e this)).2 v, hb_old π e this⟩
  have hrefT : ∀ i, ∀ π ∈ plsV (getT s.t i), π.path ≠ [] → π.root ∈ s.nr := fun i π hπ hp => List.mem_append.2 (.inl (getT_mem hπ hp))
  have hrefH : ∀ r o, nthO s.h r = some o → ∀ π ∈ plsOb o, π.path ≠ [] → π.root ∈ s.nr := fun r o e π hπ hp => List.mem_append.2 (.inr (nestH_mem e hπ hp))
  -- facts of the callee's in the ghost behind
  have hTR : ∀ (u : TV) (y : Value), TR w' g1 u y → (ln = [] ∨ u.closed) → TR w' g2 (renV f u) y := by
    intro u y hu hcl
    rcases hIm2 with ⟨_, e⟩ | ⟨hne, e⟩
    · exact renV_tr hu (fun _ _ => rfl) (by rw [hImE, e]; exact fun _ h => h) fun π _ => hfb _ _
    · have hcl := hcl.resolve_left hne
      have := hu.closed (g' := ⟨g1.β, g1.C, g2.Im⟩) rfl rfl hcl
      exact renV_tr this (fun _ _ => rfl) (fun _ h => h) fun π _ => hfb _ _
  have hOB : ∀ k o, nthO objs k = some o → ObR w' g2 (f k) (renO f o) := by
    intro k o e
    have h0 := hk.ob k o e
    rcases hIm2 with ⟨_, e2⟩ | ⟨hne, e2⟩
    · exact h0.ren (fun _ _ => rfl) (by rw [hImE, e2]; exact fun _ h => h) (fun _ _ => rfl) (fun p _ => (hfb k p).1) (fun p _ => (hfb k p).2) fun π _ => hfb _ _
    · have hcl := (hc.resolve_left hne).2 o (List.mem_of_getElem? (by rw [← nthO_eq]; exact e))
      have := h0.closed (g' := ⟨g1.β, g1.C, g2.Im⟩) rfl rfl hcl
      exact this.ren (fun _ _ => rfl) (fun _ h => h) (fun _ _ => rfl) (fun p _ => (hfb k p).1) (fun p _ => (hfb k p).2) fun π _ => hfb _ _
  -- an object behind is one of three
  have hcase : ∀ r o, nthO h2 r = some o → (∃ k o0, nthO objs k = some o0 ∧ r = f k ∧ o = renO f o0 ∧ (r ∈ ids ∨ s.h.length ≤ r)) ∨ (r ∉ ids ∧ r < s.h.length ∧ nthO s.h r = some o) := by
    intro r o e
    rw [hget] at e
    split at e
    · rename_i hm
      obtain ⟨o0, h1, h3⟩ := Option.map_eq_some_iff.1 e
      exact .inl ⟨_, o0, h1, (hfin (idx_get hm)).symm, h3.symm, .inl hm⟩
    · split at e
      · rename_i h1 h3
        exact .inr ⟨h1, h3, e⟩
      · rename_i h1 h3
        obtain ⟨o0, h4, h5⟩ := Option.map_eq_some_iff.1 e
        exact .inl ⟨_, o0, h4, by rw [hfout (by omega)]; omega, h5.symm, .inr (by omega)⟩
  have hvcase : ∀ π, VP h2 π → (∃ k, VP objs ⟨k, π.path⟩ ∧ π.root = f k ∧ (π.root ∈ ids ∨ s.h.length ≤ π.root) ∧ g2.β π = g1.β ⟨k, π.path⟩) ∨ (π.root ∉ ids ∧ π.root < s.h.length ∧ VP s.h π ∧ g2.β π = g.β π) := by
    intro π v
    obtain ⟨o, e, hb⟩ := VP_has.1 v
    rcases hcase _ _ e with ⟨k, o0, h1, h3, rfl, h4⟩ | ⟨h1, h3, h4⟩
    · left
      refine ⟨k, ?_, h3, h4, ?_⟩
      · exact (VP_ren (f := f) (r' := π.root) (h' := h2) h1 e).1 (by cases π; exact v)
      · have := (hfb k π.path).1
        rw [← h3] at this
        exact this
    · exact .inr ⟨h1, h3, (VP_congr (e.trans h4.symm)).1 v, (hb_old π h1 h3).1⟩
  have hfinj : ∀ k k', k < objs.length → k' < objs.length → f k = f k' → k = k' := by
    intro k k' _ _ e
    by_cases e1 : k < ids.length <;> by_cases e2 : k' < ids.length
    · have a1 := List.getElem?_eq_getElem e1
      have a2 := List.getElem?_eq_getElem e2
      rw [hfin a1, hfin a2] at e
      exact (List.getElem?_inj e1 hnd).1 (by rw [a1, a2, e])
    · have a1 := List.getElem?_eq_getElem e1
      rw [hfin a1, hfout (by omega)] at e
      have := hlt _ (List.getElem_mem e1)
      omega
    · have a2 := List.getElem?_eq_getElem e2
      rw [hfin a2, hfout (by omega)] at e
      have := hlt _ (List.getElem_mem e2)
      omega
    · rw [hfout (by omega), hfout (by omega)] at e
      omega
  -- the callee's blocks
  have hcb : ∀ k p, VP objs ⟨k, p⟩ → (∃ π, VP s.h π ∧ π.root ∈ ids ∧ g.β π = g1.β ⟨k, p⟩) ∨ w.heap.size ≤ g1.β ⟨k, p⟩ := fun k p v => (hf.vp _ v).imp (hFP _) id
  have hcross : ∀ k p π, VP objs ⟨k, p⟩ → VP s.h π → π.root ∉ ids → g1.β ⟨k, p⟩ ≠ g.β π := by
    intro k p π v v' hn e
    rcases hcb k p v with ⟨π0, v0, hm, e0⟩ | h
    · exact hn (hs.hok.inj _ _ v0 v' (e0.trans e) ▸ hm)
    · have := hs.hok.lt _ v'
      omega
  have hg1Im : ∀ b, g1.Im b → g.Im b ∨ (∃ π, VP s.h π ∧ π.root ∈ ln ∧ g.β π = b) ∨ (∃ π, VP s.h π ∧ π.root ∈ ids ∧ g.β π = b) ∨ w.heap.size ≤ b := by
    intro b hb
    rcases hf.im1 b hb with h | h | h
    · rcases h with h | h
      · exact .inl h
      · exact .inr (.inl h)
    · exact .inr (.inr (.inl (hFP b h)))
    · exact .inr (.inr (.inr h))
  have hIm2case : ∀ b, Im2 b → g.Im b ∨ (∃ π, VP s.h π ∧ π.root ∈ ids ∧ g.β π = b) ∨ w.heap.size ≤ b := by
    intro b hb
    rcases hIm2 with ⟨e, rfl⟩ | ⟨_, rfl⟩
    · rcases hg1Im b hb with h | ⟨π, _, hm, _⟩ | h | h
      · exact .inl h
      · rw [e] at hm; simp at hm
      · exact .inr (.inl h)
      · exact .inr (.inr h)
    · exact .inl hb
  refine ⟨g2, ⟨fun i => ?_, hs.n, ⟨fun r o e => ?_, fun π π' v1 v2 e => ?_, fun π v1 => ?_, fun π v1 => ?_, fun b hb => ?_⟩,
    ⟨hf.os.trans hs.frm.os, hf.tape.trans hs.frm.tape, hf.output.trans hs.frm.output, Nat.le_trans hs.frm.size hf.size, fun b hb hn => ?_, fun π v1 => ?_, fun b hb => ?_, fun b hb => ?_, fun r hr => ?_, fun r hr => ?_, ?_⟩,
    fun i π hπ => ?_, fun r o e π hπ => ?_⟩, hTR v x hv (hc.imp id (·.1)), fun π hπ => ?_⟩
  · exact (hs.tmp i).mono hIm (by rw [hImE]; exact hgIm2) fun π hπ => (hrefs π (hs.refT i π hπ) (hrefT i π hπ)).2
  · rcases hcase r o e with ⟨k, o0, h1, h3, rfl, _⟩ | ⟨h1, h3, h4⟩
    · rw [h3]; exact hOB k o0 h1
    · refine (hs.hok.ob r o h4).keep hIm (by rw [hImE]; exact hgIm2) (fun k1 k2 k3 => ?_) (fun nn z els p e' e2 hp => ?_) (fun nn z els p nb e' e2 hp => ?_) (fun π hπ => (hrefs π (hs.refH r o h4 π hπ) (hrefH r o h4 π hπ)).2)
      · have v1 := VP_root h4 k1 k2 k3
        exact ⟨hblk _ v1 h1, hb_old _ h1 h3⟩
      · subst e2
        exact ⟨hblk _ (VP_row h4 hp) h1, (hb_old _ h1 h3).1⟩
      · exact (hb_old _ h1 h3).2
  · rcases hvcase π v1 with ⟨k, a1, a2, _, a3⟩ | ⟨a1, a2, a3, a4⟩ <;> rcases hvcase π' v2 with ⟨k', b1, b2, _, b3⟩ | ⟨b1, b2, b3, b4⟩
    · rw [a3, b3] at e
      have := hk.inj _ _ a1 b1 e
      simp only [Place.mk.injEq] at this
      cases π; cases π'
      simp_all
    · rw [a3, b4] at e
      exact absurd e (hcross k _ _ a1 b3 b1)
    · rw [a4, b3] at e
      exact absurd e.symm (hcross k' _ _ b1 a3 a1)
    · rw [a4, b4] at e
      exact hs.hok.inj _ _ a3 b3 e
  · rcases hvcase π v1 with ⟨k, a1, a2, _, a3⟩ | ⟨a1, a2, a3, a4⟩
    · rw [a3]; exact hk.lt _ a1
    · rw [a4]; exact Nat.lt_of_lt_of_le (hs.hok.lt _ a3) hf.size
  · rw [hImE]
    intro hb
    rcases hvcase π v1 with ⟨k, a1, a2, _, a3⟩ | ⟨a1, a2, a3, a4⟩
    · rw [a3] at hb
      rcases hIm2 with ⟨_, rfl⟩ | ⟨_, rfl⟩
      · exact hk.dis _ a1 hb
      · rcases hcb _ _ a1 with ⟨π0, v0, _, e0⟩ | h
        · exact hs.hok.dis _ v0 (e0 ▸ hb)
        · have := hs.hok.im _ hb
          omega
    · rw [a4] at hb
      rcases hIm2case _ hb with h | ⟨π0, v0, hm, e0⟩ | h
      · exact hs.hok.dis _ a3 h
      · exact a1 (hs.hok.inj _ _ v0 a3 e0 ▸ hm)
      · have := hs.hok.lt _ a3
        omega
  · rw [hImE] at hb
    rcases hIm2 with ⟨_, rfl⟩ | ⟨_, rfl⟩
    · exact hk.im b hb
    · exact Nat.lt_of_lt_of_le (hs.hok.im b hb) hf.size
  · rw [← hs.frm.block b hb hn]
    refine hf.block b (Nat.lt_of_lt_of_le hb hs.frm.size) fun hfp => ?_
    obtain ⟨π, v1, _, rfl⟩ := hFP b hfp
    rcases hs.frm.vp π v1 with h | h
    · exact hn h
    · omega
  · rcases hvcase π v1 with ⟨k, a1, a2, _, a3⟩ | ⟨a1, a2, a3, a4⟩
    · rw [a3]
      rcases hcb _ _ a1 with ⟨π0, v0, _, e0⟩ | h
      · rw [← e0]; exact hs.frm.vp _ v0
      · exact .inr (Nat.le_trans hs.frm.size h)
    · rw [a4]; exact hs.frm.vp _ a3
  · rw [hImE]; exact hgIm2 b (hs.frm.im0 b hb)
  · rw [hImE] at hb
    rcases hIm2case b hb with h | ⟨π0, v0, hm, rfl⟩ | h
    · exact hs.frm.im1 b h
    · exact .inr (hs.frm.vp _ v0)
    · exact .inr (.inr (Nat.le_trans hs.frm.size h))
  · have hl := hs.frm.len
    obtain ⟨h3, h4⟩ := hs.frm.root r hr
    by_cases e : r ∈ ids
    · exact ⟨(hroot r e).1.trans h3, (hroot r e).2.trans h4⟩
    · have := hb_old ⟨r, []⟩ e (by show r < s.h.length; omega)
      exact ⟨this.1.trans h3, this.2.trans h4⟩
  · have hl := hs.frm.len
    intro e
    rcases hcase r _ e with ⟨k, o0, h1, h3, h4, h5⟩ | ⟨h1, h3, h4⟩
    · have hm : r ∈ ids := h5.resolve_right (by omega)
      have hk0 : k = idx ids r := by
        have := hfin (idx_get hm)
        have h6 := nthO_lt h1
        exact hfinj _ _ h6 (by have := idx_lt.2 hm; omega) (by rw [← h3]; exact this.symm)
      have := hf.nofree k (by simp only [pickO_length]; rw [hk0]; exact idx_lt.2 hm)
      rw [h1] at this
      cases o0 <;> simp [renO] at h4
      exact this rfl
    · exact hs.frm.nofree r hr h4
  · show Γ.h0.length ≤ h2.length
    rw [hlen]
    have := hs.frm.len
    omega
  · exact (hrefs π (hs.refT i π hπ) (hrefT i π hπ)).1
  · rcases hcase r o e with ⟨k, o0, h1, h3, rfl, _⟩ | ⟨h1, h3, h4⟩
    · have : ∃ π0 ∈ plsOb o0, π = π0.ren f := by
        cases o0 with
        | box cs =>
          simp only [renO, plsOb, renL_pls] at hπ
          obtain ⟨π0, a1, a2⟩ := List.mem_map.1 hπ
          exact ⟨π0, a1, a2.symm⟩
        | lit z els =>
          simp only [renO, plsOb] at hπ
          obtain ⟨e0, he, a1⟩ := plsLL_mem.1 hπ
          obtain ⟨e1, he1, rfl⟩ := List.mem_map.1 he
          rw [renL_pls] at a1
          obtain ⟨π0, a2, a3⟩ := List.mem_map.1 a1
          exact ⟨π0, plsLL_mem.2 ⟨e1, he1, a2⟩, a3.symm⟩
        | row nn z els => simp [renO, plsOb] at hπ
        | dead => simp [renO, plsOb] at hπ
        | free => simp [renO, plsOb] at hπ
      obtain ⟨π0, h5, rfl⟩ := this
      have hok := hrh k o0 h1 π0 h5
      have hl := OkP_lt hok
      have h6 : nthO objs π0.root = some objs[π0.root] := by rw [nthO_eq]; exact List.getElem?_eq_getElem hl
      exact OkP_ren (r := π0.root) h6 (hfobj _ _ h6) hok
    · exact (hrefs π (hs.refH r o h4 π hπ) (hrefH r o h4 π hπ)).1
  · change π ∈ plsV (renV f v) at hπ
    rw [renV_pls] at hπ
    obtain ⟨π0, h5, rfl⟩ := List.mem_map.1 hπ
    have hok := hrv π0 h5
    have hl := OkP_lt hok
    have h6 : nthO objs π0.root = some objs[π0.root] := by rw [nthO_eq]; exact List.getElem?_eq_getElem hl
    exact OkP_ren (r := π0.root) h6 (hfobj _ _ h6) hok
end Go.Ab
