/- A sound abstract interpreter for the code of the model: part D of five, joined of smaller texts. -/
import Derived.Test.YtjlaccjneaomgaaGreatDoorKC
import Derived.LoopN
import Derived.Defers
import Derived.Orders
set_option linter.all false
set_option linter.unusedVariables false
set_option linter.unusedSimpArgs false
set_option linter.unusedSectionVars false

/- Soundness of code: regions that keep their order, branches, blocks, loops. -/
namespace Go.Fk
open Go.RowKit (Below)

/-- What a run comes to that may enter a function. -/
def CallsTo (P : Program) (R : Value → World → Prop) : Result Next → Prop
  | .ok (.value v) w => R v w
  | .ok (.enter f args) w => Calls P f args w fun
    | .returned v, w' => R v w'
    | _, _ => False
  | .ok (.row row args) w => Rows P row args w R
  | _ => False

/-- What is known of the calls. -/
structure CallOk (P : Program) (B : Nat) (w0 : Base) (call : D → List D → St → Option (D × St)) (pure : D → Bool) : Prop where
  keep : ∀ d a s r s', call d a s = some (r, s') → Keep s s'
  pure : ∀ d a s r s', pure d = true → call d a s = some (r, s') → s' = s
  run : ∀ d args s r s', call d args s = some (r, s') → ∀ g w v vs, Inv g B w0 s w → Rep g d v → RepL g args vs →
    ∃ fid us cs, v = .func (.func fid) us cs ∧ CallsTo P (fun x w' => ∃ g', Ext s.hn g g' ∧ Inv g' B w0 s' w' ∧ Rep g' r x) ((callFunc fid (us ++ vs.toArray ++ cs)).run P w)

section
variable {P : Program} {g : G} {B : Nat} {w0 : Base} {nt : Nat}

/-- What was deferred. -/
inductive Dfs (g : G) : List (D × List D) → List Deferred → Prop
  | nil : Dfs g [] []
  | cons {d : D} {as : List D} {fn : Fn} {us cs : Array Value} {vs : List Value} {ds : List (D × List D)} {es : List Deferred} (h : Rep g d (.func fn us cs)) (k : RepL g as vs) (t : Dfs g ds es) :
      Dfs g ((d, as) :: ds) ({ target := .fn fn cs, args := us ++ vs.toArray } :: es)

theorem Dfs.mono {g g' : G} (h : g.le g') {ds : List (D × List D)} {es : List Deferred} (r : Dfs g ds es) : Dfs g' ds es := by
  induction r with
  | nil => exact .nil
  | cons a b t ih => exact .cons (a.mono h) (b.mono h) ih

structure FrOk (B : Nat) (w0 : Base) (nt : Nat) (g : G) (f : Fr) (a : Act) (w : World) : Prop where
  env : EnvRep g f.env a.tmps
  inv : Inv g B w0 f.st w
  sz : nt ≤ a.tmps.size
  dfs : Dfs g f.defers a.defers

theorem put_ok {f : Fr} {a : Act} {w' : World} {g g' : G} {s' : St} {d : D} {v : Value} {dst : Option Tmp} (hnt : nt ≤ 4294967296) (hd : dstOk nt dst = true) (he : EnvRep g f.env a.tmps) (hz : nt ≤ a.tmps.size) (hdf : Dfs g f.defers a.defers)
    (hx : g.le g') (hi : Inv g' B w0 s' w') (r : Rep g' d v) : FrOk B w0 nt g' { f with env := setD f.env (dst.map pth) d, st := s' } (a.put dst v) w' := by
  refine ⟨(he.mono hx).put (fun t ht => ?_) r, hi, by rw [put_size]; exact hz, by cases dst <;> simpa [Act.put] using hdf.mono hx⟩
  subst ht
  simp only [dstOk, decide_eq_true_eq] at hd
  exact ⟨Nat.lt_of_lt_of_le hd hz, Nat.lt_of_lt_of_le hd hnt⟩

/-- A guard, met or not. -/
theorem wanted_rep {f : Fr} {a : Act} {ops : Array Oper} {o : Oper} {gd : Option (Pth × Bool)} {b : Bool} (he : EnvRep g f.env a.tmps)
    (hg : (match o.guard with
      | none => some none
      | some (j, b) => match (ops[j]?).bind (·.dst) with
        | some t => some (some (pth t, b))
        | none => none) = some gd) (h : wantedD f.env gd = some b) : Region.wanted o (yielded ops a.tmps) = b := by
  split at hg
  · rename_i hn
    cases hg
    simp only [wantedD, Option.some.injEq] at h
    subst h
    simp [Region.wanted, hn]
  · rename_i j want hn
    split at hg
    · rename_i t ht
      cases hg
      have r := he t
      simp only [wantedD] at h
      simp only [Region.wanted, hn, yielded, ht, Option.bind_some]
      split at h
      · rename_i c hc
        cases h
        rw [hc] at r
        have : a.tmps.getD t undef = .bool c := by generalize a.tmps.getD t undef = v at r; cases r; rfl
        have h2 : a.tmps[t]? = some (.bool c) := by
          rw [Array.getD_eq_getD_getElem?] at this
          cases hx : a.tmps[t]? with
          | none => simp [hx, undef] at this
          | some y => simpa [hx] using this
        rw [h2]
        cases want <;> cases c <;> rfl
      · rename_i x hnb hc
        split at h
        · rename_i hun
          cases h
          rw [hc] at r
          have : a.tmps.getD t undef = x := by generalize a.tmps.getD t undef = v at r; cases r; rfl
          cases hx : a.tmps[t]? with
          | none => rfl
          | some y =>
            rw [Array.getD_eq_getD_getElem?, hx] at this
            simp only [Option.getD_some] at this
            subst this
            cases y <;> first | rfl | (simp [isUndef] at hun)
        · cases h
      · cases h
    · cases hg

/-- One operation of a region, wanted or not. -/
theorem step_sound (hnt : nt ≤ 4294967296) {call : D → List D → St → Option (D × St)} {pure : D → Bool} (hc : CallOk P B w0 call pure) {kind : FuncId → Nat} {mt : Nat → Bool} {ops : Array Oper} {i : Nat} {o : Oper} {io : IOper}
    (hop : cOper P nt kind mt ops i o = some io) {f f' : Fr} {a : Act} {w : World} (hf : FrOk B w0 nt g f a w) (h : step1 call pure io f = some f') {K : Act → World → Prop} {Q : Exit → Act → World → Prop}
    (hK : ∀ a' w' g', Ext f.st.hn g g' → FrOk B w0 nt g' f' a' w' → K a' w') :
    if Region.wanted o (yielded ops a.tmps) then o.wp P a w K Q else K (a.put o.dst undef) w := by
  unfold cOper at hop
  split at hop
  · cases hop
  · rename_i op hcop
    dsimp only at hop
    split at hop
    · cases hop
    · rename_i gd hgd
      split at hop
      · rename_i hdst
        cases hop
        unfold step1 at h
        split at h
        · cases h
        · rename_i hw
          have hw' := wanted_rep hf.env hgd hw
          rw [hw', if_neg (by simp)]
          cases h
          exact hK _ _ g (Ext.refl _ _) (put_ok hnt hdst hf.env hf.sz hf.dfs (G.le.refl g) hf.inv (.v _))
        · rename_i hw
          have hw' := wanted_rep hf.env hgd hw
          rw [hw', if_pos rfl]
          simp only at h
          have fin : ∀ {d : D} {s' : St}, DoesN P (execOp a.eval o) g B w0 f.st s' w d → f' = { f with env := setD f.env (o.dst.map pth) d, st := s' } → o.wp P a w K Q := by
            rintro d s' ⟨v, w', g', h1, h2, h3, h4⟩ rfl
            unfold Oper.wp
            rcases h1 with h1 | ⟨h1, rfl⟩
            · rw [h1]; exact hK _ _ g' h2 (put_ok hnt hdst hf.env hf.sz hf.dfs h2.le h3 h4)
            · rw [h1]; exact hK _ _ g' h2 (put_ok hnt hdst hf.env hf.sz hf.dfs h2.le h3 h4)
          -- a call
          have callf : ∀ (fo : Opd) (args : List Opd) (r : D) (s' : St), op = .call fo args → call (fo.ev f.env) (args.map (·.ev f.env)) f.st = some (r, s') → f' = { f with env := setD f.env (o.dst.map pth) r, st := s' } → o.wp P a w K Q := by
            rintro fo args r s' rfl hcall rfl
            obtain ⟨dst, oo, ty, pos, after, guard⟩ := o
            have hshape : ∃ c fv, oo = .call c ∧ c.callee = .value fv ∧ cOpd fv = some fo ∧ cOpds c.args.toList = some args := by
              simp only at hcop
              cases oo with
              | call c =>
                obtain ⟨callee, as, ats⟩ := c
                simp only [cOp, cCall] at hcop
                cases callee with
                | value fv =>
                  simp only at hcop
                  split at hcop
                  · rename_i h1 h2
                    cases hcop
                    exact ⟨_, fv, rfl, rfl, h1, h2⟩
                  · cases hcop
                | invoke r m => cases hcop
                | builtin b =>
                  simp only at hcop
                  (repeat' (split at hcop)) <;> first | (cases hcop; done) | (simp only [Option.map_eq_some_iff] at hcop; obtain ⟨z, _, hz⟩ := hcop; cases hz)
              | _ =>
                simp only [cOp] at hcop
                first
                  | (cases hcop; done)
                  | (simp only [Option.map_eq_some_iff] at hcop; obtain ⟨z, _, hz⟩ := hcop; cases hz; done)
                  | ((repeat' (split at hcop)) <;> first | (cases hcop; done) | (simp only [Option.map_eq_some_iff] at hcop; obtain ⟨z, _, hz⟩ := hcop; cases hz))
            obtain ⟨c, fv, rfl, hcal, hfv, has⟩ := hshape
            obtain ⟨callee, as, ats⟩ := c
            simp only at hcal
            subst hcal
            obtain ⟨fid, us, cs, hv, hrun⟩ := hc.run _ _ _ _ _ hcall g w _ _ hf.inv (cOpd_rep hf.env hfv) (cOpds_rep hf.env has)
            have hex : (execOp a.eval ⟨dst, .call ⟨.value fv, as, ats⟩, ty, pos, after, guard⟩).run P w = (callFunc fid (us ++ (as.toList.map a.eval).toArray ++ cs)).run P w := by
              have : (as.toList.map a.eval).toArray = as.map a.eval := by apply Array.ext'; simp
              rw [this]
              simp [execOp, resolve, hv, Deferred.ofValue, invoke]
            unfold Oper.wp
            rw [hex]
            revert hrun
            generalize (callFunc fid (us ++ (as.toList.map a.eval).toArray ++ cs)).run P w = res
            intro hrun
            have kk : ∀ x w', (∃ g', Ext f.st.hn g g' ∧ Inv g' B w0 s' w' ∧ Rep g' r x) → K (a.put dst x) w' := by
              rintro x w' ⟨g', h1, h2, h3⟩
              exact hK _ _ g' h1 (put_ok hnt hdst hf.env hf.sz hf.dfs h1.le h2 h3)
            unfold CallsTo at hrun
            split at hrun
            · exact kk _ _ hrun
            · refine Calls.mono hrun fun e w' he => ?_
              cases e with
              | returned v => exact kk _ _ he
              | panicked c => exact he.elim
              | outgrown => exact he.elim
            · exact Rows.mono hrun fun v w' he => kk _ _ he
            · exact hrun.elim
          split at h
          · -- quiet
            split at h
            · rename_i d hd
              cases h
              by_cases hcl : ∃ fo args, op = .call fo args
              · obtain ⟨fo, args, rfl⟩ := hcl
                simp only [evQ] at hd
                split at hd
                · rename_i hp
                  simp only [Option.map_eq_some_iff] at hd
                  obtain ⟨⟨r, s'⟩, hcall, rfl⟩ := hd
                  have hs := hc.pure _ _ _ _ _ hp hcall
                  subst hs
                  exact callf fo args r _ rfl hcall rfl
                · cases hd
              · exact fin (evQ_sound hf.inv hf.env hcop (fun fo args e => hcl ⟨fo, args, e⟩) hd) rfl
            · cases h
          · split at h
            · rename_i d s' hd
              cases h
              by_cases hcl : ∃ fo args, op = .call fo args
              · obtain ⟨fo, args, rfl⟩ := hcl
                simp only [evM] at hd
                exact callf fo args d s' rfl hd rfl
              · exact fin (evM_sound hf.inv hf.env hcop (fun fo args e => hcl ⟨fo, args, e⟩) hd) rfl
            · -- deferred
              split at h
              · rename_i dd hdd
                cases h
                unfold deferD at hdd
                split at hdd
                · rename_i fo args _ hmn
                  split at hdd
                  · rename_i fn da dc hfo
                    cases hdd
                    obtain ⟨dst, oo, ty, pos, after, guard⟩ := o
                    have hshape : ∃ c fv, oo = .defer c ∧ c.callee = .value fv ∧ cOpd fv = some fo ∧ cOpds c.args.toList = some args := by
                      simp only at hcop
                      cases oo with
                      | defer c =>
                        simp only [cOp] at hcop
                        split at hcop
                        · rename_i fv hcal
                          split at hcop
                          · rename_i h1 h2
                            cases hcop
                            exact ⟨_, fv, rfl, hcal, h1, h2⟩
                          · cases hcop
                        · cases hcop
                      | call c =>
                        obtain ⟨callee, as, ats⟩ := c
                        simp only [cOp, cCall] at hcop
                        (repeat' (split at hcop)) <;> first | (cases hcop; done) | (simp only [Option.map_eq_some_iff] at hcop; obtain ⟨z, _, hz⟩ := hcop; cases hz)
                      | _ =>
                        simp only [cOp] at hcop
                        first
                          | (cases hcop; done)
                          | (simp only [Option.map_eq_some_iff] at hcop; obtain ⟨z, _, hz⟩ := hcop; cases hz; done)
                          | ((repeat' (split at hcop)) <;> first | (cases hcop; done) | (simp only [Option.map_eq_some_iff] at hcop; obtain ⟨z, _, hz⟩ := hcop; cases hz))
                    obtain ⟨c, fv, rfl, hcal, hfv, has⟩ := hshape
                    obtain ⟨callee, as, ats⟩ := c
                    simp only at hcal
                    subst hcal
                    have rf := cOpd_rep hf.env hfv
                    rw [hfo] at rf
                    have ra := cOpds_rep hf.env has
                    generalize hvv : a.eval fv = vv at rf
                    cases rf with
                    | func us vs hl hx kl ky =>
                      unfold Oper.wp
                      have hex : (execOp a.eval ⟨dst, .defer ⟨.value fv, as, ats⟩, ty, pos, after, guard⟩).run P w = .ok (.defer { target := .fn fn vs.toArray, args := us.toArray ++ (as.toList.map a.eval).toArray }) w := by
                        have : (as.toList.map a.eval).toArray = as.map a.eval := by apply Array.ext'; simp
                        rw [this]
                        simp [execOp, resolve, hvv, Deferred.ofValue]
                      rw [hex, Oper.upon_defer]
                      have hp := put_ok (g' := g) (d := .v undef) (v := undef) (w' := w) (s' := f.st) (f := f) (a := a) hnt hdst hf.env hf.sz hf.dfs (G.le.refl g) hf.inv (.v _)
                      refine hK _ _ g (Ext.refl _ _) ⟨?_, hp.inv, ?_, ?_⟩
                      · have := hp.env
                        cases dst <;> simpa [Act.put] using this
                      · have := hp.sz
                        cases dst <;> simpa [Act.put] using this
                      · have : Dfs g ((D.func fn da dc, args.map (·.ev f.env)) :: f.defers) ({ target := .fn fn vs.toArray, args := us.toArray ++ (as.toList.map a.eval).toArray } :: a.defers) := .cons (.func us vs hl hx kl ky) ra hf.dfs
                        cases dst <;> simpa [Act.put] using this
                  · cases hdd
                · cases hdd
              · cases h
      · cases hop

theorem Ext.then {f f1 : St} {g g' g'' : G} (h : Ext f.hn g g') (k : Ext f1.hn g' g'') (hn : f.hn ≤ f1.hn) : Ext f.hn g g'' := h.trans k hn

/-- A region's operations, in the order of the text. -/
theorem ops_sound (hnt : nt ≤ 4294967296) {call : D → List D → St → Option (D × St)} {pure : D → Bool} (hc : CallOk P B w0 call pure) {kind : FuncId → Nat} {mt : Nat → Bool} {ops : Array Oper} {Q : Exit → Act → World → Prop} :
    ∀ (n i : Nat) (l : List Oper) (ios : List IOper), l = ops.toList.drop i → l.length = n → cOpers P nt kind mt ops i l = some ios → ∀ {g : G} {f f' : Fr} {a : Act} {w : World}, FrOk B w0 nt g f a w → runOps call pure ios f = some f' →
      (∀ a' w' g', Ext f.st.hn g g' → FrOk B w0 nt g' f' a' w' → Q .normal a' w') → wpOps P ops Q (List.range' i n) a w
  | 0, i, [], ios, hl, _, hios, g, f, f', a, w, hf, h, hQ => by
    cases hios
    cases h
    exact hQ a w g (Ext.refl _ _) hf
  | n + 1, i, o :: r, ios, hl, hn, hios, g, f, f', a, w, hf, h, hQ => by
    simp only [cOpers] at hios
    split at hios
    · rename_i io ios' h1 h2
      cases hios
      simp only [runOps] at h
      split at h
      · rename_i f1 hs
        have hoi : ops[i]? = some o := by
          have : (ops.toList.drop i)[0]? = some o := by rw [← hl]; rfl
          rw [List.getElem?_drop] at this
          simpa using this
        have hr : r = ops.toList.drop (i + 1) := by
          have : (ops.toList.drop i).drop 1 = r := by rw [← hl]; rfl
          rw [List.drop_drop] at this
          exact this.symm
        simp only [List.range'_succ, wpOps, hoi]
        have key := step_sound (P := P) (Q := Q) hnt hc h1 hf hs (K := wpOps P ops Q (List.range' (i + 1) n)) (fun a' w' g' he hf' =>
          ops_sound hnt hc n (i + 1) r ios' hr (by simpa using hn) h2 hf' h (fun a'' w'' g'' he' hf'' => hQ a'' w'' g'' (he.trans he' (step1_keep hc.keep hs).hn) hf''))
        split at key
        · rename_i hw; rw [if_pos hw]; exact .inl key
        · rename_i hw; rw [if_neg hw]; exact key
      · cases h
    · cases hios
  | 0, i, _ :: _, _, _, hn, _, _, _, _, _, _, _, _, _ => by simp at hn
  | n + 1, i, [], _, _, hn, _, _, _, _, _, _, _, _, _ => by simp at hn

def X.out : X → Exit
  | .nrm => .normal
  | .exit id => .exit id
  | .ret => .ret

/-- What a piece of code comes to. -/
def Post (B : Nat) (w0 : Base) (nt : Nat) (g : G) (f f' : Fr) (x : X) (e : Exit) (a : Act) (w : World) : Prop := e = x.out ∧ ∃ g', Ext f.st.hn g g' ∧ FrOk B w0 nt g' f' a w

/-- Regions whose order is drawn are sound. -/
def DrawOk (P : Program) (B : Nat) (w0 : Base) (nt : Nat) (call : D → List D → St → Option (D × St)) (pure : D → Bool) (kind : FuncId → Nat) (mt : Nat → Nat → Bool) : Prop :=
  ∀ (id : Nat) (ops : Array Oper) (ic : IC), comp P nt kind mt (.region id ops true) = some ic → ∀ (g : G) (f f' : Fr) (x : X) (a : Act) (w : World), FrOk B w0 nt g f a w → evC call pure ic f = some (x, f') →
    (Code.region id ops true).wp P (Post B w0 nt g f f' x) a w

theorem evC_sound (hnt : nt ≤ 4294967296) {call : D → List D → St → Option (D × St)} {pure : D → Bool} (hc : CallOk P B w0 call pure) {kind : FuncId → Nat} {mt : Nat → Nat → Bool} (hdr : DrawOk P B w0 nt call pure kind mt) :
    ∀ (c : Code) (ic : IC), comp P nt kind mt c = some ic → ∀ (g : G) (f f' : Fr) (x : X) (a : Act) (w : World), FrOk B w0 nt g f a w → evC call pure ic f = some (x, f') → c.wp P (Post B w0 nt g f f' x) a w := by
  intro c
  induction c with
  | skip =>
    intro ic hic g f f' x a w hf h
    cases hic
    cases h
    exact wp_skip ⟨rfl, g, Ext.refl _ _, hf⟩
  | region id ops draw =>
    intro ic hic g f f' x a w hf h
    cases draw with
    | true => exact hdr id ops ic hic g f f' x a w hf h
    | false =>
      simp only [comp] at hic
      split at hic
      case h_2 => cases hic; cases h
      rename_i ios h1
      simp only [Bool.false_eq_true, if_false, Option.some.injEq] at hic
      subst hic
      simp only [evC, Option.map_eq_some_iff] at h
      obtain ⟨f1, h2, h3⟩ := h
      cases h3
      refine wp_region ?_
      rw [List.range_eq_range']
      exact ops_sound hnt hc ops.size 0 ops.toList ios (by simp) (by simp) h1 hf h2 fun a' w' g' he hf' => ⟨rfl, g', he, hf'⟩
  | seq c1 c2 ih1 ih2 =>
    intro ic hic g f f' x a w hf h
    simp only [comp] at hic
    split at hic
    · rename_i i1 i2 h1 h2
      cases hic
      simp only [evC] at h
      refine wp_seq ?_
      split at h
      · rename_i f1 hm
        refine wp_mono (ih1 i1 h1 g f f1 .nrm a w hf hm) ?_
        rintro e a1 w1 ⟨rfl, g1, he, hf1⟩
        refine wp_mono (ih2 i2 h2 g1 f1 f' x a1 w1 hf1 h) ?_
        rintro e a2 w2 ⟨rfl, g2, he2, hf2⟩
        exact ⟨rfl, g2, he.trans he2 (evC_keep hc.keep _ hm).hn, hf2⟩
      · rename_i hm
        cases hx : evC call pure i1 f with
        | none => rw [hx] at h; cases h
        | some r =>
          rw [hx] at h
          cases h
          refine wp_mono (ih1 i1 h1 g f f' x a w hf hx) ?_
          rintro e a1 w1 ⟨rfl, g1, he, hf1⟩
          cases x with
          | nrm => exact absurd hx (hm _)
          | exit id => exact ⟨rfl, g1, he, hf1⟩
          | ret => exact ⟨rfl, g1, he, hf1⟩
    · cases hic
  | cond o c1 c2 ih1 ih2 =>
    intro ic hic g f f' x a w hf h
    simp only [comp] at hic
    split at hic
    · rename_i o' i1 i2 h0 h1 h2
      cases hic
      simp only [evC] at h
      have ro := cOpd_rep hf.env h0
      split at h
      · rename_i hb
        rw [hb] at ro
        have : a.eval o = .bool true := by generalize a.eval o = v at ro; cases ro; rfl
        exact wp_cond_true this (ih1 i1 h1 g f f' x a w hf h)
      · rename_i hb
        rw [hb] at ro
        have : a.eval o = .bool false := by generalize a.eval o = v at ro; cases ro; rfl
        exact wp_cond_false this (ih2 i2 h2 g f f' x a w hf h)
      · cases h
    · cases hic; cases h
  | block id c ih =>
    intro ic hic g f f' x a w hf h
    simp only [comp, Option.map_eq_some_iff] at hic
    obtain ⟨i1, h1, rfl⟩ := hic
    simp only [evC] at h
    refine wp_block ?_
    split at h
    · rename_i id' f1 hm
      refine wp_mono (ih i1 h1 g f f1 (.exit id') a w hf hm) ?_
      rintro e a1 w1 ⟨rfl, g1, he, hf1⟩
      simp only [X.out, Exit.inBlock]
      by_cases hid : id' = id
      · rw [if_pos hid] at h ⊢
        cases h
        exact ⟨rfl, g1, he, hf1⟩
      · rw [if_neg hid] at h ⊢
        cases h
        exact ⟨rfl, g1, he, hf1⟩
    · rename_i hm
      refine wp_mono (ih i1 h1 g f f' x a w hf h) ?_
      rintro e a1 w1 ⟨rfl, g1, he, hf1⟩
      cases x with
      | exit id' => exact absurd h (hm _ _)
      | nrm => exact ⟨rfl, g1, he, hf1⟩
      | ret => exact ⟨rfl, g1, he, hf1⟩
  | loop c ih =>
    intro ic hic g f f' x a w hf h
    simp only [comp, Option.map_eq_some_iff] at hic
    obtain ⟨i1, h1, rfl⟩ := hic
    simp only [evC] at h
    have key : ∀ (k : Nat) (g1 : G) (f1 : Fr) (a1 : Act) (w1 : World), Ext f.st.hn g g1 → f.st.hn ≤ f1.st.hn → FrOk B w0 nt g1 f1 a1 w1 → iter (fun f => evC call pure i1 f) id k f1 = some (x, f') →
        Code.rounds P c (Post B w0 nt g f f' x) k a1 w1 := by
      intro k
      induction k with
      | zero => intro g1 f1 a1 w1 _ _ _ hh; cases hh
      | succ k ihk =>
        intro g1 f1 a1 w1 he hn hf1 hh
        simp only [iter] at hh
        rw [rounds_succ]
        split at hh
        · rename_i f2 hm
          refine wp_mono (ih i1 h1 g1 f1 f2 .nrm a1 w1 hf1 hm) ?_
          rintro e a2 w2 ⟨rfl, g2, he2, hf2⟩
          exact ihk g2 f2 a2 w2 (he.trans he2 hn) (Nat.le_trans hn (evC_keep hc.keep _ hm).hn) hf2 hh
        · rename_i r hm hr
          cases hh
          refine wp_mono (ih i1 h1 g1 f1 f' x a1 w1 hf1 hr) ?_
          rintro e a2 w2 ⟨rfl, g2, he2, hf2⟩
          cases x with
          | nrm => exact absurd rfl (hm _)
          | exit id => exact ⟨rfl, g2, he.trans he2 hn, hf2⟩
          | ret => exact ⟨rfl, g2, he.trans he2 hn, hf2⟩
        · cases hh
    exact wp_loop_rounds LIM (key LIM g f a w (Ext.refl _ _) (Nat.le_refl _) hf h)
  | exit id =>
    intro ic hic g f f' x a w hf h
    cases hic
    cases h
    exact wp_exit ⟨rfl, g, Ext.refl _ _, hf⟩
  | ret =>
    intro ic hic g f f' x a w hf h
    cases hic
    cases h
    exact wp_ret ⟨rfl, g, Ext.refl _ _, hf⟩
  | _ => intro ic hic g f f' x a w hf h; cases hic; cases h
end
end Go.Fk

/- Soundness of functions: results, bodies. -/
namespace Go.Fk
open Go.RowKit (Below)
section
variable {P : Program} {g : G} {B : Nat} {w0 : Base} {nt : Nat}

/-- A result variable's value. -/
def resF (tmps : Array Value) : ResultVar → Sem Value
  | .tmp t => pure (tmps.getD t undef)
  | .cell b t => do loadVar t (← asAddr (tmps.getD b undef))

theorem results_eq (F : Func) (tmps : Array Value) : results F tmps = (do
    let vs ← F.results.mapM (resF tmps)
    pure (if h : vs.size = 1 then vs[0] else .tuple vs)) := by
  unfold results
  congr 2

theorem res_sound {f : Fr} {a : Act} {w : World} (hf : FrOk B w0 nt g f a w) : ∀ {rs : List ResultVar} {irs : List IRes} {ds : List D}, cRes P rs = some irs → resAll f irs = some ds →
    ∃ vs, (rs.mapM (resF a.tmps)).run P w = .ok vs w ∧ RepL g ds vs
  | [], irs, ds, hc, h => by
    cases hc
    cases h
    exact ⟨[], by simp, .nil⟩
  | .tmp t :: rs, irs, ds, hc, h => by
    simp only [cRes, Option.map_eq_some_iff] at hc
    obtain ⟨irs', h1, rfl⟩ := hc
    simp only [resAll, resD] at h
    split at h
    · rename_i d ds' h2 h3
      cases h
      simp only [Option.some.injEq] at h2
      subst h2
      obtain ⟨vs, h4, h5⟩ := res_sound hf h1 h3
      exact ⟨a.tmps.getD t undef :: vs, by simp only [List.mapM_cons, resF, Sem.run_bind, Sem.run_pure, Result.andThen_ok, h4], .cons (hf.env t) h5⟩
    · cases h
  | .cell b ty :: rs, irs, ds, hc, h => by
    simp only [cRes] at hc
    split at hc
    · rename_i ag n irs' h1 h2 h3
      cases hc
      simp only [resAll, resD] at h
      split at h
      · rename_i d ds' h4 h5
        cases h
        obtain ⟨vs, h6, h7⟩ := res_sound hf h3 h5
        split at h4
        · rename_i id off hp
          have r := hf.env b
          rw [hp] at r
          generalize hv : a.tmps.getD b undef = v at r
          cases r with
          | ptr blk hb =>
            split at h4
            · rename_i cs hg
              have hld : loadQ f.st ag n (.ptr id off) = some d := by simp only [loadQ, hg, h4]
              obtain ⟨cs', el, e1, e2, e3⟩ := hf.inv.obj id _ blk hg hb
              obtain ⟨v, k1, k2⟩ := run_loadVar_cells (P := P) (w := w) (b := blk) (o := 0) h1 h2 (fun j c k => by
                rw [cell_of_row _ _ _ _ _ _ e1]; simpa using k) e2 e3 h4
              have k1' : (loadVar ty ⟨blk, off, none⟩).run P w = .ok v w := by simpa using k1
              exact ⟨v :: vs, by simp only [List.mapM_cons, resF, Sem.run_bind, Sem.run_pure, Result.andThen_ok, hv, asAddr, k1', h6], .cons k2 h7⟩
            · cases h4
        · cases h4
      · cases h
    · cases hc

theorem results_sound {F : Func} {f : Fr} {a : Act} {w : World} (hf : FrOk B w0 nt g f a w) {irs : List IRes} (hc : cRes P F.results.toList = some irs) {d : D} {s' : St}
    (h : (match resAll f irs with
        | some [d] => some (d, f.st)
        | some ds => some (.tup ds, f.st)
        | none => none) = some (d, s')) : s' = f.st ∧ ∃ v, (results F a.tmps).run P w = .ok v w ∧ Rep g d v := by
  cases hr : resAll f irs with
  | none => rw [hr] at h; cases h
  | some ds =>
    obtain ⟨vs, h1, h2⟩ := res_sound hf hc hr
    rw [hr] at h
    have key : (results F a.tmps).run P w = .ok (if h : vs.toArray.size = 1 then vs.toArray[0] else .tuple vs.toArray) w := by
      rw [results_eq, Array.mapM_eq_mapM_toList]
      simp only [Sem.run_bind, Sem.run_map, h1, Result.andThen_ok, Sem.run_pure]
    cases ds with
    | nil =>
      cases h
      rw [h2.nil_inv] at key
      exact ⟨rfl, _, key, .tup [] rfl (fun i d v a => by simp at a)⟩
    | cons d1 r =>
      obtain ⟨v1, ws, rfl, r1, r2⟩ := h2.cons_inv
      cases r with
      | nil =>
        cases h
        rw [r2.nil_inv] at key
        exact ⟨rfl, v1, by simpa using key, r1⟩
      | cons d2 r =>
        cases h
        refine ⟨rfl, .tuple (v1 :: ws).toArray, ?_, .tup _ (by simpa using h2.1) h2.2⟩
        rw [key, dif_neg]
        have := r2.1
        simp only [List.length_cons] at this
        simp only [List.size_toArray, List.length_cons]
        omega

theorem EnvRep.same {e : Env} {tmps : Array Value} (r : EnvRep g e tmps) {t : Nat} (hb : t < 4294967296) {d : D} (h : Rep g d (tmps.getD t undef)) : EnvRep g (e.set (pth t) d) tmps := by
  intro u
  rw [Env.get_set]
  by_cases hu : u = t
  · subst hu
    rw [if_pos rfl]
    exact h
  · have hne : pth u ≠ pth t := fun k => hu (pth_inj 64 t u (by omega) k.symm).symm
    rw [if_neg hne]
    exact r u

theorem envOf_rep {tmps : Array Value} : ∀ (ds : List D) (i : Nat) (e : Env), EnvRep g e tmps → i + ds.length ≤ 4294967296 → (∀ (j : Nat) (d : D), ds[j]? = some d → Rep g d (tmps.getD (i + j) undef)) → EnvRep g (envOf ds i e) tmps
  | [], i, e, r, _, _ => r
  | d :: ds, i, e, r, hl, h => by
    simp only [List.length_cons] at hl
    simp only [envOf]
    exact envOf_rep ds (i + 1) _ (r.same (t := i) (by omega) (h 0 d rfl)) (by omega) fun j d' hj => by
      have := h (j + 1) d' (by simpa using hj)
      rw [show i + 1 + j = i + (j + 1) from by omega]
      exact this

/-- What a call comes to. -/
def Ans (B : Nat) (w0 : Base) (g : G) (s s' : St) (d : D) (e : Ending) (w : World) : Prop := ∃ v g', e = .returned v ∧ Ext s.hn g g' ∧ Inv g' B w0 s' w ∧ Rep g' d v

/-- A body in which nothing is deferred. -/
theorem runFn0_wp {call : D → List D → St → Option (D × St)} {pure : D → Bool} (hc : CallOk P B w0 call pure) {kind : FuncId → Nat} {mt : Nat → Nat → Bool} {F : Func} {ir : IFn}
    (hir : compFn P kind mt F = some ir) (hdr : DrawOk P B w0 F.ntmps call pure kind mt) {args : List D} {vs : List Value} {s : St} {w : World} (hi : Inv g B w0 s w) (ra : RepL g args vs) (hl : args.length = ir.params)
    {x : X} {f : Fr} (h : evC call pure ir.body { env := envOf args 0 .nil, defers := [], st := s } = some (x, f)) : ∃ c, F.body = some c ∧ cRes P F.results.toList = some ir.results ∧
      c.wp P (Post B w0 F.ntmps g { env := envOf args 0 .nil, defers := [], st := s } f x) { tmps := vs.toArray ++ Array.replicate (F.ntmps - vs.toArray.size) undef, defers := [] } w := by
  unfold compFn at hir
  split at hir
  · cases hir
  · rename_i c hbody
    split at hir
    · cases hir
    · rename_i hcond
      split at hir
      · rename_i b irs hcomp hres
        cases hir
        simp only at hl
        have hnt : F.ntmps ≤ 4294967296 := by
          rcases Nat.lt_or_ge 4294967296 F.ntmps with hh | hh
          · exact absurd (.inr (.inl hh)) hcond
          · exact hh
        have hpar : F.params.size + F.nfree ≤ F.ntmps := by
          rcases Nat.lt_or_ge F.ntmps (F.params.size + F.nfree) with hh | hh
          · exact absurd (.inr (.inr hh)) hcond
          · exact hh
        have hf0 : FrOk B w0 F.ntmps g { env := envOf args 0 .nil, defers := [], st := s } { tmps := vs.toArray ++ Array.replicate (F.ntmps - vs.toArray.size) undef, defers := [] } w := by
          refine ⟨envOf_rep args 0 .nil (fun t => ?_) (by omega) (fun j d hj => ?_), hi, by simp; omega, .nil⟩
          · cases pth t <;> exact .un _
          · obtain ⟨v, hv, hr⟩ := ra.get hj
            have : (vs.toArray ++ Array.replicate (F.ntmps - vs.toArray.size) undef).getD (0 + j) undef = v := by
              have hlt : j < vs.length := (List.getElem?_eq_some_iff.1 hv).1
              rw [Array.getD_eq_getD_getElem?, Nat.zero_add, Array.getElem?_append_left (by simpa using hlt)]
              simp [hv]
            rw [this]
            exact hr
        exact ⟨c, hbody, hres, evC_sound hnt hc hdr c b hcomp g _ f x _ w hf0 h⟩
      · cases hir

/-- What calls that were deferred come to. -/
structure DCallOk (P : Program) (B : Nat) (w0 : Base) (dcall : D → List D → St → Option (D × St)) : Prop where
  keep : ∀ d a s r s', dcall d a s = some (r, s') → Keep s s'
  run : ∀ d args s r s', dcall d args s = some (r, s') → ∀ g w fn us cs vs, Inv g B w0 s w → Rep g d (.func fn us cs) → RepL g args vs →
    ∃ fid as, (invoke (.fn fn cs) (us ++ vs.toArray)).run P w = .ok (.enter fid as) w ∧ ∀ u, CallsD P fid as u w fun e u' w' => u' = u ∧ ∃ v g', e = .returned v ∧ Ext s.hn g g' ∧ Inv g' B w0 s' w'

theorem leaves_sound {dcall : D → List D → St → Option (D × St)} (hdc : DCallOk P B w0 dcall) {F : Func} {tmps : Array Value} {e : Env} {R : Ending → World → Prop} {s' : St} :
    ∀ (ds : List (D × List D)) (es : List Deferred) (s : St) (g : G) (w : World), Dfs g ds es → EnvRep g e tmps → Inv g B w0 s w → runDefers dcall ds s = some s' →
      (∀ g' w', Ext s.hn g g' → EnvRep g' e tmps → Inv g' B w0 s' w' → ∃ v, (results F tmps).run P w' = .ok v w' ∧ R (.returned v) w') → Leaves P F tmps R es .returning w
  | [], es, s, g, w, hd, he, hi, h, hR => by
    cases hd
    cases h
    exact hR g w (Ext.refl _ _) he hi
  | (d, a) :: ds, es, s, g, w, hd, he, hi, h, hR => by
    cases hd with
    | cons hr ha ht =>
      simp only [runDefers] at h
      split at h
      · rename_i r s1 h1
        obtain ⟨fid, as, hin, hcall⟩ := hdc.run _ _ _ _ _ h1 g w _ _ _ _ hi hr ha
        refine ⟨by simp, _, _, fid, as, rfl, hin, (hcall .returning).mono ?_⟩
        rintro e' u' w' ⟨rfl, v, g', rfl, hx, hi'⟩
        exact leaves_sound hdc ds _ s1 g' w' (ht.mono hx.le) (he.mono hx.le) hi' h fun g'' w'' hx' he' hi'' => hR g'' w'' (hx.trans hx' (hdc.keep _ _ _ _ _ h1).hn) he' hi''
      · cases h

theorem runFn_sound {call dcall : D → List D → St → Option (D × St)} {pure : D → Bool} (hc : CallOk P B w0 call pure) (hdc : DCallOk P B w0 dcall) {kind : FuncId → Nat} {mt : Nat → Nat → Bool} {F : Func} {ir : IFn} {fid : FuncId} (hF : P.funcs[fid]? = some F)
    (hir : compFn P kind mt F = some ir) (hdr : DrawOk P B w0 F.ntmps call pure kind mt) {args : List D} {vs : List Value} {s s' : St} {d : D} {w : World} (hi : Inv g B w0 s w) (ra : RepL g args vs) (hl : args.length = ir.params)
    (h : runFn call dcall pure ir args s = some (d, s')) : Calls P fid vs.toArray w (Ans B w0 g s s' d) := by
  unfold runFn at h
  split at h
  · rename_i x f hev
    obtain ⟨c, hbody, hres, hwp⟩ := runFn0_wp hc hir hdr hi ra hl hev
    refine calls_of_wp_defers hF hbody (wp_mono hwp ?_)
    rintro e a1 w1 ⟨rfl, g1, he, hf1⟩
    have hkk : s.hn ≤ f.st.hn := (evC_keep hc.keep _ hev).hn
    have fin : (match runDefers dcall f.defers f.st with
        | none => none
        | some s' => match resAll { f with st := s' } ir.results with
          | some [d] => some (d, s')
          | some ds => some (.tup ds, s')
          | none => none) = some (d, s') → Leaves P F a1.tmps (Ans B w0 g s s' d) a1.defers .returning w1 := fun hh => by
      split at hh
      · cases hh
      · rename_i s2 h2
        refine leaves_sound hdc f.defers a1.defers f.st g1 w1 hf1.dfs hf1.env hf1.inv h2 ?_
        intro g2 w2 hx2 he2 hi2
        have hf2 : FrOk B w0 F.ntmps g2 { f with st := s2 } a1 w2 := ⟨he2, hi2, hf1.sz, hf1.dfs.mono hx2.le⟩
        obtain ⟨rfl, v, h1, h3⟩ := results_sound hf2 hres hh
        exact ⟨v, h1, v, g2, rfl, he.trans hx2 hkk, hi2, h3⟩
    cases x with
    | nrm => exact fin h
    | ret => exact fin h
    | exit id => cases h
  · cases h

theorem runFn0_sound {call : D → List D → St → Option (D × St)} {pure : D → Bool} (hc : CallOk P B w0 call pure) {kind : FuncId → Nat} {mt : Nat → Nat → Bool} {F : Func} {ir : IFn} {fid : FuncId} (hF : P.funcs[fid]? = some F)
    (hir : compFn P kind mt F = some ir) (hdr : DrawOk P B w0 F.ntmps call pure kind mt) {args : List D} {vs : List Value} {s s' : St} {d : D} {w : World} (hi : Inv g B w0 s w) (ra : RepL g args vs) (hl : args.length = ir.params)
    (h : runFn0 call pure ir args s = some (d, s')) (u : FrameMode) : CallsD P fid vs.toArray u w fun e u' w' => u' = u ∧ Ans B w0 g s s' d e w' := by
  unfold runFn0 at h
  split at h
  · rename_i x f hev
    obtain ⟨c, hbody, hres, hwp⟩ := runFn0_wp hc hir hdr hi ra hl hev
    refine callsD_of_wp hF hbody (wp_mono hwp ?_)
    rintro e a1 w1 ⟨rfl, g1, he, hf1⟩
    have fin : (if f.defers.isEmpty = true then
        match resAll f ir.results with
        | some [d] => some (d, f.st)
        | some ds => some (.tup ds, f.st)
        | none => none
      else none) = some (d, s') → a1.defers = [] ∧ ∃ v, (results F a1.tmps).run P w1 = .ok v w1 ∧ Ans B w0 g s s' d (.returned v) w1 := fun hh => by
      split at hh
      · rename_i hem
        obtain ⟨rfl, v, h1, h2⟩ := results_sound hf1 hres hh
        have hd := hf1.dfs
        generalize a1.defers = es at hd
        generalize f.defers = ds at hd hem
        cases hd with
        | nil => exact ⟨rfl, v, h1, v, g1, rfl, he, hf1.inv, h2⟩
        | cons => cases hem
      · cases hh
    cases x with
    | nrm => exact fin h
    | ret => exact fin h
    | exit id => cases h
  · cases h
end
end Go.Fk

/- Soundness of functions: what a call's answer becomes behind it. -/
namespace Go.Fk
open Go.RowKit (Below)
open Classical in
/-- The cells of what was made since the n-th object will not change any more. -/
noncomputable def G.fz (g : G) (n : Nat) (w : World) : G :=
  { g with imm := fun b o => match g.imm b o with | some v => some v | none => if ∃ i, n ≤ i ∧ g.blk i = some b then w.cell? ⟨b, o, none⟩ else none }

section
variable {P : Program} {g g' : G} {B : Nat} {w0 : Base} {w w' : World} {s s' : St}

theorem G.le_fz {n : Nat} : g.le (g.fz n w) := ⟨fun _ _ e => e, fun b o v e => by simp only [G.fz, e], fun _ _ _ e => e, rfl⟩
theorem cut_le_fz {n k m : Nat} : (g.cut k m).le ((g.fz n w).cut k m) := ⟨fun _ _ e => e, fun b o v e => G.le_fz.imm b o v e, fun _ _ _ e => e, rfl⟩

theorem fz_imm {n i b o : Nat} (h : Inv g' B w0 s' w') (hi : g'.blk i = some b) (hn : n ≤ i) : (g'.fz n w').imm b o = w'.cell? ⟨b, o, none⟩ := by
  have : g'.imm b o = none := by
    cases e : g'.imm b o with
    | none => rfl
    | some v => exact (h.immblk i b o v hi e).elim
  simp only [G.fz, this]
  rw [if_pos ⟨i, hn, hi⟩]

open Classical in
theorem Inv.fz (h : Inv g' B w0 s' w') (tn : s.tn ≤ s'.tn) (hT : Inv (g'.cut s.hn s.tn) B w0 (Fk.trunc s s') w') : Inv ((g'.fz s.hn w').cut s.hn s.tn) B w0 (Fk.trunc s s') w' := by
  have bl : ∀ i b, (g'.cut s.hn s.tn).blk i = some b → i < s.hn ∧ g'.blk i = some b := fun i b e => by
    simp only [G.cut] at e
    split at e
    · exact ⟨by assumption, e⟩
    · cases e
  have tk : ∀ t n v, (g'.cut s.hn s.tn).tok t n = some v → t < s.tn ∧ g'.tok t n = some v := fun t n v e => by
    simp only [G.cut] at e
    split at e
    · exact ⟨by assumption, e⟩
    · cases e
  refine { hT with imm := ?_, obj := fun i o b e k => (hT.obj i o b e k).mono cut_le_fz, immblk := ?_, tokok := ?_ }
  · intro b o v e
    have e' : (match g'.imm b o with | some v => some v | none => if ∃ i, s.hn ≤ i ∧ g'.blk i = some b then w'.cell? ⟨b, o, none⟩ else none) = some v := e
    cases k : g'.imm b o with
    | some u => rw [k] at e'; cases e'; exact h.imm b o _ k
    | none =>
      rw [k] at e'
      simp only at e'
      split at e'
      · exact e'
      · cases e'
  · intro i b o v e k
    have k' : (match g'.imm b o with | some v => some v | none => if ∃ i, s.hn ≤ i ∧ g'.blk i = some b then w'.cell? ⟨b, o, none⟩ else none) = some v := k
    cases q : g'.imm b o with
    | some u => exact hT.immblk i b o u e q
    | none =>
      rw [q] at k'
      simp only at k'
      split at k'
      · rename_i hex
        obtain ⟨j, hj, hb⟩ := hex
        obtain ⟨hi, hb'⟩ := bl i b e
        have := h.inj i j b hb' hb
        omega
      · cases k'
  · intro t n sz e
    refine (hT.tokok t n sz e).imm_mono (fun _ => rfl) (fun b o cap k2 => ⟨fun j _ _ k3 => ?_, rfl⟩)
    have k3' : g'.imm b j = none := k3
    show (match g'.imm b j with | some v => some v | none => if ∃ i, s.hn ≤ i ∧ g'.blk i = some b then w'.cell? ⟨b, j, none⟩ else none) = none
    rw [k3']
    simp only
    rw [if_neg]
    rintro ⟨i, _, hb⟩
    have e' : s'.tok t = some (n, sz) := by
      rw [trunc_tok h.tl tn] at e
      split at e
      · exact e
      · cases e
    exact (h.tokblk t n sz _ b e' (tk t n _ k2).2 rfl).2.1 i hb

theorem mapM_rep {n m : Nat} {fr : D → Option D} (ih : ∀ d d2 v, fr d = some d2 → Rep g' d v → Rep ((g'.fz n w').cut n m) d2 v ∧ (d.single = true → d2.single = true)) :
    ∀ (ds ds2 : List D) (vs : List Value), ds.mapM fr = some ds2 → RepL g' ds vs → RepL ((g'.fz n w').cut n m) ds2 vs ∧ (ds.all (·.single) = true → ds2.all (·.single) = true)
  | [], ds2, vs, h, r => by
    simp at h
    subst h
    rw [r.nil_inv]
    exact ⟨.nil, fun _ => rfl⟩
  | d :: ds, ds2, vs, h, r => by
    obtain ⟨v, ws, rfl, r0, r1⟩ := r.cons_inv
    rw [List.mapM_cons] at h
    cases h1 : fr d with
    | none => rw [h1] at h; cases h
    | some d2 =>
      cases h2 : ds.mapM fr with
      | none => rw [h1, h2] at h; cases h
      | some es =>
        rw [h1, h2] at h
        cases h
        obtain ⟨a, b⟩ := ih d d2 v h1 r0
        obtain ⟨c, e⟩ := mapM_rep ih ds es ws h2 r1
        refine ⟨.cons a c, fun hs => ?_⟩
        simp only [List.all_cons, Bool.and_eq_true] at hs ⊢
        exact ⟨b hs.1, e hs.2⟩

theorem freeze_sound (h : Inv g' B w0 s' w') (n m : Nat) : ∀ (k : Nat) (d d2 : D) (v : Value), freeze s' n k d = some d2 → Rep g' d v → Rep ((g'.fz n w').cut n m) d2 v ∧ (d.single = true → d2.single = true)
  | 0, _, _, _, hf, _ => by cases hf
  | k + 1, d, d2, v, hf, r => by
    have ih := freeze_sound h n m k
    have dflt : ∀ {d : D}, Rep g' d v → (if (normC d).cl 0 = true then some (normC d) else none) = some d2 → Rep ((g'.fz n w').cut n m) d2 v ∧ (d.single = true → d2.single = true) := fun {d} r hh => by
      split at hh
      · rename_i hcl
        cases hh
        exact ⟨(r.normC.mono G.le_fz).cut (cl_wf _ _ _ hcl), fun hs => by rw [single_normC]; exact hs⟩
      · cases hh
    cases d with
    | arr id off len sz fl =>
      simp only [freeze] at hf
      split at hf
      · cases hf
      · rename_i hid
        split at hf
        · rename_i ds hg
          split at hf
          · rename_i hle
            split at hf
            · rename_i xs hxs
              split at hf
              · rename_i hcl
                cases hf
                cases r with
                | arr b cap hb hcap hsz hfl =>
                  obtain ⟨cs, el, e1, e2, e3⟩ := h.obj id _ b hg hb
                  have e3' : (ds.drop off).all (·.single) = true := by simp only [List.all_eq_true] at *; exact fun x hx => e3 x (List.mem_of_mem_drop hx)
                  have hr := group_rep (agg := sz != 1) rfl hsz len _ _ (e2.drop off) e3' (by simp; omega)
                  obtain ⟨r2, _⟩ := mapM_rep ih _ _ _ hxs hr
                  have hlen := groupV_length (sz != 1) sz len (cs.toList.drop off)
                  have hone := (e2.drop off).oneCell e3'
                  have hxl : (xs.map norm).length = len := by rw [List.length_map, ← r2.1, hlen]
                  have r3 := r2.map norm fun d v r => r.norm
                  refine ⟨?_, fun _ => rfl⟩
                  suffices hR : Rep ((g'.fz n w').cut n m) (.list (xs.map norm) (if fl then .full else .no)) (.slice (some ⟨b, off, none⟩) (xs.map norm).length cap) by rw [hxl] at hR; exact hR
                  refine .list b off cap sz _ r3.1 (by omega) r3.2 (clL_of fun d hd => ?_) ⟨hsz, fun i v e => ?_⟩ (by cases fl with
                    | false => trivial
                    | true => show cap = (xs.map norm).length; rw [hxl]; exact hfl rfl)
                  · obtain ⟨x, hx, rfl⟩ := List.mem_map.1 hd
                    exact List.all_eq_true.1 hcl x hx
                  · have hlt : i < len := by rw [← hlen]; exact (List.getElem?_eq_some_iff.1 e).1
                    have hle2 : len * sz ≤ (cs.toList.drop off).length := by have := e2.1; simp at this ⊢; omega
                    have hmul : i * sz + sz ≤ len * sz := by rw [← Nat.succ_mul]; exact Nat.mul_le_mul_right sz hlt
                    have key := groupV_get (agg := sz != 1) rfl len _ i v hone hle2 e
                    refine ⟨?_, fun j c kk => ?_⟩
                    · have : v.cells.toList.length = sz := by rw [key]; simp at hle2 ⊢; omega
                      simpa using this
                    · have k' : v.cells.toList[j]? = some c := by simpa using kk
                      rw [key, List.getElem?_take] at k'
                      split at k'
                      · rw [List.getElem?_drop, List.getElem?_drop] at k'
                        show (g'.fz n w').imm b (off + i * sz + j) = some c
                        rw [fz_imm h hb (by omega), cell_of_row _ _ _ _ _ _ e1, show off + i * sz + j = off + (i * sz + j) from by omega]
                        simpa using k'
                      · cases k'
              · cases hf
            · cases hf
          · cases hf
        · cases hf
    | agg ds =>
      simp only [freeze, Option.map_eq_some_iff] at hf
      obtain ⟨ds2, h1, rfl⟩ := hf
      cases r with
      | agg vs hl hx hs =>
        obtain ⟨r2, hs2⟩ := mapM_rep ih _ _ _ h1 (⟨hl, hx⟩ : RepL g' ds vs)
        exact ⟨.agg vs r2.1 r2.2 (hs2 hs), fun hh => by cases hh⟩
    | tup ds =>
      simp only [freeze, Option.map_eq_some_iff] at hf
      obtain ⟨ds2, h1, rfl⟩ := hf
      cases r with
      | tup vs hl hx =>
        obtain ⟨r2, hs2⟩ := mapM_rep ih _ _ _ h1 (⟨hl, hx⟩ : RepL g' ds vs)
        exact ⟨.tup vs r2.1 r2.2, fun hh => by cases hh⟩
    | iface t d =>
      simp only [freeze, Option.map_eq_some_iff] at hf
      obtain ⟨d3, h1, rfl⟩ := hf
      cases r with
      | iface v hr => exact ⟨.iface v (ih d d3 v h1 hr).1, fun _ => rfl⟩
    | _ => simp only [freeze] at hf; exact dflt r hf
end
end Go.Fk

/- Soundness of functions: calls, of every kind. -/
namespace Go.Fk
open Go.RowKit (Below)

/-- An answer that is known otherwise. -/
structure OraOk (P : Program) (B : Nat) (w0 : Base) (pure : Bool) (f : FuncId) (o : List D → St → Option (D × St)) : Prop where
  keep : ∀ a s r s', o a s = some (r, s') → Keep s s'
  pure : pure = true → ∀ a s r s', o a s = some (r, s') → s' = s
  run : ∀ args s r s', o args s = some (r, s') → ∀ g w vs, Inv g B w0 s w → RepL g args vs →
    CallsTo P (fun x w' => ∃ g', Ext s.hn g g' ∧ Inv g' B w0 s' w' ∧ Rep g' r x) ((callFunc f vs.toArray).run P w)

structure ProgOk (P : Program) (B : Nat) (w0 : Base) (p : Prog) : Prop where
  fn : ∀ f ir, p.ora f = none → p.fn f = some ir → ∃ F mt, P.funcs[f]? = some F ∧ compFn P p.kind mt F = some ir
  ora : ∀ f o, p.ora f = some o → OraOk P B w0 (p.kind f == 0) f o

def DrawAll (P : Program) (B : Nat) (w0 : Base) : Prop :=
  ∀ (nt : Nat), nt ≤ 4294967296 → ∀ (call : D → List D → St → Option (D × St)) (pure : D → Bool), CallOk P B w0 call pure → ∀ (kind : FuncId → Nat) (mt : Nat → Nat → Bool), DrawOk P B w0 nt call pure kind mt

section
variable {P : Program} {g g' : G} {B : Nat} {w0 : Base} {w w' : World} {s s' : St}

theorem Inv.setLim (h : Inv g B w0 s w) (l : Lim) : Inv g B w0 { s with lim := l } w :=
  h.congr _ h.hl h.tl rfl rfl (fun _ => rfl) (fun _ => rfl)

theorem old_wf {l : Lim} (hi : Inv g B w0 s w) (hk : Keep { s with lim := l } s') (hc : l.cbase = s.hn) : ∀ i o b, s'.get i = some o → g.blk i = some b → o.wf s.hn s.tn := fun i o b e k => by
  have hlt := (hi.dom i b k).1
  obtain ⟨o0, h1, h2⟩ := hk.wf hi.hl i s.hn s.tn o (by show i < l.cbase; omega) hlt e
  exact h2 (hi.obj_wf h1 k)

/-- Behind a call that lays nothing into what was but what points nowhere. -/
theorem kind3 {l : Lim} (hi : Inv g B w0 s w) (hk : Keep { s with lim := l } s') (hc : l.cbase = s.hn) (he : Ext s.hn g g') (h' : Inv g' B w0 s' w') {d d2 : D} {v : Value} (r : Rep g' d v) (hf : freeze s' s.hn 6 d = some d2) :
    ∃ g2, Ext s.hn g g2 ∧ Inv g2 B w0 (trunc s s') w' ∧ Rep g2 d2 v := by
  have hn : s.hn ≤ s'.hn := hk.hn
  have tn : s.tn ≤ s'.tn := hk.tn
  have hT := h'.trunc (s := s) he hn tn (old_wf hi hk hc)
  have hx := cut_ext hi he
  exact ⟨_, ⟨hx.le.trans cut_le_fz, hx.blk⟩, h'.fz tn hT, (freeze_sound h' s.hn s.tn 6 d d2 v hf r).1⟩

theorem back {g2 : G} {l : Lim} (hi : Inv g B w0 s w) (hk : Keep { s with lim := l } s') (hb : l.base = s.hn) (ht : l.tbase = s.tn) (h' : Inv g' B w0 s' w') (h : Inv g2 B w0 (trunc s s') w') : Inv g2 B w0 s w' := by
  have hn : s.hn ≤ s'.hn := hk.hn
  have tn : s.tn ≤ s'.tn := hk.tn
  refine h.congr s hi.hl hi.tl rfl rfl (fun i => ?_) (fun t => ?_)
  · rw [trunc_get h'.hl hn]
    split
    · rename_i hlt; exact (hk.base hi.hl i (by show i < l.base; omega) hlt).symm
    · rename_i hlt; exact hi.get_ge (by omega)
  · rw [trunc_tok h'.tl tn]
    split
    · rename_i hlt; exact (hk.tbase hi.tl t (by show t < l.tbase; omega) hlt).symm
    · rename_i hlt; exact getR_ge _ _ _ (by omega)

theorem kind1 {l : Lim} (hi : Inv g B w0 s w) (hk : Keep { s with lim := l } s') (hb : l.base = s.hn) (hc : l.cbase = s.hn) (ht : l.tbase = s.tn) (he : Ext s.hn g g') (h' : Inv g' B w0 s' w') {xs : List D} {t sz : Nat} {v : Value} (r : Rep g' (.list xs (.tok t)) v)
    (htk : s'.tok t = some (xs.length, sz)) (hle : s.tn ≤ t) : ∃ g2, Ext s.hn g g2 ∧ Inv g2 B w0 (s.pushTok xs.length sz) w' ∧ Rep g2 (.list xs (.tok s.tn)) v := by
  have hn : s.hn ≤ s'.hn := hk.hn
  have tn : s.tn ≤ s'.tn := hk.tn
  have h2 := back hi hk hb ht h' (h'.trunc (s := s) he hn tn (old_wf hi hk hc))
  have hx := cut_ext hi he
  have cutblk : ∀ i b, (g'.cut s.hn s.tn).blk i = some b → g'.blk i = some b := fun i b e => by
    simp only [G.cut] at e
    split at e
    · exact e
    · cases e
  have cuttok : ∀ t n v, (g'.cut s.hn s.tn).tok t n = some v → t < s.tn ∧ g'.tok t n = some v := fun t n v e => by
    simp only [G.cut] at e
    split at e
    · exact ⟨by assumption, e⟩
    · cases e
  cases r with
  | list b o cap sz' vs hl hcap hxx hcl hr htt =>
    have hgt : g'.tok t xs.length = some (.slice (some ⟨b, o, none⟩) xs.length cap) := htt
    obtain ⟨b', o', cap', e1, e2, e3, e4, cs, el, e5, e6, e7⟩ := h'.tokok t _ sz htk
    rw [hgt] at e1
    cases e1
    have hB := h'.tokblk t _ sz _ b htk hgt rfl
    have none_tok : ∀ m, (g'.cut s.hn s.tn).tok s.tn m = none := fun m => by simp [G.cut]
    have hinv := h2.retok (s' := s.pushTok xs.length sz) (t := s.tn) (n' := xs.length) (sz := sz) (b := b) (o := o) (cap := cap) (fun _ => none) w' rfl rfl (by simp [St.pushTok, hi.tl]) (by simp [St.pushTok]) (by simp [St.pushTok])
      (fun t' => by simp only [St.tok, St.pushTok, getR_cons]) (fun m _ => none_tok m) (Below.refl _ _) (fun _ _ _ => rfl) hB.1 (fun i e => hB.2.1 i (cutblk i b e))
      (fun t1 n1 sz1 v1 _ a c d => by
        obtain ⟨hlt, c'⟩ := cuttok t1 n1 v1 c
        have a' : s'.tok t1 = some (n1, sz1) := by rw [hk.tbase hi.tl t1 (by show t1 < l.tbase; omega) hlt]; exact a
        have := hB.2.2 t1 n1 sz1 v1 a' c' d
        omega)
      (fun j v e => h'.imm b j v e) (fun j v e => by cases e) e2 e3 cs el e5 e6 (fun j a c => ⟨e7 j a c, rfl⟩)
    have hle2 : (g'.cut s.hn s.tn).le (((g'.cut s.hn s.tn).freeze b fun _ => none).setTok s.tn xs.length (.slice (some ⟨b, o, none⟩) xs.length cap)) :=
      G.le_freeze.trans (G.le_setTok (g := (g'.cut s.hn s.tn).freeze b fun _ => none) (none_tok _))
    refine ⟨_, ⟨hx.le.trans hle2, hx.blk⟩, hinv, .list b o cap sz' vs hl hcap (fun i d v a c => ((hxx i d v a c).cut (cl_wf _ _ _ (clL_get hcl a))).mono hle2) hcl ?_ (by simp [TkOk, G.setTok])⟩
    have hr' : Row (g'.cut s.hn s.tn) b o sz' vs := hr
    exact hr'.mono hle2

theorem compFn_nt {kind : FuncId → Nat} {mt : Nat → Nat → Bool} {F : Func} {ir : IFn} (hir : compFn P kind mt F = some ir) : F.ntmps ≤ 4294967296 ∧ F.name ≠ "runtime.NumGoroutine" ∧ ∃ c, F.body = some c := by
  unfold compFn at hir
  split at hir
  · cases hir
  · rename_i c hbody
    split at hir
    · cases hir
    · rename_i hcond
      refine ⟨?_, fun hh => hcond (.inl hh), c, hbody⟩
      rcases Nat.lt_or_ge 4294967296 F.ntmps with hh | hh
      · exact absurd (.inr (.inl hh)) hcond
      · exact hh

/-- Calls that were deferred are sound, where calls are. -/
theorem callD_ok {p : Prog} (hp : ProgOk P B w0 p) (hdr : DrawAll P B w0) {call : D → List D → St → Option (D × St)} (ih : CallOk P B w0 call p.pure) : DCallOk P B w0 (callD p call) := by
  refine ⟨fun d a s r s' h => callD_keep ih.keep h, fun d args s r s' h g w fn us cs vs hi rd ra => ?_⟩
  unfold callD at h
  split at h
  · rename_i f first cap
    split at h
    · cases h
    · rename_i hno
      split at h
      · cases h
      · rename_i ir hfn
        obtain ⟨F, mt, hF, hir⟩ := hp.fn f ir hno hfn
        obtain ⟨hnt, hname, cc, hbody⟩ := compFn_nt hir
        split at h
        · rename_i hpar
          split at h
          · generalize hv : Value.func fn us cs = v at rd
            cases rd with
            | func us' cs' hl hx kl ky =>
              cases hv
              have r1 : RepL g first us' := ⟨hl, hx⟩
              have r2 : RepL g cap cs' := ⟨kl, ky⟩
              have rall : RepL g (first.map norm ++ args.map norm ++ cap) (us' ++ vs ++ cs') := ((r1.map norm fun _ _ r => r.norm).append (ra.map norm fun _ _ r => r.norm)).append r2
              have hpar' : (first.map norm ++ args.map norm ++ cap).length = ir.params := by simpa using hpar
              refine ⟨f, (us' ++ vs ++ cs').toArray, by simp [invoke, callFunc, hF, hname, hbody], fun u => ?_⟩
              refine (runFn0_sound ih hF hir (hdr F.ntmps hnt _ _ ih p.kind mt) hi rall hpar' h u).mono ?_
              rintro e u' w' ⟨rfl, v, g', rfl, h1, h2, h3⟩
              exact ⟨rfl, v, g', rfl, h1, h2⟩
          · cases h
        · cases h
  · cases h

theorem evF_ok {p : Prog} (hp : ProgOk P B w0 p) (hdr : DrawAll P B w0) : ∀ k, CallOk P B w0 (evF p k) p.pure
  | 0 => ⟨fun _ _ _ _ _ h => (by cases h), fun _ _ _ _ _ _ h => (by cases h), fun _ _ _ _ _ h => (by cases h)⟩
  | k + 1 => by
    have ih := evF_ok hp hdr k
    refine ⟨fun d a s r s' h => ?_, fun d a s r s' hpu h => ?_, fun d args s r s' h g w v vs hi rd ra => ?_⟩
    · unfold evF at h
      split at h
      · rename_i f first cap
        split at h
        · rename_i o ho
          exact (hp.ora f o ho).keep _ _ _ _ h
        · split at h
          · cases h
          · split at h
            · split at h
              · exact runFn_keep ih.keep (fun _ _ _ _ _ hh => callD_keep ih.keep hh) h
              · split at h
                · split at h
                  · cases h
                  · rename_i d1 s1 hr
                    split at h
                    · cases h
                      exact Keep.cut (runFn_keep ih.keep (fun _ _ _ _ _ hh => callD_keep ih.keep hh) hr) (Nat.le_refl _) rfl (Nat.le_refl _)
                    · cases h
                · split at h
                  · cases h
                  · split at h
                    · unfold settle at h; split at h <;> cases h; exact Keep.refl _
                    · split at h
                      · split at h
                        · split at h
                          · cases h; exact Keep.pushTok _ _ _
                          · cases h
                        · cases h
                      · cases h; exact Keep.refl _
                      · unfold settle at h; split at h <;> cases h; exact Keep.refl _
            · cases h
      · cases h
    · unfold evF at h
      split at h
      · rename_i f first cap
        have hk0 : p.kind f = 0 := by simpa [Prog.pure, D.fid] using hpu
        split at h
        · rename_i o ho
          exact (hp.ora f o ho).pure (by simp [hk0]) _ _ _ _ h
        · split at h
          · cases h
          · split at h
            · rw [if_neg (by omega), if_neg (by omega)] at h
              split at h
              · cases h
              · unfold settle at h; split at h <;> cases h; rfl
            · cases h
      · cases h
    · unfold evF at h
      split at h
      · rename_i f first cap
        cases rd with
        | func us cs hl hx kl ky =>
          have r1 : RepL g first us := ⟨hl, hx⟩
          have r2 : RepL g cap cs := ⟨kl, ky⟩
          have rall : RepL g (first.map norm ++ args.map norm ++ cap) (us ++ vs ++ cs) := ((r1.map norm fun _ _ r => r.norm).append (ra.map norm fun _ _ r => r.norm)).append r2
          have earr : us.toArray ++ vs.toArray ++ cs.toArray = (us ++ vs ++ cs).toArray := by simp
          refine ⟨f, us.toArray, cs.toArray, rfl, ?_⟩
          rw [earr]
          split at h
          · rename_i o ho
            exact (hp.ora f o ho).run _ _ _ _ h g w _ hi rall
          · rename_i hno
            split at h
            · cases h
            · rename_i ir hfn
              obtain ⟨F, mt, hF, hir⟩ := hp.fn f ir hno hfn
              have hcall : (callFunc f (us ++ vs ++ cs).toArray).run P w = .ok (.enter f (us ++ vs ++ cs).toArray) w := by
                unfold compFn at hir
                split at hir
                · cases hir
                · rename_i c hbody
                  split at hir
                  · cases hir
                  · rename_i hcond
                    have hname : F.name ≠ "runtime.NumGoroutine" := fun hh => hcond (.inl hh)
                    simp [callFunc, hF, hname, hbody]
              rw [hcall]
              have hnt : F.ntmps ≤ 4294967296 := by
                unfold compFn at hir
                split at hir
                · cases hir
                · split at hir
                  · cases hir
                  · rename_i hcond
                    rcases Nat.lt_or_ge 4294967296 F.ntmps with hh | hh
                    · exact absurd (.inr (.inl hh)) hcond
                    · exact hh
              have hd := hdr F.ntmps hnt _ _ ih p.kind mt
              split at h
              · rename_i hpar
                have hpar' : (first.map norm ++ args.map norm ++ cap).length = ir.params := by simpa using hpar
                have run : ∀ {l : Lim} {d1 : D} {s1 : St}, runFn (evF p k) (callD p (evF p k)) p.pure ir (first.map norm ++ args.map norm ++ cap) { s with lim := l } = some (d1, s1) → Calls P f (us ++ vs ++ cs).toArray w (Ans B w0 g { s with lim := l } s1 d1) :=
                  fun {l d1 s1} hr => runFn_sound ih (callD_ok hp hdr ih) hF hir hd (hi.setLim l) rall hpar' hr
                split at h
                · have hc := runFn_sound ih (callD_ok hp hdr ih) hF hir hd hi rall hpar' h
                  refine Calls.mono hc ?_
                  rintro e w' ⟨v, g', rfl, h1, h2, h3⟩
                  exact ⟨g', h1, h2, h3⟩
                · split at h
                  · split at h
                    · cases h
                    · rename_i d1 s1 hr
                      split at h
                      · rename_i d2 hfz
                        cases h
                        refine Calls.mono (run hr) ?_
                        rintro e w' ⟨v, g', rfl, h1, h2, h3⟩
                        exact kind3 hi (runFn_keep ih.keep (fun _ _ _ _ _ hh => callD_keep ih.keep hh) hr) rfl h1 h2 h3 hfz
                      · cases h
                  · split at h
                    · cases h
                    · rename_i d1 s1 hr
                      have hkp := runFn_keep ih.keep (fun _ _ _ _ _ hh => callD_keep ih.keep hh) hr
                      have settled : ∀ {d1 : D}, settle s s1 d1 = some (r, s') → ∀ {w' : World} {g' : G} {v : Value}, Ext s.hn g g' → Inv g' B w0 s1 w' → Rep g' d1 v → ∃ g2, Ext s.hn g g2 ∧ Inv g2 B w0 s' w' ∧ Rep g2 r v := fun {d1} hs {w' g' v} h1 h2 h3 => by
                        unfold settle at hs
                        split at hs
                        · rename_i d2 hfz
                          cases hs
                          obtain ⟨g2, k1, k2, k3⟩ := kind3 hi hkp rfl h1 h2 h3 hfz
                          exact ⟨g2, k1, back hi hkp rfl rfl h2 k2, k3⟩
                        · cases hs
                      refine Calls.mono (run hr) ?_
                      rintro e w' ⟨v, g', rfl, h1, h2, h3⟩
                      show ∃ g2, Ext s.hn g g2 ∧ Inv g2 B w0 s' w' ∧ Rep g2 r v
                      split at h
                      · exact settled h h1 h2 h3
                      · split at h
                        · rename_i xs t
                          split at h
                          · rename_i n sz htk
                            split at h
                            · rename_i hc
                              cases h
                              obtain ⟨rfl, hle⟩ := hc
                              exact kind1 hi hkp rfl rfl rfl h1 h2 h3 htk hle
                            · cases h
                          · cases h
                        · cases h
                          have hn : s.hn ≤ s1.hn := hkp.hn
                          have tn : s.tn ≤ s1.tn := hkp.tn
                          exact ⟨_, cut_ext hi h1, back hi hkp rfl rfl h2 (h2.trunc (s := s) h1 hn tn (old_wf hi hkp rfl)), h3.cut trivial⟩
                        · exact settled h h1 h2 h3
              · cases h
      · cases h
end
end Go.Fk

/- What an operation looks at. -/
namespace Go.Fk

theorem vsame_eq {a b : Value} (h : vsame a b = true) : a = b := by
  unfold vsame at h
  split at h <;> simp at h <;> first | rfl | (subst h; rfl) | (obtain ⟨rfl, rfl⟩ := h; rfl) | skip
  rename_i a b
  obtain ⟨a⟩ := a; obtain ⟨b⟩ := b
  have : a = b := h
  rw [this]

mutual
theorem D.same_eq : ∀ (a b : D), a.same b = true → a = b
  | .un, b, h => by cases b <;> simp [D.same] at h; rfl
  | .v x, b, h => by
    cases b <;> simp [D.same] at h
    rw [vsame_eq h]
  | .list xs t, b, h => by
    cases b <;> simp [D.same] at h
    rw [h.1, D.sameL_eq xs _ h.2]
  | .rlist xs, b, h => by
    cases b <;> simp [D.same] at h
    rw [D.sameL_eq xs _ h]
  | .agg xs, b, h => by
    cases b <;> simp [D.same] at h
    rw [D.sameL_eq xs _ h]
  | .tup xs, b, h => by
    cases b <;> simp [D.same] at h
    rw [D.sameL_eq xs _ h]
  | .ptr i o, b, h => by
    cases b <;> simp [D.same] at h
    rw [h.1, h.2]
  | .lptr xs i o, b, h => by
    cases b <;> simp [D.same] at h
    rw [h.1.1, h.1.2, D.sameL_eq xs _ h.2]
  | .arr i o l z f, b, h => by
    cases b <;> simp [D.same] at h
    rw [h.1.1.1.1, h.1.1.1.2, h.1.1.2, h.1.2, h.2]
  | .map i, b, h => by
    cases b <;> simp [D.same] at h
    rw [h]
  | .func f x y, b, h => by
    cases b <;> simp [D.same] at h
    rw [h.1.1, D.sameL_eq x _ h.1.2, D.sameL_eq y _ h.2]
  | .iface t d, b, h => by
    cases b <;> simp [D.same] at h
    rw [h.1, D.same_eq d _ h.2]
  | .sym i, b, h => by
    cases b <;> simp [D.same] at h
    rw [h]
theorem D.sameL_eq : ∀ (a b : List D), D.sameL a b = true → a = b
  | [], b, h => by cases b <;> simp [D.sameL] at h; rfl
  | d :: r, b, h => by
    cases b <;> simp [D.sameL] at h
    rw [D.same_eq d _ h.1, D.sameL_eq r _ h.2]
end


section
variable {call : D → List D → St → Option (D × St)} {pure : D → Bool} {e e' : Env} {s : St}

theorem optL_map {x : Option Opd} (h : ∀ y ∈ optL x, y.ev e = y.ev e') : x.map (·.ev e) = x.map (·.ev e') := by
  cases x with
  | none => rfl
  | some y => simp [h y (by simp [optL])]

theorem evQ_congr : ∀ (op : IOp), (∀ x ∈ op.opds, x.ev e = x.ev e') → evQ e s call pure op = evQ e' s call pure op := by
  intro op h
  cases op
  case build zs parts =>
    simp only [evQ]
    have : (parts.map fun (o, n, x) => (o, n, x.ev e)) = (parts.map fun (o, n, x) => (o, n, x.ev e')) := List.map_congr_left fun p hp => by
      have := h p.2.2 (List.mem_map.2 ⟨p, hp, rfl⟩)
      simp only [this]
    rw [this]
  case lit sz n zero parts =>
    simp only [evQ]
    have k : ∀ p ∈ parts, p.2.ev e = p.2.ev e' := fun p hp => h p.2 (List.mem_map.2 ⟨p, hp, rfl⟩)
    have h1 : (parts.all fun (i, x) => decide (i < n) && (x.ev e).cells.length == sz && (x.ev e).cells.all (·.single)) = (parts.all fun (i, x) => decide (i < n) && (x.ev e').cells.length == sz && (x.ev e').cells.all (·.single)) := by
      rw [Bool.eq_iff_iff]
      simp only [List.all_eq_true]
      exact ⟨fun hh p hp => by rw [← k p hp]; exact hh p hp, fun hh p hp => by rw [k p hp]; exact hh p hp⟩
    have h2 : (parts.all fun (_, x) => (norm (x.ev e)).cl 0) = (parts.all fun (_, x) => (norm (x.ev e')).cl 0) := by
      rw [Bool.eq_iff_iff]
      simp only [List.all_eq_true]
      exact ⟨fun hh p hp => by rw [← k p hp]; exact hh p hp, fun hh p hp => by rw [k p hp]; exact hh p hp⟩
    have h3 : (parts.map fun (i, x) => (i, x.ev e)) = (parts.map fun (i, x) => (i, x.ev e')) := List.map_congr_left fun p hp => by simp only [k p hp]
    rw [h1, h2, h3]
  case mkfunc fn a b =>
    simp only [evQ]
    have h1 : a.map (·.ev e) = a.map (·.ev e') := List.map_congr_left fun x hx => h x (List.mem_append.2 (.inl hx))
    have h2 : b.map (·.ev e) = b.map (·.ev e') := List.map_congr_left fun x hx => h x (List.mem_append.2 (.inr hx))
    rw [h1, h2]
  case slice kind n sz x lo hi mx =>
    simp only [evQ]
    rw [h x (by simp [IOp.opds]), optL_map (x := lo) fun y hy => h y (by simp [IOp.opds, hy]), optL_map (x := hi) fun y hy => h y (by simp [IOp.opds, hy]), optL_map (x := mx) fun y hy => h y (by simp [IOp.opds, hy])]
  case call f args =>
    simp only [evQ]
    have h1 : args.map (·.ev e) = args.map (·.ev e') := List.map_congr_left fun x hx => h x (List.mem_cons_of_mem _ hx)
    rw [h f (by simp [IOp.opds]), h1]
  case minmax mx xs =>
    simp only [evQ]
    have h1 : xs.map (·.ev e) = xs.map (·.ev e') := List.map_congr_left fun x hx => h x hx
    rw [h1]
  all_goals (simp only [IOp.opds, List.mem_cons, List.not_mem_nil, or_false, forall_eq_or_imp, forall_eq] at h; simp only [evQ, h])

theorem evM_congr : ∀ (op : IOp), (∀ x ∈ op.opds, x.ev e = x.ev e') → evM e s call op = evM e' s call op := by
  intro op h
  cases op
  case call f args =>
    simp only [evM]
    have h1 : args.map (·.ev e) = args.map (·.ev e') := List.map_congr_left fun x hx => h x (List.mem_cons_of_mem _ hx)
    rw [h f (by simp [IOp.opds]), h1]
  all_goals first
    | (simp only [IOp.opds, List.mem_cons, List.not_mem_nil, or_false, forall_eq_or_imp, forall_eq] at h; simp only [evM, h]; done)
    | simp only [evM]

/-- What does not look at the state. -/
theorem evQ_state {kind : FuncId → Nat} (op : IOp) (h : clsOf kind op = 0) (s s' : St) : evQ e s call pure op = evQ e s' call pure op := by
  cases op <;> first | rfl | (simp [clsOf] at h; done) | skip
  rename_i f args
  cases f <;> simp [clsOf] at h
  split at h <;> simp at h
end
end Go.Fk

/- Soundness of regions whose order is drawn. -/
namespace Go.Fk
open Go.RowKit (Below)

abbrev Rcd := Env × D

/-- An environment in which the operations of a set have been. -/
def EnvX (ios : List IOper) (rs : List Rcd) (e0 : Env) (X : Nat → Prop) (e : Env) : Prop :=
  (∀ j jo E d p, X j → ios[j]? = some jo → rs[j]? = some (E, d) → jo.dst = some p → e.get p = d) ∧ (∀ p, (∀ j jo, X j → ios[j]? = some jo → jo.dst ≠ some p) → e.get p = e0.get p)

def Uniq (ios : List IOper) : Prop := ∀ (i j : Nat) (io jo : IOper) (p : Pth), i ≠ j → ios[i]? = some io → ios[j]? = some jo → io.dst = some p → jo.dst ≠ some p

theorem EnvX.nil {ios : List IOper} {rs : List Rcd} {e0 : Env} {X : Nat → Prop} (h : ∀ j, ¬ X j) : EnvX ios rs e0 X e0 :=
  ⟨fun j _ _ _ _ a => absurd a (h j), fun _ _ => rfl⟩

theorem EnvX.step {ios : List IOper} {rs : List Rcd} {e0 e : Env} {X Y : Nat → Prop} (hu : Uniq ios) {i : Nat} {io : IOper} {E : Env} {d : D} (h : EnvX ios rs e0 X e) (hi : ios[i]? = some io) (hr : rs[i]? = some (E, d))
    (hY : ∀ j, Y j ↔ X j ∨ j = i) : EnvX ios rs e0 Y (setD e io.dst d) := by
  cases hd : io.dst with
  | none =>
    refine ⟨fun j jo E' d' p a b c k => ?_, fun p k => ?_⟩
    · rcases (hY j).1 a with a | rfl
      · exact h.1 j jo E' d' p a b c k
      · rw [hi] at b; cases b; rw [hd] at k; cases k
    · exact h.2 p fun j jo a b => k j jo ((hY j).2 (.inl a)) b
  | some q =>
    refine ⟨fun j jo E' d' p a b c k => ?_, fun p k => ?_⟩
    · simp only [setD, Env.get_set]
      by_cases hj : j = i
      · subst hj
        rw [hi] at b; cases b
        rw [hr] at c; cases c
        rw [hd] at k; cases k
        rw [if_pos rfl]
      · have hpq : p ≠ q := fun e => by subst e; exact hu i j io jo p (Ne.symm hj) hi b hd k
        rw [if_neg hpq]
        rcases (hY j).1 a with a | rfl
        · exact h.1 j jo E' d' p a b c k
        · exact absurd rfl hj
    · simp only [setD, Env.get_set]
      have hpq : p ≠ q := fun e => by subst e; exact k i io ((hY i).2 (.inr rfl)) hi hd
      rw [if_neg hpq]
      exact h.2 p fun j jo a b => k j jo ((hY j).2 (.inl a)) b

theorem EnvX.agree {ios : List IOper} {rs : List Rcd} {e0 e e' : Env} {X Y : Nat → Prop} (hl : rs.length = ios.length) (h : EnvX ios rs e0 X e) (k : EnvX ios rs e0 Y e') {p : Pth} (hp : ∀ j jo, ios[j]? = some jo → jo.dst = some p → (X j ↔ Y j)) : e.get p = e'.get p := by
  by_cases hx : ∃ j jo, X j ∧ ios[j]? = some jo ∧ jo.dst = some p
  · obtain ⟨j, jo, a, b, c⟩ := hx
    have hlt : j < rs.length := by rw [hl]; exact (List.getElem?_eq_some_iff.1 b).1
    obtain ⟨E, d, hr'⟩ : ∃ E d, rs[j]? = some (E, d) := ⟨(rs[j]).1, (rs[j]).2, by rw [List.getElem?_eq_getElem hlt]⟩
    rw [h.1 j jo E d p a b hr' c, k.1 j jo E d p ((hp j jo b c).1 a) b hr' c]
  · rw [h.2 p fun j jo a b c => hx ⟨j, jo, a, b, c⟩, k.2 p fun j jo a b c => hx ⟨j, jo, (hp j jo b c).2 a, b, c⟩]

theorem cnt_zero (ios : List IOper) : cnt ios 0 = 0 := by simp [cnt]
theorem cnt_cons (o : IOper) (r : List IOper) (i : Nat) : cnt (o :: r) (i + 1) = (if o.cls = 3 then 1 else 0) + cnt r i := by
  simp only [cnt, List.take_succ_cons, List.filter_cons]
  by_cases h : o.cls = 3
  · simp [h]; omega
  · simp [h]
theorem cnt_succ {ios : List IOper} {i : Nat} {io : IOper} (h : ios[i]? = some io) : cnt ios (i + 1) = cnt ios i + (if io.cls = 3 then 1 else 0) := by
  induction ios generalizing i with
  | nil => simp at h
  | cons o r ih =>
    cases i with
    | zero => simp at h; subst h; rw [cnt_cons, cnt_zero, cnt_zero]; omega
    | succ i => rw [cnt_cons, cnt_cons, ih (by simpa using h)]; omega
theorem cnt_mono (ios : List IOper) : ∀ {i j : Nat}, i ≤ j → cnt ios i ≤ cnt ios j := by
  induction ios with
  | nil => intro i j _; simp [cnt]
  | cons o r ih =>
    intro i j h
    cases i with
    | zero => rw [cnt_zero]; omega
    | succ i =>
      cases j with
      | zero => omega
      | succ j => rw [cnt_cons, cnt_cons]; have := ih (i := i) (j := j) (by omega); omega

/-- How many objects the first operations make. -/
def acnt (ios : List IOper) (i : Nat) : Nat := ((ios.take i).filter fun o => o.cls == 2).length
theorem acnt_zero (ios : List IOper) : acnt ios 0 = 0 := by simp [acnt]
theorem acnt_cons (o : IOper) (r : List IOper) (i : Nat) : acnt (o :: r) (i + 1) = (if o.cls = 2 then 1 else 0) + acnt r i := by
  simp only [acnt, List.take_succ_cons, List.filter_cons]
  by_cases h : o.cls = 2
  · simp [h]; omega
  · simp [h]
theorem acnt_succ {ios : List IOper} {i : Nat} {io : IOper} (h : ios[i]? = some io) : acnt ios (i + 1) = acnt ios i + (if io.cls = 2 then 1 else 0) := by
  induction ios generalizing i with
  | nil => simp at h
  | cons o r ih =>
    cases i with
    | zero => simp at h; subst h; rw [acnt_cons, acnt_zero, acnt_zero]; omega
    | succ i => rw [acnt_cons, acnt_cons, ih (by simpa using h)]; omega
theorem acnt_mono (ios : List IOper) : ∀ {i j : Nat}, i ≤ j → acnt ios i ≤ acnt ios j := by
  induction ios with
  | nil => intro i j _; simp [acnt]
  | cons o r ih =>
    intro i j h
    cases i with
    | zero => rw [acnt_zero]; omega
    | succ i =>
      cases j with
      | zero => omega
      | succ j => rw [acnt_cons, acnt_cons]; have := ih (i := i) (j := j) (by omega); omega

section
variable {call : D → List D → St → Option (D × St)} {pure : D → Bool}

/-- What is known of an operation's place in the text's order. -/
structure At (call : D → List D → St → Option (D × St)) (pure : D → Bool) (ss : List St) (c id : Nat) (io : IOper) (E : Env) (d : D) : Prop where
  st : ∃ s, ss[c]? = some s
  off : wantedD E io.guard = some false → d = .v undef ∧ (io.cls = 3 → ss[c + 1]? = ss[c]?)
  quiet : wantedD E io.guard = some true → io.cls ≤ 1 → ∀ s, ss[c]? = some s → evQ E s call pure io.op = some d
  alloc : wantedD E io.guard = some true → io.cls = 2 → d = .ptr id 0
  turn : wantedD E io.guard = some true → io.cls = 3 → ∀ s, ss[c]? = some s → ∃ s', evM E s call io.op = some (d, s') ∧ ss[c + 1]? = some s'
  wanted : ∃ b, wantedD E io.guard = some b

theorem lex_head : ∀ {ios : List IOper} {e : Env} {s : St} {id : Nat} {rs : List Rcd} {ss : List St} {e' : Env}, lexGo call pure ios e s id = some (rs, ss, e') → ss[0]? = some s
  | [], e, s, id, rs, ss, e', h => by cases h; rfl
  | o :: r, e, s, id, rs, ss, e', h => by
    simp only [lexGo] at h
    split at h
    · cases h
    · split at h
      · rename_i h1
        cases h
        split
        · rfl
        · exact lex_head h1
      · cases h
    · split at h
      · split at h
        · split at h
          · rename_i h1; cases h; exact lex_head h1
          · cases h
        · cases h
      · split at h
        · split at h
          · rename_i h1; cases h; exact lex_head h1
          · cases h
        · split at h
          · split at h
            · cases h; rfl
            · cases h
          · cases h

theorem At.cons {ss : List St} {s : St} {c id : Nat} {io : IOper} {E : Env} {d : D} (h : At call pure ss c id io E d) : At call pure (s :: ss) (1 + c) id io E d := by
  have e1 : ∀ k, (s :: ss)[1 + k]? = ss[k]? := fun k => by rw [Nat.add_comm]; rfl
  have e2 : (s :: ss)[1 + c + 1]? = ss[c + 1]? := by rw [show 1 + c + 1 = 1 + (c + 1) from by omega]; exact e1 _
  exact ⟨by rw [e1]; exact h.st, fun a => ⟨(h.off a).1, fun b => by rw [e1, e2]; exact (h.off a).2 b⟩, fun a b t k => h.quiet a b t (by rw [← e1]; exact k), h.alloc, fun a b t k => by
    obtain ⟨s', x, y⟩ := h.turn a b t (by rw [← e1]; exact k)
    exact ⟨s', x, by rw [e2]; exact y⟩, h.wanted⟩

/-- The text's order, operation by operation. -/
theorem lex_at : ∀ {ios : List IOper} {e : Env} {s : St} {id : Nat} {rs : List Rcd} {ss : List St} {e' : Env}, (∀ o ∈ ios, o.cls ≤ 3) → lexGo call pure ios e s id = some (rs, ss, e') →
    rs.length = ios.length ∧ ss.length = cnt ios ios.length + 1 ∧
    (∀ i io, ios[i]? = some io → ∃ E d, rs[i]? = some (E, d) ∧ At call pure ss (cnt ios i) (id + acnt ios i) io E d ∧ E = ((ios.zip rs).take i).foldl (fun e x => setD e x.1.dst x.2.2) e) ∧
    e' = (ios.zip rs).foldl (fun e x => setD e x.1.dst x.2.2) e
  | [], e, s, id, rs, ss, e', _, h => by
    cases h
    exact ⟨rfl, by simp [cnt], fun i io h => by simp at h, rfl⟩
  | o :: r, e, s, id, rs, ss, e', hc, h => by
    have hc' : ∀ o ∈ r, o.cls ≤ 3 := fun o h => hc o (by simp [h])
    have hco : o.cls ≤ 3 := hc o (by simp)
    simp only [lexGo] at h
    -- the rest, put behind
    have go : ∀ {d : D} {s1 : St} {id1 : Nat} {rs1 : List Rcd} {ss1 : List St}, lexGo call pure r (setD e o.dst d) s1 id1 = some (rs1, ss1, e') → id1 = id + (if o.cls = 2 then 1 else 0) →
        rs = (e, d) :: rs1 → ss = (if o.cls = 3 then s :: ss1 else ss1) → At call pure ss 0 id o e d →
        rs.length = (o :: r).length ∧ ss.length = cnt (o :: r) (o :: r).length + 1 ∧
        (∀ i io, (o :: r)[i]? = some io → ∃ E d, rs[i]? = some (E, d) ∧ At call pure ss (cnt (o :: r) i) (id + acnt (o :: r) i) io E d ∧ E = (((o :: r).zip rs).take i).foldl (fun e x => setD e x.1.dst x.2.2) e) ∧
        e' = ((o :: r).zip rs).foldl (fun e x => setD e x.1.dst x.2.2) e := by
      intro d s1 id1 rs1 ss1 h1 hid hrs hss hat
      obtain ⟨l1, l2, l3, l4⟩ := lex_at hc' h1
      refine ⟨by rw [hrs]; simp [l1], ?_, fun i io hi => ?_, by rw [hrs]; simpa using l4⟩
      · rw [hss, List.length_cons, cnt_cons]
        by_cases h3 : o.cls = 3
        · simp [h3, l2]; omega
        · simp [h3, l2]
      · cases i with
        | zero =>
          simp at hi
          subst hi
          refine ⟨e, d, by rw [hrs]; rfl, ?_, by simp⟩
          rw [cnt_zero, acnt_zero]
          exact hat
        | succ i =>
          obtain ⟨E, d', k1, k2, k3⟩ := l3 i io (by simpa using hi)
          refine ⟨E, d', by rw [hrs]; simpa using k1, ?_, by rw [hrs]; simpa using k3⟩
          have hid2 : id1 + acnt r i = id + acnt (o :: r) (i + 1) := by rw [acnt_cons, hid]; omega
          rw [hid2] at k2
          rw [hss, cnt_cons]
          by_cases h3 : o.cls = 3
          · simp only [h3, if_true]
            exact k2.cons
          · simp only [h3, if_false, Nat.zero_add]
            exact k2
    split at h
    · cases h
    · rename_i hw
      split at h
      · rename_i rs1 ss1 e1 h1
        cases h
        refine go h1 ?_ rfl rfl ⟨?_, fun _ => ⟨rfl, fun h3 => ?_⟩, fun a => (by rw [hw] at a; cases a), fun a => (by rw [hw] at a; cases a), fun a => (by rw [hw] at a; cases a), ⟨_, hw⟩⟩
        · split <;> omega
        · have := lex_head h1
          split
          · exact ⟨s, rfl⟩
          · exact ⟨s, this⟩
        · simp only [h3, if_true]
          have := lex_head h1
          simpa using this
      · cases h
    · rename_i hw
      split at h
      · rename_i hcl
        split at h
        · rename_i d hd
          split at h
          · rename_i rs1 ss1 e1 h1
            cases h
            have hh := lex_head h1
            refine go h1 (by rw [if_neg (by omega)]; rfl) rfl (by rw [if_neg (by omega)]) ⟨⟨s, hh⟩, fun a => (by rw [hw] at a; cases a), fun _ _ t k => ?_, fun _ a => (by omega), fun _ a => (by omega), ⟨_, hw⟩⟩
            rw [hh] at k; cases k; exact hd
          · cases h
        · cases h
      · split at h
        · rename_i hcl h2
          split at h
          · rename_i rs1 ss1 e1 h1
            cases h
            have hh := lex_head h1
            exact go h1 (by rw [if_pos h2]) rfl (by rw [if_neg (by omega)]) ⟨⟨s, hh⟩, fun a => (by rw [hw] at a; cases a), fun _ a => (by omega), fun _ _ => rfl, fun _ a => (by omega), ⟨_, hw⟩⟩
          · cases h
        · rename_i hcl h2
          split at h
          · rename_i d s1 hm
            split at h
            · rename_i rs1 ss1 e1 h1
              cases h
              have hh := lex_head h1
              have h3 : o.cls = 3 := by omega
              refine go h1 (by rw [if_neg h2]; rfl) rfl (by rw [if_pos h3]) ⟨⟨s, rfl⟩, fun a => (by rw [hw] at a; cases a), fun _ a => (by omega), fun _ a => (by omega), fun _ _ t k => ⟨s1, ?_, ?_⟩, ⟨_, hw⟩⟩
              · simp at k; subst k; exact hm
              · simpa using hh
            · cases h
          · cases h
end
end Go.Fk

/- Soundness of regions whose order is drawn: the checks, and phantoms. -/
namespace Go.Fk
open Go.RowKit (Below)

/-- Where the one is, there the other has been. -/
def Forced (ops : Array Oper) (i j : Nat) : Prop :=
  ∀ X : Nat → Prop, (∀ k o e, X k → ops[k]? = some o → e ∈ o.after → Region.binds .any e = true → X e.on) → (∀ o e, ops[i]? = some o → e ∈ o.after → Region.binds .any e = true → X e.on) → X j

structure DF (ops : Array Oper) (ios : List IOper) : Prop where
  len : ∀ i, i < ops.size → ∃ io, ios[i]? = some io
  edges : ∀ i o e, ops[i]? = some o → e ∈ o.after → Region.binds .any e = true → e.on < i
  uniq : ios.length = ops.size → Uniq ios
  reads : ∀ i j io jo p, i ≠ j → i < ops.size → j < ops.size → ios[i]? = some io → ios[j]? = some jo → jo.dst = some p → io.looks p = true → (j < i → Forced ops i j) ∧ (i < j → Forced ops j i)
  turns : ∀ (i j : Nat) (io jo : IOper), i < j → j < ops.size → ios[i]? = some io → ios[j]? = some jo → io.cls = 3 → jo.cls = 3 → Forced ops j i
  lo : ∀ i io, i < ops.size → ios[i]? = some io → io.cls = 1 ∨ io.cls = 2 → io.lo = 0 ∨ ∃ a ao, ios[a]? = some ao ∧ ao.cls = 3 ∧ cnt ios a + 1 = io.lo ∧ Forced ops i a
  hi : ∀ i io, i < ops.size → ios[i]? = some io → io.cls = 1 ∨ io.cls = 2 → io.hi = cnt ios ops.size ∨ ∃ b bo, ios[b]? = some bo ∧ bo.cls = 3 ∧ cnt ios b = io.hi ∧ Forced ops b i

theorem drawChk_facts {ops : Array Oper} {ios : List IOper} {ms : List Nat} (h : drawChk ops ios ms = true) : DF ops ios := by
  unfold drawChk at h
  rw [List.all_eq_true] at h
  have one : ∀ i, i < ops.size → ∃ o io, ops[i]? = some o ∧ ios[i]? = some io ∧
      (∀ e ∈ o.after, Region.binds .any e = true → e.on < i) ∧ (∀ j, j < ops.size → bit ms i j = true → ∃ e ∈ o.after, Region.binds .any e = true ∧ (e.on = j ∨ bit ms e.on j = true)) ∧
      (∀ j, j < ops.size → j ≠ i → ∃ jo, ios[j]? = some jo ∧ (io.dst.isSome = true → io.dst ≠ jo.dst) ∧ (∀ p, jo.dst = some p → io.looks p = true → if j < i then bit ms i j = true else bit ms j i = true) ∧
        (io.cls = 3 → jo.cls = 3 → i < j → bit ms j i = true)) ∧
      (io.cls = 1 ∨ io.cls = 2 → (io.lo = 0 ∨ ∃ a ao, a < ops.size ∧ ios[a]? = some ao ∧ ao.cls = 3 ∧ cnt ios a + 1 = io.lo ∧ bit ms i a = true) ∧
        (io.hi = cnt ios ops.size ∨ ∃ b bo, b < ops.size ∧ ios[b]? = some bo ∧ bo.cls = 3 ∧ cnt ios b = io.hi ∧ bit ms b i = true)) := by
    intro i hi
    have := h i (List.mem_range.2 hi)
    split at this
    · rename_i o io ho hio
      refine ⟨o, io, ho, hio, ?_⟩
      simp only [Bool.and_eq_true] at this
      obtain ⟨⟨⟨h1, h2⟩, h3⟩, h4⟩ := this
      refine ⟨fun e he hb => ?_, fun j hj hbit => ?_, fun j hj hne => ?_, fun hcl => ?_⟩
      · have := List.all_eq_true.1 h1 e (by simpa using he)
        simpa [hb] using this
      · have := List.all_eq_true.1 h2 j (List.mem_range.2 hj)
        simp only [hbit, Bool.not_true, Bool.false_or, List.any_eq_true, Bool.and_eq_true, Bool.or_eq_true, beq_iff_eq] at this
        obtain ⟨e, he, hb, hh⟩ := this
        exact ⟨e, by simpa using he, hb, hh⟩
      · have := List.all_eq_true.1 h3 j (List.mem_range.2 hj)
        simp only [Bool.or_eq_true, beq_iff_eq, hne, false_or] at this
        split at this
        · rename_i jo hjo
          simp only [Bool.and_eq_true] at this
          obtain ⟨⟨k1, k2⟩, k3⟩ := this
          refine ⟨jo, hjo, fun hs heq => ?_, fun p hp hl => ?_, fun a b c => ?_⟩
          · rw [hs, heq] at k1
            simp at k1
          · rw [hp] at k2
            simp only [hl, Bool.not_true, Bool.false_or] at k2
            split at k2
            · rename_i hlt; rw [if_pos hlt]; exact k2
            · rename_i hlt; rw [if_neg hlt]; exact k2
          · simpa [a, b, c] using k3
        · cases this
      · have hne : ((io.cls == 0) || (io.cls == 3)) = false := by rcases hcl with hh | hh <;> simp [hh]
        rw [hne, Bool.false_or, Bool.and_eq_true] at h4
        obtain ⟨k1, k2⟩ := h4
        constructor
        · rw [Bool.or_eq_true] at k1
          rcases k1 with k1 | k1
          · exact .inl (by simpa using k1)
          · rw [List.any_eq_true] at k1
            obtain ⟨a, ha, hh⟩ := k1
            simp only [Bool.and_eq_true, beq_iff_eq] at hh
            obtain ⟨⟨q1, q2⟩, q3⟩ := hh
            split at q1
            · rename_i ao hao
              exact .inr ⟨a, ao, List.mem_range.1 ha, hao, by simpa using q1, q2, q3⟩
            · cases q1
        · rw [Bool.or_eq_true] at k2
          rcases k2 with k2 | k2
          · exact .inl (by simpa using k2)
          · rw [List.any_eq_true] at k2
            obtain ⟨a, ha, hh⟩ := k2
            simp only [Bool.and_eq_true, beq_iff_eq] at hh
            obtain ⟨⟨q1, q2⟩, q3⟩ := hh
            split at q1
            · rename_i ao hao
              exact .inr ⟨a, ao, List.mem_range.1 ha, hao, by simpa using q1, q2, q3⟩
            · cases q1
    · cases this
  have forced : ∀ i, i < ops.size → ∀ j, j < ops.size → bit ms i j = true → Forced ops i j := by
    intro i
    induction i using Nat.strongRecOn with
    | _ i ih =>
      intro hi j hj hb X hX hE
      obtain ⟨o, io, ho, hio, k1, k2, _⟩ := one i hi
      obtain ⟨e, he, hbd, hh⟩ := k2 j hj hb
      have hlt := k1 e he hbd
      have hXe : X e.on := hE o e ho he hbd
      rcases hh with hh | hh
      · rw [← hh]; exact hXe
      · exact ih e.on hlt (by omega) j hj hh X hX fun o' e' ho' he' hb' => hX e.on o' e' hXe ho' he' hb'
  refine ⟨fun i hi => ?_, fun i o e ho he hb => ?_, fun hl i j io jo p hne hi hj hp => ?_, fun i j io jo p hne hi hj hio hjo hp hl => ?_, fun i j io jo hlt hj hio hjo a b => ?_, fun i io hi hio hcl => ?_, fun i io hi hio hcl => ?_⟩
  · obtain ⟨o, io, _, hio, _⟩ := one i hi
    exact ⟨io, hio⟩
  · have hi : i < ops.size := (Array.getElem?_eq_some_iff.1 ho).1
    obtain ⟨o', io, ho', hio, k1, _⟩ := one i hi
    rw [ho] at ho'; cases ho'
    exact k1 e he hb
  · have hi' : i < ops.size := by rw [← hl]; exact (List.getElem?_eq_some_iff.1 hi).1
    have hj' : j < ops.size := by rw [← hl]; exact (List.getElem?_eq_some_iff.1 hj).1
    obtain ⟨o', io', ho', hio, _, _, k3, _⟩ := one i hi'
    rw [hi] at hio; cases hio
    obtain ⟨jo', hjo, k4, _⟩ := k3 j hj' (Ne.symm hne)
    rw [hj] at hjo; cases hjo
    rw [hp] at k4
    exact fun hh => k4 rfl hh.symm
  · obtain ⟨o', io', ho', hio', _, _, k3, _⟩ := one i hi
    rw [hio] at hio'; cases hio'
    obtain ⟨jo', hjo', _, k5, _⟩ := k3 j hj (Ne.symm hne)
    rw [hjo] at hjo'; cases hjo'
    have := k5 p hp hl
    exact ⟨fun hlt => forced i hi j hj (by rw [if_pos hlt] at this; exact this), fun hlt => forced j hj i hi (by rw [if_neg (by omega)] at this; exact this)⟩
  · obtain ⟨o', io', ho', hio', _, _, k3, _⟩ := one i (by omega)
    rw [hio] at hio'; cases hio'
    obtain ⟨jo', hjo', _, _, k6⟩ := k3 j hj (by omega)
    rw [hjo] at hjo'; cases hjo'
    exact forced j hj i (by omega) (k6 a b hlt)
  · obtain ⟨o', io', ho', hio', _, _, _, k7⟩ := one i hi
    rw [hio] at hio'; cases hio'
    rcases (k7 hcl).1 with hh | ⟨a, ao, ha, x, y, z, u⟩
    · exact .inl hh
    · exact .inr ⟨a, ao, x, y, z, forced i hi a ha u⟩
  · obtain ⟨o', io', ho', hio', _, _, _, k7⟩ := one i hi
    rw [hio] at hio'; cases hio'
    rcases (k7 hcl).2 with hh | ⟨a, ao, ha, x, y, z, u⟩
    · exact .inl hh
    · exact .inr ⟨a, ao, x, y, z, forced a ha i hi u⟩

/-! ### Objects that are not there yet -/
section
variable {P : Program} {g : G} {B : Nat} {w0 : Base} {w : World} {s : St}

theorem Inv.phantom (h : Inv g B w0 s w) (o : O) : Inv g B w0 (s.push o) w :=
  { h with
    hl := by simp [St.push, h.hl]
    obj := fun i x b e k => h.obj i x b (by
      simp only [St.get, St.push, getR_cons] at e
      have := (h.dom i b k).1
      rw [if_neg (by omega)] at e
      exact e) k
    dom := fun i b e => ⟨by have := (h.dom i b e).1; simp [St.push]; omega, (h.dom i b e).2⟩ }

/-- An object comes to be that the state has had already. -/
theorem Inv.bindNew (h : Inv g B w0 s w) {id : Nat} (hid : id < s.hn) (hb : g.blk id = none) {ds : List D} (hg : s.get id = some (.cells ds)) {cs : Array Value} (e : TypeId) (hr : RepL g ds cs.toList) (hs : ds.all (·.single) = true) :
    Inv (g.bind id w.heap.size) B w0 s (w.alloc (.cells cs e)) := by
  have hle : g.le (g.bind id w.heap.size) := G.le_bind hb
  have ha := h.alloc (.cells cs e)
  refine { hl := h.hl, tl := h.tl, imm := ha.imm, obj := ?_, inj := ?_, immblk := ?_, dom := ?_, tokdom := h.tokdom, tokok := fun t n sz k => ?_, tokblk := ?_, hB := h.hB, sym := h.sym, below := ha.below }
  · intro i y b k l
    simp only [G.bind] at l
    by_cases hi : i = id
    · subst hi
      simp only [if_true] at l
      cases l
      rw [hg] at k
      cases k
      exact ⟨cs, e, alloc_last, hr.mono hle, hs⟩
    · simp only [hi, if_false] at l
      exact (ha.obj i y b k l).mono hle
  · intro i j b k l
    simp only [G.bind] at k l
    by_cases hi : i = id <;> by_cases hj : j = id
    · omega
    · simp only [hi, hj, if_true, if_false] at k l
      cases k
      exact absurd (h.dom j _ l).2.2 (Nat.lt_irrefl _)
    · simp only [hi, hj, if_true, if_false] at k l
      cases l
      exact absurd (h.dom i _ k).2.2 (Nat.lt_irrefl _)
    · simp only [hi, hj, if_false] at k l
      exact h.inj i j b k l
  · intro i b j v k l
    simp only [G.bind] at k
    by_cases hi : i = id
    · simp only [hi, if_true] at k
      cases k
      exact absurd (h.imm_lt l) (Nat.lt_irrefl _)
    · simp only [hi, if_false] at k
      exact h.immblk i b j v k l
  · intro i b k
    simp only [G.bind] at k
    by_cases hi : i = id
    · simp only [hi, if_true] at k
      cases k
      exact ⟨by omega, h.B_le, by simp⟩
    · simp only [hi, if_false] at k
      have := h.dom i b k
      exact ⟨this.1, this.2.1, by simp; omega⟩
  · exact (ha.tokok t n sz k).imm_mono (fun _ => rfl) (fun _ _ _ _ => ⟨fun _ _ _ k => k, rfl⟩)
  · intro t n sz v b k l r
    have := h.tokblk t n sz v b k l r
    refine ⟨this.1, fun i hi => ?_, this.2.2⟩
    simp only [G.bind] at hi
    by_cases hh : i = id
    · simp only [hh, if_true] at hi
      cases hi
      exact absurd (tok_heap (h.tokok t n sz k) l r) (Nat.lt_irrefl _)
    · simp only [hh, if_false] at hi
      exact this.2.1 i hi
end

theorem countP_lt {p q : Nat → Bool} : ∀ (l : List Nat) {x : Nat}, x ∈ l → p x = true → q x = false → (∀ y, q y = true → p y = true) → l.countP q < l.countP p
  | a :: l, x, hx, hp, hq, h => by
    rw [List.countP_cons, List.countP_cons]
    have hm : l.countP q ≤ l.countP p := List.countP_mono_left fun y _ hy => h y hy
    rcases List.mem_cons.1 hx with rfl | hx
    · simp [hp, hq]; omega
    · have := countP_lt l hx hp hq h
      by_cases ha : q a = true
      · simp [ha, h a ha]; omega
      · simp [ha]
        split <;> omega
  | [], x, hx, _, _, _ => by cases hx

theorem cnt_hit {ios : List IOper} : ∀ {i q : Nat}, i ≤ ios.length → q < cnt ios i → ∃ j jo, j < i ∧ ios[j]? = some jo ∧ jo.cls = 3 ∧ cnt ios j = q
  | 0, q, _, h => by rw [cnt_zero] at h; omega
  | i + 1, q, hi, h => by
    have hio : ios[i]? = some ios[i] := List.getElem?_eq_getElem (by omega)
    rw [cnt_succ hio] at h
    rcases Nat.lt_or_ge q (cnt ios i) with hq | hq
    · obtain ⟨j, jo, a, b, c, d⟩ := cnt_hit (i := i) (by omega) hq
      exact ⟨j, jo, by omega, b, c, d⟩
    · split at h
      · rename_i h3
        exact ⟨i, _, by omega, hio, h3, by omega⟩
      · omega
end Go.Fk

/- Soundness of regions whose order is drawn: every order. -/
namespace Go.Fk
open Go.RowKit (Below)

theorem lex_envx {ios : List IOper} {rs : List Rcd} {e0 : Env} (hl : rs.length = ios.length) (hu : Uniq ios) : ∀ i, i ≤ ios.length → EnvX ios rs e0 (· < i) (((ios.zip rs).take i).foldl (fun e x => setD e x.1.dst x.2.2) e0)
  | 0, _ => by simpa using EnvX.nil (ios := ios) (rs := rs) (e0 := e0) (X := (· < 0)) (fun j => by simp)
  | i + 1, h => by
    have hlt : i < ios.length := by omega
    have ih := lex_envx hl hu (e0 := e0) i (by omega)
    have hz : (ios.zip rs)[i]? = some (ios[i], rs[i]) := by
      rw [List.getElem?_zip_eq_some]
      exact ⟨List.getElem?_eq_getElem hlt, List.getElem?_eq_getElem (by omega)⟩
    rw [List.take_add_one, hz, Option.toList_some, List.foldl_append, List.foldl_cons, List.foldl_nil]
    exact ih.step hu (List.getElem?_eq_getElem hlt) (show rs[i]? = some ((rs[i]).1, (rs[i]).2) by rw [List.getElem?_eq_getElem (by omega)]) (fun j => by omega)

section
variable {call : D → List D → St → Option (D × St)} {pure : D → Bool}

theorem chk_at {ss : List St} : ∀ {ios : List IOper} {rs : List Rcd} {c : Nat}, chkAll call pure ss ios rs c = true → rs.length = ios.length → ∀ i io E d, ios[i]? = some io → rs[i]? = some (E, d) → io.cls = 1 ∨ io.cls = 2 → wantedD E io.guard = some true →
    ∀ k, io.lo ≤ k → k ≤ io.hi → (io.cls = 1 ∧ k = c + cnt ios i) ∨ ∃ s, ss[k]? = some s ∧ sameAt call pure io E d s = true
  | [], rs, c, h, hl, i, io, E, d, hi, _, _, _, _, _, _ => by simp at hi
  | o :: r, [], c, h, hl, i, io, E, d, hi, hr, _, _, _, _, _ => by simp at hr
  | o :: r, (e, d0) :: rs, c, h, hl, i, io, E, d, hi, hr, hcl, hw, k, hlo, hhi => by
    simp only [chkAll, Bool.and_eq_true] at h
    obtain ⟨h1, h2⟩ := h
    cases i with
    | zero =>
      simp at hi hr
      subst hi
      obtain ⟨rfl, rfl⟩ := hr
      have hne : ((o.cls == 0) || (o.cls == 3)) = false := by rcases hcl with hh | hh <;> simp [hh]
      rw [hne, Bool.false_or, hw] at h1
      simp only at h1
      have := List.all_eq_true.1 h1 k (List.mem_range.2 (by omega))
      have hnl : ¬ k < o.lo := by omega
      simp only [hnl, decide_false, Bool.false_or, Bool.or_eq_true, Bool.and_eq_true, beq_iff_eq] at this
      rcases this with this | this
      · left; rw [cnt_zero]; exact ⟨this.1, by omega⟩
      · split at this
        · rename_i s hs; exact .inr ⟨s, hs, this⟩
        · cases this
    | succ i =>
      rw [cnt_cons]
      rcases chk_at h2 (by simpa using hl) i io E d (by simpa using hi) (by simpa using hr) hcl hw k hlo hhi with ⟨a, b⟩ | hh
      · left
        refine ⟨a, ?_⟩
        split at b
        · rename_i h3; rw [if_pos h3]; omega
        · rename_i h3; rw [if_neg h3]; omega
      · exact .inr hh

theorem preAlloc_hn : ∀ (ios : List IOper) (s : St), (∀ o ∈ ios, (o.cls = 2 ↔ ∃ zs, o.op = .alloc zs)) → (preAlloc ios s).hn = s.hn + acnt ios ios.length
  | [], s, _ => by simp [preAlloc, acnt]
  | o :: r, s, h => by
    have h' := fun o ho => h o (List.mem_cons_of_mem _ ho)
    have h0 := h o (by simp)
    rw [List.length_cons, acnt_cons]
    simp only [preAlloc]
    split
    · rename_i zs hz
      rw [preAlloc_hn r _ h', if_pos (h0.2 ⟨zs, hz⟩)]
      simp [St.push]; omega
    · rename_i hz
      rw [preAlloc_hn r _ h', if_neg (fun k => by obtain ⟨zs, e⟩ := h0.1 k; exact hz zs e)]
      omega
end

theorem preAlloc_inv {g : G} {B : Nat} {w0 : Base} {w : World} : ∀ (ios : List IOper) (s : St), Inv g B w0 s w → Inv g B w0 (preAlloc ios s) w
  | [], s, h => h
  | o :: r, s, h => by
    simp only [preAlloc]
    split
    · exact preAlloc_inv r _ (h.phantom _)
    · exact preAlloc_inv r _ h

section
variable {P : Program} {B : Nat} {w0 : Base} {nt : Nat}

/-- Where an order, whichever, has come to. -/
structure IX (B : Nat) (w0 : Base) (nt : Nat) (ops : Array Oper) (ios : List IOper) (rs : List Rcd) (ss : List St) (e0 : Env) (id0 : Nat) (g0 : G) (dfl : List (D × List D)) (X : Nat → Prop) (g : G) (e : Env) (a : Act) (w : World) (q : Nat) : Prop where
  closed : ∀ k o ed, X k → ops[k]? = some o → ed ∈ o.after → Region.binds .any ed = true → X ed.on
  envx : EnvX ios rs e0 X e
  env : EnvRep g e a.tmps
  qs : ∀ j jo, ios[j]? = some jo → jo.cls = 3 → (X j ↔ cnt ios j < q)
  inv : ∃ s, ss[q]? = some s ∧ Inv g B w0 s w
  ph : ∀ i io, ios[i]? = some io → io.cls = 2 → ¬ X i → g.blk (id0 + acnt ios i) = none
  sz : nt ≤ a.tmps.size
  dfs : Dfs g dfl a.defers
  ext : Ext id0 g0 g

theorem any_sound (hnt : nt ≤ 4294967296) {call : D → List D → St → Option (D × St)} {pure : D → Bool} (hc : CallOk P B w0 call pure) {kind : FuncId → Nat} {mt : Nat → Bool} {ops : Array Oper} {ios ios0 : List IOper} {rs : List Rcd} {ss : List St} {e0 e1 : Env}
    {id0 : Nat} {s0 : St} {g0 : G} {dfl : List (D × List D)} {Q : Exit → Act → World → Prop} (hdf : DF ops ios) (hlen : ios.length = ops.size) (hops : ∀ i o io, ops[i]? = some o → ios[i]? = some io → ∃ io0, cOper P nt kind mt ops i o = some io0 ∧ io.dst = io0.dst ∧ io.op = io0.op ∧ io.guard = io0.guard ∧ io.cls = io0.cls)
    (hlex : lexGo call pure ios e0 s0 id0 = some (rs, ss, e1)) (hchk : chkAll call pure ss ios rs 0 = true) (hhn : ∀ s ∈ ss, id0 + acnt ios ios.length ≤ s.hn)
    (hQ : ∀ a w g s, ss.getLast? = some s → Ext id0 g0 g → EnvRep g e1 a.tmps → Inv g B w0 s w → nt ≤ a.tmps.size → Dfs g dfl a.defers → Q .normal a w) :
    ∀ (fuel : Nat) (listed : Array Bool) (a : Act) (w : World) (g : G) (e : Env) (q : Nat), listed.size = ops.size → (List.range ops.size).countP (fun j => !listed.getD j false) ≤ fuel →
      IX B w0 nt ops ios rs ss e0 id0 g0 dfl (fun j => listed.getD j false = true) g e a w q → wpAny P .any ops Q fuel listed a w := by
  have hcls : ∀ (i : Nat) (io : IOper), ios[i]? = some io → io.cls = clsOf kind io.op := fun i io hi => by
    have hlt : i < ops.size := by rw [← hlen]; exact (List.getElem?_eq_some_iff.1 hi).1
    obtain ⟨io0, h1, h2, h3, h4, h5⟩ := hops i ops[i] io (Array.getElem?_eq_getElem hlt) hi
    rw [h5, h3]
    unfold cOper at h1
    split at h1
    · cases h1
    · dsimp only at h1
      split at h1
      · cases h1
      · split at h1
        · cases h1; rfl
        · cases h1
  have hcls3 : ∀ o ∈ ios, o.cls ≤ 3 := fun o ho => by
    obtain ⟨i, hi⟩ := List.mem_iff_getElem?.1 ho
    rw [hcls i o hi]
    cases o.op <;> simp [clsOf]
    rename_i f args
    cases f <;> simp
    split <;> omega
  have hu : Uniq ios := hdf.uniq hlen
  obtain ⟨hrl, hsl, hat, he1⟩ := lex_at hcls3 hlex
  -- nothing left: the end
  have done : ∀ (listed : Array Bool) (a : Act) (w : World) (g : G) (e : Env) (q : Nat), IX B w0 nt ops ios rs ss e0 id0 g0 dfl (fun j => listed.getD j false = true) g e a w q → (∀ j, j < ops.size → listed.getD j false = true) → Q .normal a w := by
    intro listed a w g e q hx hall
    obtain ⟨s, hs, hinv⟩ := hx.inv
    have hq : q = cnt ios ios.length := by
      have hlt : q < ss.length := (List.getElem?_eq_some_iff.1 hs).1
      rw [hsl] at hlt
      rcases Nat.lt_or_ge q (cnt ios ios.length) with hh | hh
      · obtain ⟨j, jo, a1, a2, a3, a4⟩ := cnt_hit (Nat.le_refl _) hh
        have := (hx.qs j jo a2 a3).1 (hall j (by omega))
        omega
      · omega
    refine hQ a w g s ?_ hx.ext (fun t => ?_) hinv hx.sz hx.dfs
    · rw [List.getLast?_eq_getElem?, hsl]
      rw [show cnt ios ios.length + 1 - 1 = q from by omega]
      exact hs
    · have h1 := lex_envx (e0 := e0) hrl hu ios.length (Nat.le_refl _)
      have hzl : (ios.zip rs).length = ios.length := by simp [hrl]
      rw [← hzl, List.take_length, ← he1] at h1
      rw [hzl] at h1
      have := EnvX.agree hrl h1 hx.envx (p := pth t) (fun j jo hj _ => by
        have : j < ios.length := (List.getElem?_eq_some_iff.1 hj).1
        exact ⟨fun _ => hall j (by omega), fun _ => this⟩)
      rw [this]
      exact hx.env t
  have nothing : ∀ (listed : Array Bool), listed.size = ops.size → Region.ready .any ops listed = [] → ∀ j, j < ops.size → listed.getD j false = true := by
    intro listed hsz hr j
    induction j using Nat.strongRecOn with
    | _ j ih =>
      intro hj
      cases hh : listed.getD j false with
      | true => rfl
      | false =>
        exfalso
        have : j ∈ Region.ready .any ops listed := mem_ready.2 ⟨by
          have hlt : j < listed.size := by omega
          simp only [Array.getD_eq_getD_getElem?, Array.getElem?_eq_getElem hlt, Option.getD_some] at hh ⊢
          exact hh, ops[j], Array.getElem?_eq_getElem hj, fun ed hed hb => by
          have := hdf.edges j _ ed (Array.getElem?_eq_getElem hj) hed hb
          exact ih ed.on this (by omega)⟩
        rw [hr] at this
        cases this
  intro fuel
  induction fuel with
  | zero =>
    intro listed a w g e q hsz hcount hx
    have hall : ∀ j, j < ops.size → listed.getD j false = true := fun j hj => by
      have : (List.range ops.size).countP (fun j => !listed.getD j false) = 0 := by omega
      have := List.countP_eq_zero.1 this j (List.mem_range.2 hj)
      simpa using this
    refine ⟨?_, done listed a w g e q hx hall⟩
    cases hr : Region.ready .any ops listed with
    | nil => rfl
    | cons i r =>
      exfalso
      have hi : i ∈ Region.ready .any ops listed := by rw [hr]; simp
      obtain ⟨h0, o, ho, _⟩ := mem_ready.1 hi
      have hlt : i < ops.size := (Array.getElem?_eq_some_iff.1 ho).1
      have := hall i hlt
      have hls : i < listed.size := by omega
      simp only [Array.getD_eq_getD_getElem?, Array.getElem?_eq_getElem hls, Option.getD_some] at h0 this
      rw [h0] at this
      cases this
  | succ fuel ihf =>
    intro listed a w g e q hsz hcount hx
    refine ⟨fun hr => done listed a w g e q hx (nothing listed hsz hr), fun i hi => ?_⟩
    obtain ⟨h0, o, ho, hedges⟩ := mem_ready.1 hi
    have hlt : i < ops.size := (Array.getElem?_eq_some_iff.1 ho).1
    have hls : i < listed.size := by omega
    have hni : listed.getD i false = false := by
      simp only [Array.getD_eq_getD_getElem?, Array.getElem?_eq_getElem hls, Option.getD_some] at h0 ⊢
      exact h0
    have hnX : ¬ listed.getD i false = true := by rw [hni]; simp
    obtain ⟨io, hio⟩ := hdf.len i hlt
    obtain ⟨io0, hop, hdst, hopr, hgd, hclse⟩ := hops i o io ho hio
    obtain ⟨E, d, hrd, hAt, hE⟩ := hat i io hio
    -- forced before, forced behind
    have before : ∀ j, Forced ops i j → listed.getD j false = true := fun j hF =>
      hF (fun j => listed.getD j false = true) hx.closed (fun o' ed ho' hed hb => by rw [ho] at ho'; cases ho'; exact hedges ed hed hb)
    have behind : ∀ j, Forced ops j i → ¬ listed.getD j false = true := fun j hF hj => hnX (hF (fun j => listed.getD j false = true) hx.closed (fun o' ed ho' hed hb => hx.closed j o' ed hj ho' hed hb))
    have hlex_i := lex_envx (e0 := e0) hrl hu i (by omega)
    rw [← hE] at hlex_i
    have agree : ∀ p, io.looks p = true → e.get p = E.get p := fun p hp => EnvX.agree hrl hx.envx hlex_i (fun j jo hj hjd => by
      have hjl : j < ops.size := by rw [← hlen]; exact (List.getElem?_eq_some_iff.1 hj).1
      rcases Nat.lt_trichotomy j i with hh | hh | hh
      · have := (hdf.reads i j io jo p (by omega) hlt hjl hio hj hjd hp).1 hh
        exact ⟨fun _ => hh, fun _ => before j this⟩
      · subst hh
        exact ⟨fun k => absurd k hnX, fun k => by omega⟩
      · have := (hdf.reads i j io jo p (by omega) hlt hjl hio hj hjd hp).2 hh
        exact ⟨fun k => absurd k (behind j this), fun k => by omega⟩)
    have opds : ∀ x ∈ io.op.opds, x.ev e = x.ev E := fun x hxm => by
      cases x with
      | t p =>
        exact agree p (by
          simp only [IOper.looks, Bool.or_eq_true, List.any_eq_true]
          exact .inl ⟨_, hxm, by simp⟩)
      | _ => rfl
    have hwe : wantedD e io.guard = wantedD E io.guard := by
      cases hg : io.guard with
      | none => rfl
      | some pb =>
        obtain ⟨p, b⟩ := pb
        have := agree p (by simp [IOper.looks, hg])
        simp only [wantedD, this]
    obtain ⟨s, hs, hinv⟩ := hx.inv
    have hqm : q ≤ cnt ios ops.size := by
      have := (List.getElem?_eq_some_iff.1 hs).1
      rw [hsl, hlen] at this
      omega
    -- the next place
    have hcountN : (List.range ops.size).countP (fun j => !(listed.setIfInBounds i true).getD j false) ≤ fuel := by
      have := countP_lt (p := fun j => !listed.getD j false) (q := fun j => !(listed.setIfInBounds i true).getD j false) (List.range ops.size) (List.mem_range.2 hlt) (by simp [hni]) (by simp [hls]) (fun y hy => by
        by_cases hyi : i = y
        · subst hyi; simp [hls] at hy
        · rw [getD_set_ne false hyi] at hy; exact hy)
      omega
    have hX' : ∀ j, ((listed.setIfInBounds i true).getD j false = true) ↔ (listed.getD j false = true ∨ j = i) := fun j => by
      by_cases hji : i = j
      · subst hji; simp [hls]
      · rw [getD_set_ne false hji]
        exact ⟨.inl, fun hh => hh.resolve_right (fun k => hji k.symm)⟩
    have hsmem : s ∈ ss := List.mem_of_getElem? hs
    have next : ∀ {q' : Nat} {s' : St} {a' : Act} {w' : World} {g' : G}, (∀ j jo, ios[j]? = some jo → jo.cls = 3 → ((listed.getD j false = true ∨ j = i) ↔ cnt ios j < q')) → ss[q']? = some s' → g.le g' → Ext id0 g g' → (∀ j, j < s.hn → j ≠ id0 + acnt ios i ∨ io.cls ≠ 2 → g'.blk j = g.blk j) →
        EnvRep g' (setD e io.dst d) a'.tmps → Inv g' B w0 s' w' → nt ≤ a'.tmps.size → Dfs g' dfl a'.defers → wpAny P .any ops Q fuel (listed.setIfInBounds i true) a' w' := by
      intro q' s' a' w' g' hq' hs' hle hext hblk henv hinv' hsz' hdf'
      refine ihf _ a' w' g' (setD e io.dst d) q' (by simpa using hsz) hcountN ⟨?_, ?_, henv, ?_, ⟨s', hs', hinv'⟩, ?_, hsz', hdf', hx.ext.trans hext (Nat.le_refl _)⟩
      · intro k o' ed hk ho' hed hb
        rw [hX'] at hk ⊢
        rcases hk with hk | rfl
        · exact .inl (hx.closed k o' ed hk ho' hed hb)
        · rw [ho] at ho'; cases ho'
          exact .inl (hedges ed hed hb)
      · exact hx.envx.step hu hio hrd hX'
      · intro j jo hj h3
        rw [hX']
        exact hq' j jo hj h3
      · intro j jo hj h2 hnx
        rw [hX'] at hnx
        have hjl : j < ios.length := (List.getElem?_eq_some_iff.1 hj).1
        have hlt2 : id0 + acnt ios j < s.hn := by
          have h1 := hhn s hsmem
          have h2' := acnt_succ hj
          rw [if_pos h2] at h2'
          have h3 := acnt_mono ios (i := j + 1) (j := ios.length) (by omega)
          omega
        rw [hblk _ hlt2 ?_]
        · exact hx.ph j jo hj h2 (fun k => hnx (.inl k))
        · by_cases hcl2 : io.cls = 2
          · left
            have hne : j ≠ i := fun k => hnx (.inr k)
            rcases Nat.lt_or_gt_of_ne hne with hh | hh
            · have a1 := acnt_succ hj
              rw [if_pos h2] at a1
              have a2 := acnt_mono ios (i := j + 1) (j := i) (by omega)
              omega
            · have a1 := acnt_succ hio
              rw [if_pos hcl2] at a1
              have a2 := acnt_mono ios (i := i + 1) (j := j) (by omega)
              omega
          · exact .inr hcl2
    -- operations that leave the state to itself
    have qsame : io.cls ≠ 3 → ∀ j jo, ios[j]? = some jo → jo.cls = 3 → ((listed.getD j false = true ∨ j = i) ↔ cnt ios j < q) := fun hne j jo hj h3 => by
      rw [← hx.qs j jo hj h3]
      exact ⟨fun hh => hh.resolve_right (fun k => by subst k; rw [hio] at hj; cases hj; exact hne h3), .inl⟩
    have hq3 : io.cls = 3 → q = cnt ios i := fun h3 => by
      have h1 : ¬ cnt ios i < q := fun hh => hnX ((hx.qs i io hio h3).2 hh)
      rcases Nat.lt_or_ge q (cnt ios i) with hh | hh
      · obtain ⟨j, jo, a1, a2, a3, a4⟩ := cnt_hit (i := i) (by omega) hh
        have hF := hdf.turns j i jo io a1 hlt a2 hio a3 h3
        have := (hx.qs j jo a2 a3).1 (before j hF)
        omega
      · omega
    have qnext : io.cls = 3 → ∀ j jo, ios[j]? = some jo → jo.cls = 3 → ((listed.getD j false = true ∨ j = i) ↔ cnt ios j < q + 1) := fun h3 j jo hj hj3 => by
      have hqq := hq3 h3
      constructor
      · rintro (hh | rfl)
        · have := (hx.qs j jo hj hj3).1 hh; omega
        · omega
      · intro hh
        rcases Nat.lt_or_ge (cnt ios j) q with hk | hk
        · exact .inl ((hx.qs j jo hj hj3).2 hk)
        · right
          have hce : cnt ios j = cnt ios i := by omega
          rcases Nat.lt_trichotomy j i with k | k | k
          · have a1 := cnt_succ hj
            rw [if_pos hj3] at a1
            have := cnt_mono ios (i := j + 1) (j := i) (by omega)
            omega
          · exact k
          · have a1 := cnt_succ hio
            rw [if_pos h3] at a1
            have := cnt_mono ios (i := i + 1) (j := j) (by omega)
            omega
    have lohi : io.cls = 1 ∨ io.cls = 2 → io.lo ≤ q ∧ q ≤ io.hi := fun hcl => by
      constructor
      · rcases hdf.lo i io hlt hio hcl with hh | ⟨b, bo, b1, b2, b3, b4⟩
        · omega
        · have := (hx.qs b bo b1 b2).1 (before b b4)
          omega
      · rcases hdf.hi i io hlt hio hcl with hh | ⟨b, bo, b1, b2, b3, b4⟩
        · omega
        · have h1 := behind b b4
          have : ¬ cnt ios b < q := fun hh => h1 ((hx.qs b bo b1 b2).2 hh)
          omega
    have hf : FrOk B w0 nt g { env := e, defers := dfl, st := s } a w := ⟨hx.env, hinv, hx.sz, hx.dfs⟩
    have hid : id0 ≤ s.hn := by have := hhn s hsmem; omega
    -- by one step
    have by1 : ∀ {d' : D} {s' : St} {q' : Nat}, d' = d → step1 call pure io { env := e, defers := dfl, st := s } = some { env := setD e io.dst d', defers := dfl, st := s' } → ss[q']? = some s' →
        (∀ j jo, ios[j]? = some jo → jo.cls = 3 → ((listed.getD j false = true ∨ j = i) ↔ cnt ios j < q')) → wpOp P ops Q i (wpAny P .any ops Q fuel (listed.setIfInBounds i true)) a w := by
      intro d' s' q' hd' hst hs' hq'
      subst hd'
      have hst0 : step1 call pure io0 { env := e, defers := dfl, st := s } = some { env := setD e io.dst d', defers := dfl, st := s' } := by
        unfold step1 at hst ⊢
        rw [← hdst, ← hopr, ← hgd, ← hclse]
        exact hst
      have key := step_sound (P := P) (Q := Q) hnt hc hop hf hst0 (K := wpAny P .any ops Q fuel (listed.setIfInBounds i true)) (fun a' w' g' he hf' =>
        next (q' := q') (s' := s') (a' := a') (w' := w') (g' := g') hq' hs' he.le ⟨he.le, fun j hj => he.blk j (by show j < s.hn; omega)⟩ (fun j hj _ => he.blk j hj) hf'.env hf'.inv hf'.sz hf'.dfs)
      unfold wpOp
      rw [ho]
      simp only
      split at key
      · rename_i hw; rw [if_pos hw]; exact .inl key
      · rename_i hw; rw [if_neg hw]; exact key
    obtain ⟨b, hb⟩ := hAt.wanted
    cases b with
    | false =>
      obtain ⟨hdu, hoff⟩ := hAt.off hb
      have hstep : step1 call pure io { env := e, defers := dfl, st := s } = some { env := setD e io.dst (.v undef), defers := dfl, st := s } := by
        unfold step1
        rw [hwe, hb]
      by_cases h3 : io.cls = 3
      · have hqq := hq3 h3
        exact by1 (q' := q + 1) hdu.symm hstep (by rw [hqq, hoff h3, ← hqq]; exact hs) (qnext h3)
      · exact by1 (q' := q) hdu.symm hstep hs (qsame h3)
    | true =>
      by_cases hc1 : io.cls ≤ 1
      · have hev : evQ E s call pure io.op = some d := by
          rcases Nat.lt_or_ge io.cls 1 with h0' | h1'
          · have hc0 : io.cls = 0 := by omega
            obtain ⟨sc, hsc⟩ := hAt.st
            rw [evQ_state (kind := kind) io.op (by rw [← hcls i io hio]; exact hc0) s sc]
            exact hAt.quiet hb hc1 sc hsc
          · have hc1' : io.cls = 1 := by omega
            obtain ⟨l1, l2⟩ := lohi (.inl hc1')
            rcases chk_at hchk hrl i io E d hio hrd (.inl hc1') hb q l1 l2 with ⟨_, hk⟩ | ⟨s2, hs2, hsame⟩
            · rw [Nat.zero_add] at hk
              exact hAt.quiet hb hc1 s (by rw [← hk]; exact hs)
            · rw [hs] at hs2; cases hs2
              unfold sameAt at hsame
              rw [if_neg (by omega)] at hsame
              split at hsame
              · rename_i d2 hd2
                rw [hd2, D.same_eq _ _ hsame]
              · cases hsame
        exact by1 (q' := q) (d' := d) rfl (by
          unfold step1
          rw [hwe, hb]
          simp only
          rw [if_pos hc1, evQ_congr io.op opds, hev]) hs (qsame (by omega))
      · by_cases h2 : io.cls = 2
        · -- an object comes to be
          obtain ⟨l1, l2⟩ := lohi (.inr h2)
          have hd := hAt.alloc hb h2
          rcases chk_at hchk hrl i io E d hio hrd (.inr h2) hb q l1 l2 with ⟨hk, _⟩ | ⟨s2, hs2, hsame⟩
          · omega
          · rw [hs] at hs2; cases hs2
            unfold sameAt at hsame
            rw [if_pos h2, hd] at hsame
            split at hsame
            · rename_i zs id hzs hidd
              split at hsame
              · rename_i cs hget
                have hcs := D.sameL_eq _ _ hsame
                have hide : id0 + acnt ios i = id := by injection hidd
                have hidlt : id < s.hn := by
                  have h1 := hhn s hsmem
                  have a1 := acnt_succ hio
                  rw [if_pos h2] at a1
                  have a2 := acnt_mono ios (i := i + 1) (j := ios.length) (by omega)
                  omega
                have hbn : g.blk id = none := by rw [← hide]; exact hx.ph i io hio h2 hnX
                unfold wpOp
                rw [ho]
                simp only
                have hwt : Region.wanted o (yielded ops a.tmps) = true := by
                  unfold cOper at hop
                  split at hop
                  · cases hop
                  · dsimp only at hop
                    split at hop
                    · cases hop
                    · rename_i gd hgd'
                      split at hop
                      · cases hop
                        exact wanted_rep (f := { env := e, defers := dfl, st := s }) hx.env hgd' (by have hgd2 : io.guard = gd := hgd; rw [← hgd2]; exact hwe.trans hb)
                      · cases hop
                rw [if_pos hwt]
                left
                have hshape : ∃ t z, o.op = .alloc t ∧ tZero P t = some z ∧ zs = z.cells.toList ∧ dstOk nt o.dst = true ∧ io.dst = o.dst.map pth := by
                  unfold cOper at hop
                  split at hop
                  · cases hop
                  · rename_i op hcop
                    dsimp only at hop
                    split at hop
                    · cases hop
                    · split at hop
                      · rename_i hdo
                        cases hop
                        simp only at hopr hdst
                        rw [hzs] at hopr
                        subst hopr
                        obtain ⟨dst, oo, ty, pos, after, guard⟩ := o
                        simp only at hcop
                        cases oo with
                        | alloc t =>
                          simp only [cOp, Option.map_eq_some_iff] at hcop
                          obtain ⟨z, hz, hzz⟩ := hcop
                          cases hzz
                          exact ⟨t, z, rfl, hz, rfl, hdo, hdst⟩
                        | _ =>
                          exfalso
                          simp only [cOp, cCall] at hcop
                          first
                            | (cases hcop; done)
                            | (simp only [Option.map_eq_some_iff] at hcop; obtain ⟨z, _, hz⟩ := hcop; cases hz; done)
                            | ((repeat' (split at hcop)) <;> first | (cases hcop; done) | (simp only [Option.map_eq_some_iff] at hcop; obtain ⟨z, _, hz⟩ := hcop; cases hz))
                      · cases hop
                obtain ⟨t, z, hot, hz, hzz, hdo, hdm⟩ := hshape
                have hzc := constV_cells (g := g) (tZero_spec hz).1
                rw [hzz] at hcs
                have hinv' := hinv.bindNew hidlt hbn hget t (by rw [hcs]; exact hzc.1) (by rw [hcs]; exact hzc.2)
                have hrun : (execOp a.eval o).run P w = .ok (.value (.pointer (some ⟨w.heap.size, 0, none⟩))) (w.alloc (.cells z.cells t)) := by
                  obtain ⟨dst, oo, ty, pos, after, guard⟩ := o
                  simp only at hot
                  subst hot
                  simp [execOp, Instr.alloc, run_zero hz, newVar, newRow]
                unfold Oper.wp
                rw [hrun, Oper.upon_value]
                have hle : g.le (g.bind id w.heap.size) := G.le_bind hbn
                have hp := put_ok (f := { env := e, defers := dfl, st := s }) (dst := o.dst) (v := .pointer (some ⟨w.heap.size, 0, none⟩)) hnt hdo hx.env hx.sz hx.dfs hle hinv' (bind_ptr (n := id) (b := w.heap.size) (off := 0))
                have hid0 : id0 ≤ id := by omega
                refine next (q' := q) (s' := s) (g' := g.bind id w.heap.size) (qsame (by omega)) hs hle ⟨hle, fun j hj => ?_⟩ (fun j hj hne => ?_) ?_ hinv' hp.sz hp.dfs
                · simp only [G.bind]; rw [if_neg (by omega)]
                · simp only [G.bind]
                  rw [if_neg]
                  rintro rfl
                  rcases hne with hne | hne
                  · exact hne hide.symm
                  · exact hne h2
                · rw [hd, hdm, hide]
                  exact hp.env
              · cases hsame
            · cases hsame
        · have h3 : io.cls = 3 := by
            have := hcls3 io (List.mem_of_getElem? hio)
            omega
          have hqq := hq3 h3
          obtain ⟨s', hm, hs'⟩ := hAt.turn hb h3 s (by rw [← hqq]; exact hs)
          exact by1 (q' := q + 1) (d' := d) rfl (by
            unfold step1
            rw [hwe, hb]
            simp only
            rw [if_neg hc1, evM_congr io.op opds, hm]) (by rw [hqq]; exact hs') (qnext h3)
end
end Go.Fk

/- Soundness of regions whose order is drawn: put together. -/
namespace Go.Fk
open Go.RowKit (Below)
section
variable {P : Program} {B : Nat} {w0 : Base}

theorem cOpers_at {nt : Nat} {kind : FuncId → Nat} {mt : Nat → Bool} {ops : Array Oper} : ∀ {k : Nat} {l : List Oper} {ios : List IOper}, cOpers P nt kind mt ops k l = some ios → ios.length = l.length ∧ ∀ i o, l[i]? = some o → ∃ io, ios[i]? = some io ∧ cOper P nt kind mt ops (k + i) o = some io
  | k, [], ios, h => by cases h; exact ⟨rfl, fun i o h => by simp at h⟩
  | k, o :: r, ios, h => by
    simp only [cOpers] at h
    split at h
    · rename_i io ios' h1 h2
      cases h
      obtain ⟨a, b⟩ := cOpers_at h2
      refine ⟨by simp [a], fun i o' hi => ?_⟩
      cases i with
      | zero => simp at hi; subst hi; exact ⟨io, rfl, h1⟩
      | succ i =>
        obtain ⟨io', x, y⟩ := b i o' (by simpa using hi)
        exact ⟨io', by simpa using x, by rw [show k + (i + 1) = k + 1 + i from by omega]; exact y⟩
    · cases h

theorem setLH_at {ios : List IOper} {ms : List Nat} {n : Nat} : (setLH ios ms n).length = ios.length ∧ ∀ (i : Nat) (io : IOper), (setLH ios ms n)[i]? = some io → ∃ io0 : IOper, ios[i]? = some io0 ∧ io.dst = io0.dst ∧ io.op = io0.op ∧ io.guard = io0.guard ∧ io.cls = io0.cls := by
  refine ⟨by simp [setLH], fun i io h => ?_⟩
  simp only [setLH, List.getElem?_map, Option.map_eq_some_iff] at h
  obtain ⟨⟨o, j⟩, h1, h2⟩ := h
  rw [List.getElem?_zipIdx] at h1
  simp only [Option.map_eq_some_iff] at h1
  obtain ⟨o', h3, h4⟩ := h1
  cases h4
  refine ⟨o, h3, ?_⟩
  simp only at h2
  split at h2 <;> (subst h2; exact ⟨rfl, rfl, rfl, rfl⟩)

theorem drawAll (hm : P.follows .mixedOrders = true) : DrawAll P B w0 := by
  intro nt hnt call pure hc kind mt id ops ic hic g f f' x a w hf h
  simp only [comp] at hic
  split at hic
  case h_2 => cases hic; cases h
  rename_i ios0 hco
  simp only [if_true] at hic
  split at hic
  case h_2 => cases hic; cases h
  rename_i ios hds
  cases hic
  simp only [evC, Option.map_eq_some_iff] at h
  obtain ⟨f1, hrun, h3⟩ := h
  cases h3
  unfold drawSet at hds
  split at hds
  case isFalse => cases hds
  rename_i hchk
  cases hds
  obtain ⟨hl0, hat0⟩ := cOpers_at hco
  obtain ⟨hl1, hat1⟩ := setLH_at (ios := ios0) (ms := masks ops.toList []) (n := ops.size)
  generalize hios : setLH ios0 (masks ops.toList []) ops.size = ios at *
  have hlen : ios.length = ops.size := by rw [hl1, hl0]; simp
  have hops : ∀ i o io, ops[i]? = some o → ios[i]? = some io → ∃ io0, cOper P nt kind (mt id) ops i o = some io0 ∧ io.dst = io0.dst ∧ io.op = io0.op ∧ io.guard = io0.guard ∧ io.cls = io0.cls := fun i o io ho hi => by
    obtain ⟨io1, k1, k2, k3, k4, k5⟩ := hat1 i io hi
    obtain ⟨io2, m1, m2⟩ := hat0 i o (by simpa using ho)
    rw [k1] at m1
    cases m1
    rw [Nat.zero_add] at m2
    exact ⟨io1, m2, k2, k3, k4, k5⟩
  unfold runDraw at hrun
  split at hrun
  case h_2 => cases hrun
  rename_i rs ss e1 hlex
  split at hrun
  case isFalse => cases hrun
  rename_i hck
  split at hrun
  case h_2 => cases hrun
  rename_i sl hsl
  cases hrun
  have hal : ∀ o ∈ ios, (o.cls = 2 ↔ ∃ zs, o.op = .alloc zs) := fun o ho => by
    obtain ⟨i, hi⟩ := List.mem_iff_getElem?.1 ho
    have hlt : i < ops.size := by rw [← hlen]; exact (List.getElem?_eq_some_iff.1 hi).1
    obtain ⟨io0, h1, h2, h3, h4, h5⟩ := hops i ops[i] o (Array.getElem?_eq_getElem hlt) hi
    have hcl : o.cls = clsOf kind o.op := by
      rw [h5, h3]
      unfold cOper at h1
      split at h1
      · cases h1
      · dsimp only at h1
        split at h1
        · cases h1
        · split at h1
          · cases h1; rfl
          · cases h1
    rw [hcl]
    constructor
    · intro hh
      cases hop : o.op <;> rw [hop] at hh <;> simp [clsOf] at hh ⊢
      rename_i f args
      cases f <;> simp at hh
      split at hh <;> omega
    · rintro ⟨zs, hz⟩; rw [hz]; rfl
  have hpre := preAlloc_hn ios f.st hal
  have hkeep := lexGo_keep hc.keep ios _ _ _ _ _ _ hlex
  have hinv0 : Inv g B w0 (preAlloc ios f.st) w.drew := preAlloc_inv ios f.st hf.inv.drew
  refine wp_region_any hm ?_
  have key := any_sound (P := P) (B := B) (w0 := w0) (nt := nt) (ios0 := ios) (s0 := preAlloc ios f.st) (id0 := f.st.hn) (g0 := g) (dfl := f.defers) (Q := Post B w0 nt g f { env := e1, defers := f.defers, st := sl } .nrm) hnt hc (drawChk_facts hchk) hlen hops hlex hck
    (fun s hs => by have := (hkeep.2 s hs).hn; omega)
    (fun a' w' g' s hs he henv hinv hsz hdf => by
      rw [hsl] at hs
      cases hs
      exact ⟨rfl, g', he, henv, hinv, hsz, hdf⟩)
    ops.size (Array.replicate ops.size false) a w.drew g f.env 0 (by simp) (by
      have := List.countP_le_length (p := fun j => !(Array.replicate ops.size false).getD j false) (l := List.range ops.size)
      rw [List.length_range] at this
      exact this)
    (by
      have hX : ∀ j, ¬ (Array.replicate ops.size false).getD j false = true := fun j => by
        rw [Array.getD_eq_getD_getElem?, Array.getElem?_replicate]
        split <;> simp
      exact ⟨fun k o ed hk => absurd hk (hX k), EnvX.nil hX, hf.env, fun j jo _ _ => ⟨fun hk => absurd hk (hX j), fun hk => by omega⟩, ⟨_, hkeep.1, hinv0⟩,
        fun i io _ _ _ => hf.inv.blk_ge (by omega), hf.sz, hf.dfs, Ext.refl _ _⟩)
  exact key

/-- All calls are sound. -/
theorem evF_sound (hm : P.follows .mixedOrders = true) {p : Prog} (hp : ProgOk P B w0 p) (k : Nat) : CallOk P B w0 (evF p k) p.pure := evF_ok hp (drawAll hm) k
end
end Go.Fk

