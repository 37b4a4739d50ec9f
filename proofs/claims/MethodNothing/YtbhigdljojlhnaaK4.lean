/- A tree that is only read may be shown as one that cannot change: a box or a list, wherever it stands among the arguments. -/
import Derived.Test.YtbhigdljojlhnaaK3
import Derived.KernelRfl
namespace Go.Vc
set_option linter.all false
open T (hdr blk)
def AV.chilled (d0 : D) : AV → AV
  | .ptr 0 q => match q, d0 with
    | [.d], .box true _ d => .iptr d.freeze
    | _, _ => .bad
  | .ptr (k + 1) q => .ptr k q
  | .sub 0 q lo n ex => match q, d0 with
    | [], .sl true _ z s => .imm z (s.mid lo n).freeze ex
    | [], _ => .bad
    | x :: q, d0 => match d0.at_ (x :: q) with
      | .sl true _ z s => .imm z (s.mid lo n).freeze ex
      | _ => .bad
  | .sub (k + 1) q lo n ex => .sub k q lo n ex
  | .mp 0 _ => .bad
  | .mp (k + 1) q => .mp k q
  | .cons a t => .cons (a.chilled d0) (t.chilled d0)
  | .agg s => .agg (s.chilled d0)
  | .tup s => .tup (s.chilled d0)
  | .fn f s => .fn f (s.chilled d0)
  | a => a
theorem Rl.chilled {h : Array Obj} {I I' : Nat → Prop} {F : List G} {g0 : G} (hg : T.Holds h I g0) (hI : ∀ b, I b → I' b) (ho : ∀ b ∈ g0.owned, I' b) {av : AV} :
    ∀ {m : Bool} {vs : List Value}, Rl h I (g0 :: F) av m vs → Rl h I' F (av.chilled g0.erase) m vs := by
  have hbad : ∀ {m : Bool} {v : Value}, v.oneCell' = true → Rl h I' F .bad m [v] := fun {m v} hv => by
    cases m
    · exact ⟨v, rfl, hv⟩
    · exact ⟨v, rfl⟩
  induction av with
  | bad => intro m vs H; cases m <;> exact H
  | val v => intro m vs H; cases m <;> exact H
  | nils z => intro m vs H; cases m <;> exact H
  | cut z => intro m vs H; cases m <;> exact H
  | ptr k q =>
    intro m vs H
    have H : ∃ b o, locF (g0 :: F) k q = some (.abs b o) ∧ vs = [.pointer (some ⟨b, o, none⟩)] := by cases m <;> exact H
    obtain ⟨b, o, h1, rfl⟩ := H
    cases k with
    | succ k => cases m <;> exact ⟨b, o, by simpa [locF, AV.chilled] using h1, rfl⟩
    | zero =>
      simp only [AV.chilled]
      split
      · rename_i d he
        obtain ⟨a, g, rfl⟩ : ∃ a g, g0 = .box true a g := by
          cases g0 <;> simp only [T.erase] at he <;> cases he
          exact ⟨_, _, rfl⟩
        simp only [T.erase, T.box.injEq, true_and] at he
        obtain ⟨q1, q3, q4⟩ := id hg
        split at q4
        case h_2 => exact q4.elim
        rename_i x
        obtain ⟨k1, _, _, k2⟩ := q4
        obtain ⟨xb, xo, xs⟩ := x
        simp only at k1
        subst k1
        have hbo : b = xb ∧ o = xo := by
          simp only [locF, List.getElem?_cons_zero, Option.bind_some, T.loc, T.headAt, Option.some.injEq, Loc.abs.injEq] at h1
          exact ⟨h1.1.symm, by omega⟩
        obtain ⟨rfl, rfl⟩ := hbo
        have hr : IptrRel h I' d.freeze (.pointer (some ⟨b, o, none⟩)) :=
          ⟨g.freeze, ⟨b, o, none⟩, by rw [T.freeze_erase, he], q1.freeze hI (fun b hb => ho b (by simp [T.owned, hb])), T.freeze_free g, rfl, rfl, ho b (by simp [T.owned, blk]), by rw [T.freeze_cells]; exact k2⟩
        cases m <;> exact ⟨_, rfl, hr⟩
      · exact hbad rfl
  | sub k q lo n ex =>
    intro m vs H
    have H : ∃ own a z len v, hdrF (g0 :: F) k q = some (own, a, z, len) ∧ vs = [v] ∧ SubRel a z len lo n ex v := by cases m <;> exact H
    obtain ⟨own, a, z, len, v, h1, rfl, h2⟩ := H
    cases k with
    | succ k => cases m <;> exact ⟨own, a, z, len, v, by simpa [hdrF, AV.chilled] using h1, rfl, h2⟩
    | zero =>
      have main : ∀ {z' : Nat} {s : D}, ((g0.at_ q).erase = .sl true () z' s) → Rl h I' F (.imm z' (s.mid lo n).freeze ex) m [v] := fun {z' s} he => by
        have hgq := hg.at_ q
        have hoq : ∀ b ∈ (g0.at_ q).owned, I' b := fun b hb => ho b ((T.owned_at_sublist hg q).subset hb)
        simp only [hdrF, List.getElem?_cons_zero, Option.bind_some] at h1
        generalize g0.at_ q = g1 at *
        obtain ⟨a', s0, rfl⟩ : ∃ a' s0, g1 = .sl true a' z' s0 := by
          cases g1 <;> simp only [T.erase] at he <;> cases he
          exact ⟨_, _, rfl⟩
        simp only [T.erase, T.sl.injEq, true_and] at he
        simp only [hdr, Option.some.injEq, Prod.mk.injEq] at h1
        obtain ⟨rfl, rfl, rfl, rfl⟩ := h1
        obtain ⟨hs, hl⟩ := T.Holds.stretch hgq h2
        have hsub : ∀ b ∈ (T.sl true v z' (s0.mid lo n) : G).owned, b ∈ (T.sl true a' z' s0 : G).owned := fun b hb => by
          have q1 := (T.owned_mid s0 lo n).count_le b
          obtain ⟨A, c, rfl, _, _, _, _, h4⟩ := h2
          rw [mem_of_count] at hb ⊢
          simp only [T.owned, List.count_append, if_true] at hb ⊢
          split at h4
          · obtain ⟨rfl, _⟩ := h4; simp only [blk, List.count_nil] at hb ⊢; omega
          · rename_i x n' cap; obtain ⟨y, rfl, _, h6, h7, _⟩ := h4; have := T.blk_sub (n := n) (n' := n') h6 (Nat.le_trans (Nat.le_add_left c lo) h7) b; omega
          · exact h4.elim
        have hr : ImmRel h I' z' (s.mid lo n).freeze ex v := ⟨(s0.mid lo n).freeze, by rw [T.freeze_erase, T.erase_mid, he], hs.freeze hI fun b hb => hoq b (hsub b hb), fun he A n' c hv => by obtain ⟨A', c', q, _, _, _, q4, _⟩ := h2; rw [q] at hv; cases hv; exact q4 he⟩
        cases m <;> exact ⟨_, rfl, hr⟩
      simp only [AV.chilled]
      split
      · rename_i he
        exact main (by rw [T.at_]; exact he)
      · exact hbad (Rl_sub_one h2)
      · split
        · rename_i he
          exact main (by rw [T.erase_at]; exact he)
        · exact hbad (Rl_sub_one h2)
  | mp k q =>
    intro m vs H
    have H : ∃ own r z len, hdrF (g0 :: F) k q = some (own, .map (some r), z, len) ∧ vs = [.map (some r)] := by cases m <;> exact H
    obtain ⟨own, r, z, len, h1, rfl⟩ := H
    cases k with
    | succ k => cases m <;> exact ⟨own, r, z, len, by simpa [hdrF, AV.chilled] using h1, rfl⟩
    | zero => exact hbad rfl
  | imm z s ex => intro m vs H; exact Rl.still (av := .imm z s ex) H hI rfl
  | iptr d => intro m vs H; exact Rl.still (av := .iptr d) H hI rfl
  | nil => intro m vs H; cases m <;> exact H
  | cons a t iha iht =>
    intro m vs H
    cases m
    · obtain ⟨v1, v2, h1, h2, h3⟩ := H
      exact ⟨v1, v2, h1, iha h2, iht h3⟩
    · obtain ⟨v1, v2, h1, h2, h3⟩ := H
      exact ⟨v1, v2, h1, iha h2, iht h3⟩
  | agg s ih =>
    intro m vs H
    cases m
    · exact ih (m := false) H
    · obtain ⟨cs, h1, h2⟩ := H
      exact ⟨cs, h1, ih h2⟩
  | tup s ih =>
    intro m vs H
    cases m
    · exact H
    · obtain ⟨cs, h1, h2⟩ := H
      exact ⟨cs, h1, ih h2⟩
  | fn f s ih =>
    intro m vs H
    cases m <;> (obtain ⟨cs, h1, h2⟩ := H; exact ⟨cs, h1, ih h2⟩)
theorem dead_shift (κ : List (Nat × Path)) (k : Nat) (q : Path) (s : Bool) : dead (κ.map fun e => (e.1 + 1, e.2)) (k + 1) q s = dead κ k q s := by
  induction κ with
  | nil => rfl
  | cons e κ ih => simp only [dead, List.map_cons, List.any_cons] at ih ⊢; rw [ih]; simp
theorem Meets.warmK {P : Program} {f : FuncId} {d0 : D} {Y : List D} {t : AV} {R : AV → List D → List (Nat × Path) → Prop} (h : Meets P f Y (t.chilled d0) R)
    (hR : ∀ av X κ, R av X κ → av.plain = true ∧ (∀ x ∈ X, x.allOwn = true)) :
    Meets P f (d0 :: Y) t fun av X κ => ∃ av0 X0 κ0, R av0 X0 κ0 ∧ av = av0.emb [] 1 ∧ X = d0 :: X0 ∧ κ = κ0.map fun e => (e.1 + 1, e.2) := by
  refine ⟨h.1, fun w I F0 vs hY hH hnd hap hlt hil hvs => ?_⟩
  obtain ⟨g0, FY, rfl⟩ : ∃ g0 FY, F0 = g0 :: FY := by
    cases F0 with
    | nil => simp at hY
    | cons g0 l => exact ⟨g0, l, rfl⟩
  simp only [List.map_cons, List.cons.injEq] at hY
  obtain ⟨hY, hYs⟩ := hY
  have hg0 := hH g0 (by simp)
  have hcons : ∀ F : List G, own (g0 :: F) = own [g0] ++ own F := fun F => by simp [own]
  have hog : own [g0] = g0.owned := by simp [own]
  rw [hcons] at hnd hap hlt
  obtain ⟨hnd1, hnd2, hnd3⟩ := List.nodup_append.1 hnd
  have harg := hvs.chilled (I' := fun b' => I b' ∨ b' ∈ own [g0]) hg0 (fun _ h => .inl h) (fun b hb => .inr (by rw [hog]; exact hb))
  rw [hY] at harg
  refine Calls.mono (h.2 w _ FY vs hYs (fun g' hg' => (hH g' (by simp [hg'])).agree (fun _ _ => rfl) (fun _ _ => rfl) fun _ h => .inl h) hnd2
    (fun b' hb h' => h'.elim (hap b' (by simp [hb])) fun h' => hnd3 b' h' b' hb rfl) (fun b' hb => hlt b' (by simp [hb])) (fun b' hb => hb.elim (hil b') fun h' => hlt b' (by simp [h'])) harg) fun e w' he => ?_
  obtain ⟨v', av, X, κ, I', F', rfl, hRR, hi, hr⟩ := he
  obtain ⟨hp, hX⟩ := hR _ _ _ hRR
  have hframe : ∀ b', b' < w.heap.size → b' ∉ own FY → w'.heap[b']? = w.heap[b']? := fun b' hb hn => hi.frame b' hb hn
  have hfresh : ∀ b' ∈ own F', b' < w.heap.size → b' ∈ own FY := fun b' hb h' => hi.fresh b' hb h'
  have hg0own : ∀ b' ∈ own [g0], w'.heap[b']? = w.heap[b']? := fun b' hb => hframe b' (hlt b' (by simp [hb])) fun h' => hnd3 b' hb b' h' rfl
  refine ⟨v', av.emb [] 1, d0 :: X, κ.map fun e => (e.1 + 1, e.2), I, g0 :: F', rfl, ⟨av, X, κ, hRR, rfl, rfl, rfl⟩, ⟨?_, ?_, ?_, ?_, ?_, ?_, hi.os, hi.tape, hi.output, hi.size, ?_, ?_, fun _ hb => hb, fun _ hb => .inl hb, ?_⟩, hr.shift (g0 := g0) hp⟩
  · simp [hY, hi.erase]
  · intro g' hg'
    rcases List.mem_cons.1 hg' with rfl | hg'
    · exact hg0.agree (fun b' hb => hg0own b' (by simpa [own] using hb)) (fun b' hb => hframe b' (hil b' hb) fun h' => hap b' (by simp [h']) hb) fun _ h => h
    · refine (hi.holds g' hg').own ?_
      rw [← T.allOwn_erase]
      exact hX _ (by rw [← hi.erase]; exact List.mem_map_of_mem hg')
  · rw [hcons]
    refine List.nodup_append.2 ⟨hnd1, hi.nodup, fun x hx y hy hxy => ?_⟩
    subst hxy
    exact hnd3 x hx x (hfresh x hy (hlt x (by simp [hx]))) rfl
  · intro b' hb
    rw [hcons] at hb
    rcases List.mem_append.1 hb with hb | hb
    · exact hap b' (by simp [hb])
    · intro hI
      exact hap b' (by simp [hfresh b' hb (hil b' hI)]) hI
  · intro b' hb
    rw [hcons] at hb
    rcases List.mem_append.1 hb with hb | hb
    · exact Nat.lt_of_lt_of_le (hlt b' (by simp [hb])) hi.size
    · exact hi.lt b' hb
  · exact fun b' hb => Nat.lt_of_lt_of_le (hil b' hb) hi.size
  · intro b' hb hn
    rw [hcons] at hn
    exact hframe b' hb fun h' => hn (by simp [h'])
  · intro b' hb hlt'
    rw [hcons] at hb ⊢
    rcases List.mem_append.1 hb with hb | hb
    · simp [hb]
    · simp [hfresh b' hb hlt']
  · intro k g1 hk
    cases k with
    | zero =>
      simp only [List.getElem?_cons_zero, Option.some.injEq] at hk
      subst hk
      exact ⟨_, rfl, rfl, fun _ _ => rfl, fun _ _ => rfl, fun _ _ h _ => h⟩
    | succ k =>
      simp only [List.getElem?_cons_succ] at hk
      obtain ⟨g', q1, q2, q3, q4, q5⟩ := hi.base k g1 hk
      exact ⟨g', by simpa using q1, q2, fun q hq => q3 q (by rwa [dead_shift] at hq), fun q hq => q4 q (by rwa [dead_shift] at hq), fun q v hv hq => q5 q v hv (by rwa [dead_shift] at hq)⟩
theorem Meets.warm {P : Program} {f : FuncId} {d0 : D} {Y : List D} {t : AV} {R : AV → List D → List (Nat × Path) → Prop} (h : Meets P f Y (t.chilled d0) R)
    (hR : ∀ av X κ, R av X κ → av.plain = true ∧ (∀ x ∈ X, x.allOwn = true) ∧ κ = []) :
    Meets P f (d0 :: Y) t fun av X κ => ∃ av0 X0, R av0 X0 [] ∧ av = av0.emb [] 1 ∧ X = d0 :: X0 ∧ κ = [] :=
  Meets.mono (Meets.warmK h fun av X κ hh => ⟨(hR _ _ _ hh).1, (hR _ _ _ hh).2.1⟩) fun av X κ ⟨av0, X0, κ0, h1, h2, h3, h4⟩ => by
    obtain rfl := (hR _ _ _ h1).2.2
    exact ⟨av0, X0, h1, h2, h3, h4⟩
def AV.nilled : AV → AV
  | .nils z => .imm z .nil true
  | .cons a t => .cons a.nilled t.nilled
  | .agg s => .agg s.nilled
  | .tup s => .tup s.nilled
  | .fn f s => .fn f s.nilled
  | a => a
theorem Rl.nilled {h : Array Obj} {I : Nat → Prop} {F : List G} {av : AV} : ∀ {m : Bool} {vs : List Value}, Rl h I F av m vs → Rl h I F av.nilled m vs := by
  induction av with
  | nils z =>
    intro m vs H
    have H : vs = [.slice none 0 0] := by cases m <;> exact H
    subst H
    have hr : ImmRel h I z .nil true (.slice none 0 0) := ⟨.nil, rfl, ⟨trivial, trivial, fun _ => rfl, rfl, rfl, rfl⟩, fun _ A n c e => by cases e; rfl⟩
    cases m <;> exact ⟨_, rfl, hr⟩
  | cons a t iha iht =>
    intro m vs H
    cases m
    · obtain ⟨v1, v2, h1, h2, h3⟩ := H
      exact ⟨v1, v2, h1, iha h2, iht h3⟩
    · obtain ⟨v1, v2, h1, h2, h3⟩ := H
      exact ⟨v1, v2, h1, iha h2, iht h3⟩
  | agg s ih =>
    intro m vs H
    cases m
    · exact ih (m := false) H
    · obtain ⟨cs, h1, h2⟩ := H
      exact ⟨cs, h1, ih h2⟩
  | tup s ih =>
    intro m vs H
    cases m
    · exact H
    · obtain ⟨cs, h1, h2⟩ := H
      exact ⟨cs, h1, ih h2⟩
  | fn f s ih =>
    intro m vs H
    cases m <;> (obtain ⟨cs, h1, h2⟩ := H; exact ⟨cs, h1, ih h2⟩)
  | _ => intro m vs H; exact H
theorem Meets.nilled {P : Program} {f : FuncId} {Y : List D} {t : AV} {R : AV → List D → List (Nat × Path) → Prop} (h : Meets P f Y t.nilled R) : Meets P f Y t R :=
  ⟨h.1, fun w I F0 vs h1 h2 h3 h4 h5 h6 h7 => h.2 w I F0 vs h1 h2 h3 h4 h5 h6 h7.nilled⟩
end Go.Vc

/- Rules that take several steps at once, so that texts are short. -/
namespace Go.Vc
set_option linter.all false
section
variable {c : Cx} {l : List Code} {K : Exit → St → Prop} {st : St}
def VSk (c : Cx) (l : List Code) (K : Exit → St → Prop) (ts : List Tmp) (st : St) : Prop := VS c l K (st.keep ts)
theorem VSk_eq (ts : List Tmp) : VSk c l K ts st = VS c l K (st.keep ts) := by rw [VSk]
def r_VSk := @VSk_eq
attribute [simp] r_VSk
attribute [irreducible] VSk
@[congr] theorem VSk_congr {ts : List Tmp} {st' : St} (h : tick st = st') : VSk c l K ts st = VSk c l K ts st' := by rw [tick_eq] at h; rw [h]
@[congr] theorem VS_congr {st' : St} (h : tick st = st') : VS c l K st = VS c l K st' := by rw [tick_eq] at h; rw [h]
theorem Rel.keep {a w} (hr : Rel c st a w) (ts : List Tmp) : Rel c (st.keep ts) a w := by
  obtain ⟨h1, h2, I, F, hi, he, hp⟩ := hr
  exact ⟨h1, h2, I, F, hi, fun t => by
    rcases look_keep st.env t ts with h' | h'
    · show Rl _ _ _ (look (ts.map _) t) true _
      rw [h']; exact rl_one
    · show Rl _ _ _ (look (ts.map _) t) true _
      rw [h']; exact he t, hp⟩
theorem VS_cons {x : Code} : VS c (x :: l) K st = VC c x (thenK (VS c l K) K) st := by with_unfolding_all rfl
theorem VC.then_keep {x : Code} {post : List Tmp} (h : VC c x (thenK (VSk c l K post) K) st) : VC c x (thenK (VS c l K) K) st :=
  VC.mono' h fun e st a w hk hr => by
    cases e with
    | normal =>
      have hk' : VSk c l K post st := hk
      rw [VSk_eq] at hk'
      exact ⟨_, hk', hr.keep post⟩
    | _ => exact ⟨_, hk, hr⟩
theorem VS.rg {τ : Tab} (hτ : Tab.Ok c.P τ) (id : Nat) {ops : List Oper} (pre post : List Tmp) (gs : List (Nat × Tmp)) (h : vcOps c τ gs ops 0 (st.keep pre) (VSk c l K post)) (hd : regOk c.nt ops gs = true) : VS c (.region id ops.toArray false :: l) K st := by
  refine VS.keepAt id pre ?_
  rw [VS_cons]
  exact VC.then_keep (VC.region hτ gs hd h)
theorem VS.dr {P : Program} {nt : Nat} {w0 : World} {I0 : Nat → Prop} {F0 : List G} {τ : Tab} (hτ : Tab.Ok P τ) (hm : P.follows .mixedOrders = true) (id : Nat) {ops : List Oper} (EM : Nat) (pre post : List Tmp) (gs : List (Nat × Tmp)) (T : List Rw) (p : Plan) (o : OP)
    (h : opsVc ⟨P, nt, w0, I0, F0⟩ τ gs ops o (st.keep pre) (VSk ⟨P, nt, w0, I0, F0⟩ l K post))
    (hT : ops.map (rowOf ops.toArray) = T) (hok : drawOk EM nt ops gs T p = true) (ho : opOf EM p = o) : VS ⟨P, nt, w0, I0, F0⟩ (.region id ops.toArray true :: l) K st := by
  refine VS.keepAt id pre ?_
  rw [VS_cons]
  exact VC.then_keep (VC.drawnE hτ hm EM gs T p o hT hok ho h)
theorem n1 {a b : Code} (h : VS c (a :: b :: l) K st) : VS c (.seq a b :: l) K st := VS.seq h
theorem n2 (h : VS c l K st) : VS c (.skip :: l) K st := VS.skip h
theorem n3 {id : Nat} {x : Code} (h : VS c [x] (blockN id (VS c l K) K) st) : VS c (.block id x :: l) K st := VS.block h
theorem n4 (h : K .normal st) : VS c [] K st := VS.nil h
variable {id : Nat} {N : St → Prop} {nb n : Nat} {J : Nat → St → Prop}
theorem n5 (h : N st) : blockN id N K .normal st := h
theorem n6 (h : nextK nb J n st) : loopN nb J n K .normal st := h
theorem n7 {i : Nat} (h : K (.exit i) st) : VS c (.exit i :: l) K st := VS.exit h
theorem n8 (h : N st) : blockN id N K (.exit id) st := blockN_hit h
theorem n9 {j : Nat} (h : K (.exit j) st) (hj : j ≠ id := by decide) : blockN id N K (.exit j) st := blockN_miss hj h
theorem n0 {j : Nat} (h : K (.exit j) st) : loopN nb J n K (.exit j) st := h
theorem nr (h : K .ret st) : VS c (.ret :: l) K st := VS.ret h
theorem nb_ (h : K .ret st) : blockN id N K .ret st := h
theorem nl_ (h : K .ret st) : loopN nb J n K .ret st := h
theorem nc {x : Operand} {t f : Code} (h : condVc (st.ev x) (VS c (t :: l) K st) (VS c (f :: l) K st)) : VS c (.cond x t f :: l) K st := VS.cond h
theorem ghostL {x : Code} (k : Nat) (q : Path) (h : (k < st.X.length ∧ (st.tree k).okp q = true ∧ isNode ((st.tree k).at_ q) = true ∧ T.noEntry true (st.tree k) q = true) ∧ VS c (x :: l) K (st.lift c.F0.length k q)) : VS c (x :: l) K st := VS.lift k q h.1.1 h.1.2.1 h.1.2.2.1 h.1.2.2.2 h.2
end
theorem drs : (∀ (c : Cx) (τ : Tab) (gs : List (Nat × Tmp)) (ops : List Oper) (l : List Nat) (p : OP) (st : St) (K : St → Prop), opsVc c τ gs ops (.run l p) st K = vcOrd c τ gs (pickOps ops l) st fun st => opsVc c τ gs ops p st K) ∧
    (∀ (c : Cx) (τ : Tab) (gs : List (Nat × Tmp)) (ops : List Oper) (p q : OP) (st : St) (K : St → Prop), opsVc c τ gs ops (.both p q) st K = (opsVc c τ gs ops p st K ∧ opsVc c τ gs ops q st K)) ∧
    (∀ (c : Cx) (τ : Tab) (gs : List (Nat × Tmp)) (ops : List Oper) (i : Nat) (p : OP) (st : St) (K : St → Prop), opsVc c τ gs ops (.chk i p) st K = (freshVc τ st (ops[i]?) ∧ opsVc c τ gs ops p st K)) ∧
    (∀ (c : Cx) (τ : Tab) (gs : List (Nat × Tmp)) (ops : List Oper) (st : St) (K : St → Prop), opsVc c τ gs ops .done st K = K st) ∧
    (∀ (c : Cx) (τ : Tab) (gs : List (Nat × Tmp)) (ops : List Oper) (st : St) (K : St → Prop), opsVc c τ gs ops .yes st K = True) ∧
    (∀ ops : List Oper, pickOps ops [] = []) ∧ (∀ (ops : List Oper) (i : Nat) (l : List Nat), pickOps ops (i :: l) = (i, ops[i]?) :: pickOps ops l) ∧
    (∀ (a : Oper) (l : List Oper), (a :: l)[0]? = some a) ∧ ∀ (a : Oper) (l : List Oper) (n : Nat), (a :: l)[n + 1]? = l[n]? :=
  ⟨fun _ _ _ _ _ _ _ _ => opsVc_run, fun _ _ _ _ _ _ _ _ => opsVc_both, fun _ _ _ _ _ _ _ _ => opsVc_chk, fun _ _ _ _ _ _ => opsVc_done, fun _ _ _ _ _ _ => opsVc_yes, fun _ => rfl, fun _ _ _ => rfl, fun _ _ => rfl, fun _ _ _ => rfl⟩
theorem Meets.go {c : Cx} {f : FuncId} {Y : List D} {args : AV} {R : AV → List D → List (Nat × Path) → Prop} (h : Meets c.P f Y args R) {st : St} {avs : AV} {K : AV → St → Prop} (pls : List (Nat × Path))
    (hc : (pls.map (·.1)).Nodup ∧ placesOk st pls Y ∧ args.emb pls st.X.length = avs ∧ args.okArg pls.length = true ∧ (pls = [] ∨ avs.still = false)) (hK : ∀ av X κ, R av X κ → K (av.emb pls st.X.length) (st.after c.F0.length pls X κ)) : CallW c f avs st K :=
  h.call pls hc.1 hc.2.1 hc.2.2.1 hc.2.2.2.1 hc.2.2.2.2 hK
theorem endK.o {nb : Nat} {τ : Tab} {rs : List ResultVar} {R : AV → List D → List (Nat × Path) → Prop} {e : Exit} {st : St} (ts : List Tmp) (sel : List Nat) (κ' : List (Nat × Path)) (h : (selOk nb st.X.length sel = true ∧ st.κ.all (covers κ') = true) ∧
    retK τ rs R e { st.pick ts sel with κ := κ' }) : endK nb τ rs R e st := ⟨ts, sel, κ', h.1.1, h.1.2, h.2⟩
theorem nextK.o {nb : Nat} {J : Nat → St → Prop} {n : Nat} {st : St} (ts : List Tmp) (sel : List Nat) (m : Nat) (h : (m < n ∧ selOk nb st.X.length sel = true) ∧ J m (st.pick ts sel)) : nextK nb J n st := nextK.of ts sel m h.1.1 h.1.2 h.2
theorem Ty.Ok.okI {P : Program} {t : TypeId} {y : Ty} (i : TypeInfo) (z : Value) {b : Bool} {n : Nat} {g : G} (hl : y.ld = some (b, n)) (hz : y.zero = some g)
    (h1 : P.info? t = some i := by kernel_rfl) (h2 : i.zero = some z := by kernel_rfl) (h3 : zeroish g = true := by kernel_rfl) (h4 : z.cells.toList = g.cells := by kernel_rfl)
    (h5 : T.vAgg z = T.aggy g := by kernel_rfl) (h6 : aggTy P t = b := by kernel_rfl) (h7 : (P.underlying t).isSome = true := by kernel_rfl) (h8 : i.size = n := by kernel_rfl)
    (sl : ∀ e z by_ zv, y.sl = some (e, z, by_, zv) → P.underlying t = some (.slice e) ∧ ∃ i, P.info? e = some i ∧ i.zero = some zv ∧ i.size = z ∧ i.bytes = by_ ∧ zv.cells.size = z := by intro e z b v h; cases h)
    (st : ∀ l, y.st = some l → ∃ fs, P.underlying t = some (.struct fs) ∧ fs.toList.map (fun f => (f.offset, P.cellsOf f.type)) = l ∧ (∀ f ∈ fs.toList, (P.info? f.type).isSome = true) ∧ l.all (fun x => x.2 != 0) = true := by intro l h; cases h)
    (ar : ∀ n z, y.ar = some (n, z) → ∃ e, P.underlying t = some (.array n e) ∧ ∃ i, P.info? e = some i ∧ i.size = z := by intro n z h; cases h)
    (int : ∀ k, y.int = some k → P.underlying t = some (.int k) := by intro k h; cases h)
    (ptr : y.ptr = true → ∃ e, P.underlying t = some (.pointer e) := by intro h; cases h)
    (str : y.str = true → P.underlying t = some .string := by intro h; cases h)
    (bool : y.bool = true → P.underlying t = some .bool := by intro h; cases h)
    (mp : ∀ e kd, y.mp = some (e, kd) → ∃ k, P.underlying t = some (.map k e) ∧ KOps P k kd.is := by intro e k h; cases h)
    (ae : y.ae = true → ∃ n e, P.underlying t = some (.array n e) ∧ aggTy P e = false ∧ (P.underlying e).isSome = true := by intro h; cases h) : y.Ok P t where
  sl := sl
  ld := by intro b' n' h; rw [hl] at h; cases h; exact ⟨h6, h7, i, h1, h8⟩
  zero := by intro g' h; rw [hz] at h; cases h; exact ⟨h3, i, z, h1, h2, h4⟩
  zone := by intro g' h; rw [hz] at h; cases h; exact ⟨i, z, h1, h2, h5⟩
  st := st
  ar := ar
  int := int
  ptr := ptr
  str := str
  bool := bool
  mp := mp
  ae := ae
theorem Ty.Ok.okN {P : Program} {t : TypeId} : ({} : Ty).Ok P t :=
  ⟨(by intro e z b v h; cases h), (by intro b n h; cases h), (by intro g h; cases h), (by intro g h; cases h), (by intro l h; cases h), (by intro n z h; cases h), (by intro k h; cases h), (by intro h; cases h), (by intro h; cases h), (by intro h; cases h), (by intro e k h; cases h), (by intro h; cases h)⟩
end Go.Vc
