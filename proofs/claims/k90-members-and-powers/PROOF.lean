import PyProof.Rows.All
import Wide.All
import OpenK.AllK
import Wide.FinOn
import HandS.ForMost
import HandS.More
import HandS.Star
import HandS.Walk
import HandS.DictComp
import HandS.Steps
import HandS.Wide
import HandS.Defaults
import HandS.MakeKwOnly
import HandS.MakeKw
import PySem.Challenge.RW_latequestions_k90_members_and_powers
set_option Elab.async false
set_option linter.all false
set_option maxRecDepth 100000
set_option maxHeartbeats 2000000
/-! own operations of an instance: len(x), v in x, truth of x, by the def that the class has -/
namespace Lx
open PySem PySem.Spec PyProof.Rows L2
section
variable {X : Cx} {CX : CXT} {k : Nat} {f C : Addr} {sp : Sp} {E : XK}
/-- a def called somewhere below the running body -/
theorem run_at {A : Around} {pins : List (Addr × Obj)} {σ : L2.St} {H : Hp} {s : Shared} {Q : VK} {us : List Value} {vs : List V} (F : FnR X.prog X.w X.K X.mg X.base CX k f sp) (hr : Room k A) (hfr : A.frames = X.A.frames) (hx : Passes CX X E)
    (I : Inv X pins σ H s) (r : Vals vs us) (h : sp vs H Q E) : wpAny (model X.prog X.w) A (call (.ref f) us) (EP X pins σ Q) X.xe s := by
  have e0 : Env0 X.prog X.w X.K X.mg X.base A X.stack s H := by
    have e := I.env0
    exact ⟨by rw [hfr]; exact e.frames, e.mod, e.bs, e.bsz, e.funs, e.frf, e.hok, e.bare⟩
  refine wpAny_call (codeAny_mono (F A X.stack s H us vs Q E hr e0 r h) fun r s' hq => ?_)
  cases r with
  | error e => exact hx pins σ H s e s' I hq
  | ok fl =>
    cases fl with
    | ret u => exact I.after hq
    | next => exact False.elim hq
    | brk => exact False.elim hq
    | cont => exact False.elim hq
/-- the instance as the model sees it -/
theorem inst_at {pins : List (Addr × Obj)} {σ : L2.St} {H : Hp} {s : Shared} {a dx : Addr} {fs : List (Str × V)} (I : Inv X pins σ H s) (h : H a = some (.ins C dx fs)) : ∃ ox od, PySem.W.InstAt s.heap a ox C od := by
  obtain ⟨mA, O, _⟩ := ins_get I.hok h
  obtain ⟨od, J, _⟩ := O.look
  exact ⟨_, _, J⟩
/-- what a class must have for an own special method -/
structure Spec1 (K : PySem.W.Frag) (C : Addr) (m : Str) (g : Addr) : Prop where
  at_ : PySem.W.findIn K (.ref C) m = some (some (.ref g))
  fn : PySem.W.isFn K (.ref g) = true
def rLenO (K : PySem.W.Frag) (C : Addr) (sp : Sp) (E : XK) : List V → Hp → VK → Prop := fun xs H Q => ∃ a dx fs, xs = [.ref a] ∧ H a = some (.ins C dx fs) ∧
  sp [.ref a] H (fun v H' => ∃ n : Int, v = .int n ∧ 0 ≤ n ∧ n < 2 ^ 63 ∧ Q (.int n) H') E
/-- len(x) by the own def -/
theorem call_lenO (S : Spec1 X.K C "__len__" f) (F : FnR X.prog X.w X.K X.mg X.base CX k f sp) (hr : Room (k + 1) X.A) (hx : Passes CX X E) : CallR X (.builtin "len") (rLenO X.K C sp E) := by
  intro pins s σ H xs us Q I r h
  obtain ⟨a, dx, fs, rfl, ha, h⟩ := h
  obtain ⟨u, rfl, rfl⟩ := vals1 r
  obtain ⟨ox, od, J⟩ := inst_at I ha
  obtain ⟨m, hF⟩ := I.fr
  refine PySem.W.len_K hF I.ok.mod.kin J S.at_ S.fn ?_
  refine wpAny_mono (run_at (A := X.A.in1) (us := [.ref a]) (vs := [.ref a]) F hr.in1 rfl hx I (.cons rfl .nil) h) (fun v s' q => ?_) fun _ _ z => z
  obtain ⟨w', H', I', rv, n, rfl, h0, h1, q⟩ := q
  obtain ⟨t, rfl⟩ := rv
  exact ⟨⟨h0, h1⟩, .int n, H', I'.tok _, ⟨_, rfl⟩, q⟩
theorem contains_K {M : Model} {A : Around} {E : Value → Shared → Prop} {s : Shared} {K : PySem.W.Frag} {x C f : Addr} {ox : Obj} {od : Option Obj} {y : Value} {Q : Bool → Shared → Prop} (X : K.In s.heap) (I : PySem.W.InstAt s.heap x ox C od)
    (hs : PySem.W.findIn K (.ref C) "__contains__" = some (some (.ref f))) (hf : PySem.W.isFn K (.ref f) = true)
    (h : wpAny M A (call (.ref f) [.ref x, y]) (fun r s' => wpAny M A (truthy r) Q E s') E s) : wpAny M A (contains (.ref x) y) Q E s := by
  unfold contains
  refine wpAny_holding ?_
  show wpAny M A (specialOf (.ref x) "__contains__" >>= fun _ => _) Q E s
  refine wpAny_bind (wpAny_bind (I.type.here ((PySem.W.looks_findIn X hs).here ?_)))
  show wpAny M A (if (some (Value.ref f) == some Value.none) = true then _ else _) Q E s
  rw [if_neg (by simp)]
  refine wpAny_bind (m := callSpecialUnlessNone? (.ref x) "__contains__" [y] _) ?_
  unfold callSpecialUnlessNone?
  refine wpAny_bind (wpAny_bind (I.type.here ((PySem.W.looks_findIn X hs).here ?_)))
  refine wpAny_holding (wpAny_bind ((PySem.W.bind_fn X _ (beq_iff_eq.mp hf)).here ?_))
  show wpAny M A (if (Value.ref f == Value.none) = true then _ else _) _ E s
  rw [if_neg (by simp)]
  exact wpAny_bind (wpAny_mono h (fun r s' q => wpAny_pure q) fun _ _ z => z)
def rInO (K : PySem.W.Frag) (neg : Bool) (C : Addr) (sp : Sp) (E : XK) : R2 := fun y x H Q => ∃ a dx fs, x = .ref a ∧ H a = some (.ins C dx fs) ∧
  sp [.ref a, y] H (fun v H' => ∃ b : Bool, v = .bl b ∧ Q (.bl (if neg then !b else b)) H') E
/-- y in x by the own def that gives True or False -/
theorem op_inO (S : Spec1 X.K C "__contains__" f) (F : FnR X.prog X.w X.K X.mg X.base CX k f sp) (hr : Room k X.A) (hx : Passes CX X E) : OpR X (compareOp .In) (rInO X.K false C sp E) := by
  intro pins s σ H y x v u Q I ry rx h
  obtain ⟨a, dx, fs, rfl, ha, h⟩ := h
  obtain rfl : u = Value.ref a := rx
  obtain ⟨ox, od, J⟩ := inst_at I ha
  show wpAny _ _ (contains (.ref a) v >>= fun b => pure (Value.bool b)) _ _ _
  refine wpAny_bind (contains_K I.kIn J S.at_ S.fn (wpAny_mono (run_at (A := X.A) (us := [.ref a, v]) (vs := [.ref a, y]) F hr rfl hx I (.cons rfl (.cons ry .nil)) h) (fun r s' q => ?_) fun _ _ z => z))
  obtain ⟨w', H', I', rv, b, rfl, q⟩ := q
  cases rv
  exact wpAny_truthy_bool (wpAny_pure ⟨.bl b, H', I', rfl, q⟩)
theorem op_notInO (S : Spec1 X.K C "__contains__" f) (F : FnR X.prog X.w X.K X.mg X.base CX k f sp) (hr : Room k X.A) (hx : Passes CX X E) : OpR X (compareOp .NotIn) (rInO X.K true C sp E) := by
  intro pins s σ H y x v u Q I ry rx h
  obtain ⟨a, dx, fs, rfl, ha, h⟩ := h
  obtain rfl : u = Value.ref a := rx
  obtain ⟨ox, od, J⟩ := inst_at I ha
  show wpAny _ _ (contains (.ref a) v >>= fun b => pure (Value.bool (!b))) _ _ _
  refine wpAny_bind (contains_K I.kIn J S.at_ S.fn (wpAny_mono (run_at (A := X.A) (us := [.ref a, v]) (vs := [.ref a, y]) F hr rfl hx I (.cons rfl (.cons ry .nil)) h) (fun r s' q => ?_) fun _ _ z => z))
  obtain ⟨w', H', I', rv, b, rfl, q⟩ := q
  cases rv
  exact wpAny_truthy_bool (wpAny_pure ⟨.bl (!b), H', I', rfl, q⟩)
/-- bool(x) | truth by the own __bool__ -/
def rTruO (K : PySem.W.Frag) (C : Addr) (sp : Sp) (E : XK) : V → Hp → (Bool → Hp → Prop) → Prop := fun x H Q => ∃ a dx fs, x = .ref a ∧ H a = some (.ins C dx fs) ∧
  sp [.ref a] H (fun v H' => ∃ b : Bool, v = .bl b ∧ Q b H') E
theorem tru_own (S : Spec1 X.K C "__bool__" f) (F : FnR X.prog X.w X.K X.mg X.base CX k f sp) (hr : Room k X.A) (hx : Passes CX X E) : TruR X (rTruO X.K C sp E) := by
  intro pins s σ H x v Q I rx h
  obtain ⟨a, dx, fs, rfl, ha, h⟩ := h
  obtain rfl : v = Value.ref a := rx
  obtain ⟨ox, od, J⟩ := inst_at I ha
  obtain ⟨m, hF⟩ := I.fr
  refine PySem.W.truthy_K hF I.ok.mod.kin J S.at_ S.fn ?_
  refine wpAny_mono (run_at (A := X.A) (us := [.ref a]) (vs := [.ref a]) F hr rfl hx I (.cons rfl .nil) h) (fun r s' q => ?_) fun _ _ z => z
  obtain ⟨w', H', I', rv, b, rfl, q⟩ := q
  cases rv
  exact ⟨H', I', q⟩
theorem call_repr_bl : CallR X (.builtin "repr") (fun xs H Q => ∃ b, xs = [.bl b] ∧ Q (.str (if b then "True" else "False")) H) := by
  intro pins s σ H xs us Q I r h
  obtain ⟨b, rfl, q⟩ := h
  obtain ⟨u, rfl, rfl⟩ := vals1 r
  exact PySem.P.repr_of_bool ⟨.str _, H, I.tok _, ⟨_, rfl⟩, q⟩
end
end Lx
set_option Elab.async false
set_option linter.all false
set_option maxRecDepth 100000
set_option maxHeartbeats 2000000
/-! heaps that change at one address; dict comprehensions over any walk; two lists of one content -/
namespace Lx
open PySem PySem.Spec PyProof.Rows L2
/-- all that was tracked is as it was, but at the addresses of S -/
def Chg (S : List Addr) (H H' : Hp) : Prop := ∀ a o, a ∉ S → H a = some o → H' a = some o
theorem Chg.refl {S : List Addr} {H : Hp} : Chg S H H := fun _ _ _ h => h
theorem Chg.of {S : List Addr} {H H' : Hp} (s : Same H H') : Chg S H H' := fun a o _ h => s a o h
theorem Chg.trans {S : List Addr} {H H1 H2 : Hp} (x : Chg S H H1) (y : Chg S H1 H2) : Chg S H H2 := fun a o n h => y a o n (x a o n h)
theorem Chg.mono {S T : List Addr} {H H' : Hp} (x : Chg S H H') (h : ∀ a ∈ S, a ∈ T) : Chg T H H' := fun a o n e => x a o (fun z => n (h a z)) e
theorem Chg.upd {b : Addr} {S : List Addr} {H : Hp} {o : HO} : Chg (b :: S) H (L2.upd H b o) := fun a u n h => by
  rw [upd_ne (fun e => n (by rw [e]; exact List.mem_cons_self))]
  exact h
theorem Chg.updm {b : Addr} {S : List Addr} {H : Hp} {o : HO} (m : b ∈ S) : Chg S H (L2.upd H b o) := fun a u n h => by
  rw [upd_ne (fun e => n (by rw [e]; exact m))]
  exact h
theorem Same.new {H : Hp} {p : Addr} {o : HO} (n : H p = none) : Same H (L2.upd H p o) := fun a u h => by
  rw [upd_ne (ne_of_none h n)]
  exact h
theorem Chg.new {S : List Addr} {H : Hp} {p : Addr} {o : HO} (n : H p = none) : Chg S H (L2.upd H p o) := Chg.of (Same.new n)
theorem none_ne {H : Hp} {a p : Addr} {o : HO} (h : H a = some o) (n : H p = none) : p ≠ a := fun e => by
  rw [e, h] at n
  cases n
/-- an old heap is kept by what changes things that it does not know -/
theorem Same.chg {H0 H H' : Hp} {S : List Addr} (s : Same H0 H) (n : ∀ b ∈ S, H0 b = none) (c : Chg S H H') : Same H0 H' := fun a o h => c a o (fun m => by
  rw [n a m] at h
  cases h) (s a o h)
theorem Same.mut {H0 H : Hp} {b : Addr} {o : HO} (s : Same H0 H) (n : H0 b = none) : Same H0 (L2.upd H b o) := Same.chg (S := [b]) s (fun c hc => by
  rw [List.mem_singleton.mp hc]
  exact n) Chg.upd
/-- what the old heap does not know may change -/
theorem Chg.mut {S : List Addr} {H H' : Hp} {p : Addr} {o : HO} (c : Chg S H H') (n : H p = none) : Chg S H (L2.upd H' p o) := fun a u m h => by
  rw [upd_ne (ne_of_none h n)]
  exact c a u m h
/-- a fresh thing behind a change was fresh before -/
theorem Chg.back {S : List Addr} {H H' : Hp} {p : Addr} (c : Chg S H H') (n : H' p = none) (h : p ∉ S) : H p = none := by
  cases e : H p with
  | none => rfl
  | some o =>
    rw [c _ _ h e] at n
    cases n
theorem all1 {P : Addr → Prop} {b : Addr} (h : P b) : ∀ x ∈ [b], P x := fun x hx => by
  rw [List.mem_singleton.mp hx]
  exact h
theorem all2 {P : Addr → Prop} {b c : Addr} (h : P b) (h2 : P c) : ∀ x ∈ [b, c], P x := fun x hx => by
  rcases List.mem_cons.mp hx with e | hx
  · rw [e]; exact h
  · rw [List.mem_singleton.mp hx]; exact h2
theorem all3 {P : Addr → Prop} {b c d : Addr} (h : P b) (h2 : P c) (h3 : P d) : ∀ x ∈ [b, c, d], P x := fun x hx => by
  rcases List.mem_cons.mp hx with e | hx
  · rw [e]; exact h
  · exact all2 h2 h3 x hx
theorem no1 {a b : Addr} (h : a ≠ b) : a ∉ [b] := fun m => h (List.mem_singleton.mp m)
theorem no2 {a b c : Addr} (h : a ≠ b) (h2 : a ≠ c) : a ∉ [b, c] := fun m => by
  rcases List.mem_cons.mp m with e | m
  · exact h e
  · exact no1 h2 m
theorem no3 {a b c d : Addr} (h : a ≠ b) (h2 : a ≠ c) (h3 : a ≠ d) : a ∉ [b, c, d] := fun m => by
  rcases List.mem_cons.mp m with e | m
  · exact h e
  · exact no2 h2 h3 m
/-- a fresh address stands apart from all that is there -/
theorem new_no {S : List Addr} {H : Hp} {p : Addr} (n : H p = none) (h : ∀ b ∈ S, ∃ o, H b = some o) : p ∉ S := fun m => by
  obtain ⟨o, e⟩ := h p m
  rw [n] at e
  cases e
/-- a thing that stands apart from S -/
def Lv (S : List Addr) (H : Hp) (a : Addr) (o : HO) : Prop := a ∉ S ∧ H a = some o
theorem Lv.mv {S : List Addr} {a : Addr} {H H' : Hp} {o : HO} (l : Lv S H a o) (c : Chg S H H') : Lv S H' a o := ⟨l.1, c a o l.1 l.2⟩
theorem keep_set {H : Hp} {x a : Addr} {o u : HO} (h : a ≠ x) (e : H a = some o) : L2.upd H x u a = some o := by
  rw [upd_ne h]
  exact e
theorem Same.back {H H' : Hp} {p : Addr} (s : Same H H') (n : H' p = none) : H p = none := by
  cases e : H p with
  | none => rfl
  | some o =>
    rw [s _ _ e] at n
    cases n
theorem seqT_same {K : PySem.W.Frag} {H H' : Hp} {a : Addr} {xs : List V} (e : Same H H') (h : SqT K H a xs) : SqT K H' a xs := by
  rcases h with (h | ⟨o, h⟩) | h
  · exact .inl (.inl (e _ _ h))
  · exact .inl (.inr ⟨o, e _ _ h⟩)
  · exact .inr h
/-- a dict comprehension over any walk -/
theorem dc_it {J : It} {n : Nat} {G : Hp → Prop} {Y : Nat → Hp → V → Hp → Prop} (w : Walk J n G Y) {g : TG} {tt : TT} {tk tv : TE} {vs : List Nat} {σ : L2.St} {H1 : Hp} {D : Addr} {Qd : Hp → Prop} (Pv : Nat → Hp → Prop) (h0 : Pv 0 (upd H1 D (.dK []))) (hG : ∀ i H, i ≤ n → Pv i H → G H)
    (hs : ∀ i x H H', i < n → Pv i H → Y i H x H' → g x (wipe σ vs) H' fun σ2 H2 => wipe σ2 vs = wipe σ vs ∧ tt σ2 H2 fun b H3 =>
      if b = true then tk σ2 H3 fun y H4 => tv σ2 H4 fun z H5 => ∃ kvs k, y = kV k ∧ H5 D = some (.dK kvs) ∧ kvs.length < sizeLine ∧ Pv (i + 1) (upd H5 D (.dK (putK kvs k z))) else Pv (i + 1) H3) (hd : ∀ H, Pv n H → Qd H) :
    ∃ W : Nat → Nat → Hp → Prop, (∃ m, W 0 m (upd H1 D (.dK []))) ∧ ∀ i m H, W i m H →
      (J.stop i H ∧ Qd H) ∨ (J.go i H ∧ ∃ Nx : Hp → Prop, (∀ H', Nx H' → ∃ m', m' < m ∧ W (i + 1) m' H') ∧ ∀ x H', J.yld i H x H' → g x (wipe σ vs) H' fun σ2 H2 => wipe σ2 vs = wipe σ vs ∧ tt σ2 H2 fun b H3 =>
        if b = true then tk σ2 H3 fun y H4 => tv σ2 H4 fun z H5 => ∃ kvs k, y = kV k ∧ H5 D = some (.dK kvs) ∧ kvs.length < sizeLine ∧ Nx (upd H5 D (.dK (putK kvs k z))) else Nx H3) := by
  refine ⟨fun i m H => m = n - i ∧ i ≤ n ∧ Pv i H, ⟨n, by simp, Nat.zero_le _, h0⟩, ?_⟩
  rintro i m H ⟨rfl, hi, p⟩
  have q := hG i H hi p
  by_cases hlt : i < n
  · refine .inr ⟨w.goes i H hlt q, Pv (i + 1), fun H' p' => ⟨n - (i + 1), by omega, rfl, hlt, p'⟩, fun x H' y => hs i x H H' hlt p (w.yields i H x H' hlt q y)⟩
  · have e : i = n := by omega
    subst e
    exact .inl ⟨w.stops H q, hd H p⟩
/-! ### plain lists -/
theorem nodup_len {α : Type} [DecidableEq α] : ∀ (l m : List α), l.Nodup → (∀ x ∈ l, x ∈ m) → l.length ≤ m.length
  | [], _, _, _ => Nat.zero_le _
  | a :: l, m, hn, hs => by
    have ha := hs a List.mem_cons_self
    have ih := nodup_len l (m.erase a) (List.nodup_cons.mp hn).2 fun x hx => by
      have hxa : x ≠ a := fun e => (List.nodup_cons.mp hn).1 (e ▸ hx)
      exact (List.mem_erase_of_ne hxa).mpr (hs x (List.mem_cons_of_mem _ hx))
    rw [List.length_erase_of_mem ha] at ih
    have := List.length_pos_of_mem ha
    rw [List.length_cons]; omega
theorem nodup_same {α : Type} [DecidableEq α] (l m : List α) (hl : l.Nodup) (hm : m.Nodup) (h : ∀ x, x ∈ l ↔ x ∈ m) : l.length = m.length :=
  Nat.le_antisymm (nodup_len l m hl fun x => (h x).mp) (nodup_len m l hm fun x => (h x).mpr)
/-- the different items, by their first places -/
def dd {α : Type} [DecidableEq α] (ns : List α) : List α := ns.foldl (fun acc n => if n ∈ acc then acc else acc ++ [n]) []
theorem dd_snoc {α : Type} [DecidableEq α] (ns : List α) (n : α) : dd (ns ++ [n]) = if n ∈ dd ns then dd ns else dd ns ++ [n] := by
  unfold dd; rw [List.foldl_append]; rfl
theorem dd_facts {α : Type} [DecidableEq α] (ns : List α) : (dd ns).Nodup ∧ (∀ x, x ∈ dd ns ↔ x ∈ ns) ∧ (dd ns).length ≤ ns.length := by
  suffices h : ∀ k, (dd (ns.take k)).Nodup ∧ (∀ x, x ∈ dd (ns.take k) ↔ x ∈ ns.take k) ∧ (dd (ns.take k)).length ≤ (ns.take k).length by
    have := h ns.length
    rwa [List.take_length] at this
  intro k
  induction k with
  | zero => simp [dd]
  | succ k ih =>
    by_cases hk : k < ns.length
    · rw [List.take_succ_eq_append_getElem hk, dd_snoc]
      obtain ⟨h1, h2, h3⟩ := ih
      split
      · rename_i hm
        refine ⟨h1, fun x => ?_, by rw [List.length_append]; omega⟩
        rw [h2, List.mem_append, List.mem_singleton]
        constructor
        · exact Or.inl
        · rintro (h | rfl)
          · exact h
          · exact (h2 _).mp hm
      · rename_i hm
        refine ⟨?_, fun x => ?_, by simp only [List.length_append, List.length_singleton]; omega⟩
        · rw [List.nodup_append]
          refine ⟨h1, by simp, fun a ha b hb e => ?_⟩
          rw [List.mem_singleton] at hb
          subst hb; subst e
          exact hm ha
        · rw [List.mem_append, List.mem_append, h2]
    · rw [List.take_of_length_le (by omega)] at ih ⊢
      exact ih
theorem inV_int (n : Int) (ns : List Int) : inV (.int n) (ns.map V.int) = decide (n ∈ ns) := by
  unfold inV
  induction ns with
  | nil => rfl
  | cons m r ih =>
    rw [List.map_cons, List.any_cons, ih]
    have e : eqV (.int m) (.int n) = decide (n = m) := by
      show (m == n) = decide (n = m)
      rw [Bool.beq_comm, Bool.beq_eq_decide_eq]
    rw [e]
    by_cases h : n = m
    · subst h; simp
    · by_cases h2 : n ∈ r
      · simp [h, h2]
      · simp [h, h2]
theorem flat_ints (ns : List Int) : (ns.map V.int).all flatV = true := by
  rw [List.all_eq_true]
  intro x hx
  obtain ⟨n, _, rfl⟩ := List.mem_map.mp hx
  rfl
theorem get_int {ns : List Int} {i : Nat} {x : V} (h : (ns.map V.int)[i]? = some x) : ∃ n, ns[i]? = some n ∧ x = .int n := by
  rw [List.getElem?_map] at h
  cases e : ns[i]? with
  | none => rw [e] at h; cases h
  | some u => rw [e] at h; exact ⟨u, rfl, (Option.some.inj h).symm⟩
theorem cut_front {xs : List V} {k : Nat} (h : k ≤ xs.length) : cutV xs none (some (k : Int)) = xs.take k := by
  unfold cutV
  rw [HT.sIx_none, HT.sIx_nat]
  simp [Nat.min_eq_left h]
theorem cut_front_le {xs : List V} {k : Nat} : cutV xs none (some (k : Int)) = xs.take k := by
  unfold cutV
  rw [HT.sIx_none, HT.sIx_nat, List.drop_zero, Nat.sub_zero]
  rw [List.take_eq_take_iff]; omega
theorem cut_back {xs : List V} {k : Nat} : cutV xs (some (k : Int)) none = xs.drop k := by
  unfold cutV
  rw [HT.sIx_none, HT.sIx_nat]
  by_cases h : k ≤ xs.length
  · rw [Nat.min_eq_left h, List.take_of_length_le (by rw [List.length_drop]; omega)]
  · rw [Nat.min_eq_right (by omega), List.drop_of_length_le (Nat.le_refl _), List.drop_of_length_le (by omega)]
    try simp
end Lx
set_option Elab.async false
set_option linter.all false
set_option maxRecDepth 100000
set_option maxHeartbeats 2000000
/-! readings joined behind a conditional expression -/
namespace Lx
open PySem PySem.Spec PyProof.Rows L2
section
variable {σ : L2.St} {H : Hp} {t : TT} {ta tb : TE} {Q : VK} {c : Bool}
/-- a if t else b: both give an int, which one is forgotten -/
theorem if_int (ht : Ans t σ H c) (ha : c = true → ∃ n : Int, Val ta σ H (.int n)) (hb : c = false → ∃ n : Int, Val tb σ H (.int n)) (rest : ∀ n : Int, Q (.int n) H) : tIf t ta tb σ H Q := by
  refine ht _ ?_
  cases c with
  | true => obtain ⟨n, h⟩ := ha rfl; exact h _ (rest n)
  | false => obtain ⟨n, h⟩ := hb rfl; exact h _ (rest n)
/-- the same with what is known of the int -/
theorem if_intP (P : Int → Prop) (ht : Ans t σ H c) (ha : c = true → ∃ n : Int, P n ∧ Val ta σ H (.int n)) (hb : c = false → ∃ n : Int, P n ∧ Val tb σ H (.int n)) (rest : ∀ n : Int, P n → Q (.int n) H) : tIf t ta tb σ H Q := by
  refine ht _ ?_
  cases c with
  | true => obtain ⟨n, hp, h⟩ := ha rfl; exact h _ (rest n hp)
  | false => obtain ⟨n, hp, h⟩ := hb rfl; exact h _ (rest n hp)
/-- values of any kind -/
theorem if_valP (P : V → Prop) (ht : Ans t σ H c) (ha : c = true → ∃ v : V, P v ∧ Val ta σ H v) (hb : c = false → ∃ v : V, P v ∧ Val tb σ H v) (rest : ∀ v : V, P v → Q v H) : tIf t ta tb σ H Q := by
  refine ht _ ?_
  cases c with
  | true => obtain ⟨n, hp, h⟩ := ha rfl; exact h _ (rest n hp)
  | false => obtain ⟨n, hp, h⟩ := hb rfl; exact h _ (rest n hp)
end
theorem dec_true {c : Prop} [Decidable c] (h : decide c = true) : c := of_decide_eq_true h
theorem dec_false {c : Prop} [Decidable c] (h : decide c = false) : ¬ c := of_decide_eq_false h
end Lx
set_option Elab.async false
set_option linter.all false
set_option maxRecDepth 100000
set_option maxHeartbeats 2000000
/-! rules whose reading names the written part K itself (within a comprehension's block the context is another one, its K the same) -/
namespace Lx
open PySem PySem.Spec PyProof.Rows L2
section
variable {X : Cx} {K : PySem.W.Frag}
theorem ix_listK (e : X.K = K) : IxR X (rIxL K) := e ▸ ix_list
theorem ix_tupK (e : X.K = K) : IxR X (rIxT K) := e ▸ ix_tup
theorem sl_listK (e : X.K = K) : SlR X (rSlL K) := e ▸ sl_list
theorem sl_tupK (e : X.K = K) : SlR X (rSlT K) := e ▸ sl_tup
theorem op_in_seqK (e : X.K = K) : OpR X (compareOp .In) (rIn K false) := e ▸ op_in_seq
theorem op_notIn_seqK (e : X.K = K) : OpR X (compareOp .NotIn) (rIn K true) := e ▸ op_notIn_seq
theorem op_eqDK (e : X.K = K) (hu : X.A.units + 64 < cLine) : OpR X (compareOp .Eq) (rEqD K) := e ▸ op_eqD hu
theorem op_neDK (e : X.K = K) (hu : X.A.units + 64 < cLine) : OpR X (compareOp .NotEq) (rNeD K) := e ▸ op_neD hu
theorem op_catTK (e : X.K = K) : OpR X (binaryOp .Add) (rCatT K) := e ▸ op_catT
/-- len of a list or tuple -/
def rLenQ (K : PySem.W.Frag) : List V → Hp → VK → Prop := fun xs H Q => ∃ p ys, xs = [.ref p] ∧ (SqL K H p ys ∨ SqT K H p ys) ∧ Q (.int ys.length) H
theorem call_len_seqK (e : X.K = K) : CallR X (.builtin "len") (rLenQ K) := e ▸ call_len_seq
def rListOf (K : PySem.W.Frag) : List V → Hp → VK → Prop := fun xs H Q => ∃ p ys, xs = [.ref p] ∧ (SqL K H p ys ∨ SqT K H p ys) ∧ ∀ l, H l = none → Q (.ref l) (upd H l (.lst ys))
theorem call_list_ofK (e : X.K = K) : CallR X (.type "list") (rListOf K) := e ▸ call_list_of
theorem pe_fldK {o : Expr} {ta : TE} {f : Str} {pos : Pos} (e : X.K = K) (he : PE X o ta) (hb : attributeBase o f X.env (eval o X.env) = eval o X.env) : PE X (.Attribute o f pos) (tFld K ta f) := e ▸ pe_fld he hb
end
end Lx
set_option Elab.async false
set_option linter.all false
set_option maxRecDepth 100000
set_option maxHeartbeats 4000000
namespace K90
open PySem L2 Lx
def top (i : Nat) : Stmt := PySem.Challenge.pw_latequestions_k90_members_and_powers.main.body.getD i (.Pass ⟨0, 0, 0, 0⟩)
abbrev s_MembersU_initU : Stmt := inClass (top 1) 0
theorem sc_MembersU_initU : FnScope ["self", "values", "value"] ["self", "values"] (defScope s_MembersU_initU) := ⟨rfl, rfl, rfl, by decide +kernel, rfl, by decide +kernel, by decide +kernel⟩
abbrev s_MembersU_callU : Stmt := inClass (top 1) 1
theorem sc_MembersU_callU : FnScope ["self", "value"] ["self", "value"] (defScope s_MembersU_callU) := ⟨rfl, rfl, rfl, by decide +kernel, rfl, by decide +kernel, by decide +kernel⟩
abbrev s_MembersU_containsU : Stmt := inClass (top 1) 2
theorem sc_MembersU_containsU : FnScope ["self", "value"] ["self", "value"] (defScope s_MembersU_containsU) := ⟨rfl, rfl, rfl, by decide +kernel, rfl, by decide +kernel, by decide +kernel⟩
abbrev s_MembersU_lenU : Stmt := inClass (top 1) 3
theorem sc_MembersU_lenU : FnScope ["self"] ["self"] (defScope s_MembersU_lenU) := ⟨rfl, rfl, rfl, by decide +kernel, rfl, by decide +kernel, by decide +kernel⟩
abbrev s_PowersU_initU : Stmt := inClass (top 2) 0
theorem sc_PowersU_initU : FnScope ["self", "first", "by"] ["self", "first", "by"] (defScope s_PowersU_initU) := ⟨rfl, rfl, rfl, by decide +kernel, rfl, by decide +kernel, by decide +kernel⟩
abbrev s_PowersU_callU : Stmt := inClass (top 2) 1
theorem sc_PowersU_callU : FnScope ["self", "n", "key"] ["self", "n", "key"] (defScope s_PowersU_callU) := ⟨rfl, rfl, rfl, by decide +kernel, rfl, by decide +kernel, by decide +kernel⟩
abbrev s__law_bag : Stmt := top 4
theorem sc__law_bag : FnScope ["script", "at", "cell", "mixed", "k", "each"] ["script", "at"] (defScope s__law_bag) := ⟨rfl, rfl, rfl, by decide +kernel, rfl, by decide +kernel, by decide +kernel⟩
abbrev s__law_take : Stmt := top 5
theorem sc__law_take : FnScope ["bag", "many", "digit"] ["bag", "many"] (defScope s__law_take) := ⟨rfl, rfl, rfl, by decide +kernel, rfl, by decide +kernel, by decide +kernel⟩
abbrev s__law_of : Stmt := top 6
theorem sc__law_of : FnScope ["bag", "some"] ["bag", "some"] (defScope s__law_of) := ⟨rfl, rfl, rfl, by decide +kernel, rfl, by decide +kernel, by decide +kernel⟩
abbrev s__law_far : Stmt := top 7
theorem sc__law_far : FnScope ["bag", "number"] ["bag"] (defScope s__law_far) := ⟨rfl, rfl, rfl, by decide +kernel, rfl, by decide +kernel, by decide +kernel⟩
abbrev s_law : Stmt := top 8
theorem sc_law : FnScope ["script", "at", "bag", "some", "k", "handed", "members", "others", "once", "one", "number", "begin", "far", "n", "key", "due"] ["script"] (defScope s_law) := ⟨rfl, rfl, rfl, by decide +kernel, rfl, by decide +kernel, by decide +kernel⟩
/-- where the defs and classes stand -/
structure Ad where
  c_Members : Addr
  c_Powers : Addr
  a_MembersU_initU : Addr
  a_MembersU_callU : Addr
  a_MembersU_containsU : Addr
  a_MembersU_lenU : Addr
  a_PowersU_initU : Addr
  a_PowersU_callU : Addr
  a__law_bag : Addr
  a__law_take : Addr
  a__law_of : Addr
  a__law_far : Addr
  d_MembersU_initU : FuncData
  d_MembersU_callU : FuncData
  d_MembersU_containsU : FuncData
  d_MembersU_lenU : FuncData
  d_PowersU_initU : FuncData
  d_PowersU_callU : FuncData
  d__law_bag : FuncData
  d__law_take : FuncData
  d__law_of : FuncData
  d__law_far : FuncData
abbrev FnP (K : PySem.W.Frag) (x q : Str) (st : Stmt) (dvs : List V) (f : Addr) (fd : FuncData) : Prop := FunD K x q (defArgs st) (defBody st) (defScope st) dvs [] f fd
/-- what the written part says of them -/
structure Tx (K : PySem.W.Frag) (mg : Str → Option Value) (a : Ad) : Prop where
  mg_Members : mg "Members" = some (.ref a.c_Members)
  cl_Members : Cls K a.c_Members
  mk_Members : Mk K a.c_Members a.a_MembersU_initU
  na_Members_members : NoAttr K a.c_Members "members"
  mg_Powers : mg "Powers" = some (.ref a.c_Powers)
  cl_Powers : Cls K a.c_Powers
  mk_Powers : Mk K a.c_Powers a.a_PowersU_initU
  na_Powers_first : NoAttr K a.c_Powers "first"
  na_Powers_by : NoAttr K a.c_Powers "by"
  F_MembersU_initU : Fun K "__init__" "Members.__init__" s_MembersU_initU a.a_MembersU_initU a.d_MembersU_initU
  at_MembersU_initU : PySem.W.findIn K (.ref a.c_Members) "__init__" = some (some (.ref a.a_MembersU_initU))
  fn_MembersU_initU : PySem.W.isFn K (.ref a.a_MembersU_initU) = true
  F_MembersU_callU : Fun K "__call__" "Members.__call__" s_MembersU_callU a.a_MembersU_callU a.d_MembersU_callU
  at_MembersU_callU : PySem.W.findIn K (.ref a.c_Members) "__call__" = some (some (.ref a.a_MembersU_callU))
  fn_MembersU_callU : PySem.W.isFn K (.ref a.a_MembersU_callU) = true
  fi_MembersU_callU : PySem.W.fnIn K a.a_MembersU_callU = true
  F_MembersU_containsU : Fun K "__contains__" "Members.__contains__" s_MembersU_containsU a.a_MembersU_containsU a.d_MembersU_containsU
  at_MembersU_containsU : PySem.W.findIn K (.ref a.c_Members) "__contains__" = some (some (.ref a.a_MembersU_containsU))
  fn_MembersU_containsU : PySem.W.isFn K (.ref a.a_MembersU_containsU) = true
  F_MembersU_lenU : Fun K "__len__" "Members.__len__" s_MembersU_lenU a.a_MembersU_lenU a.d_MembersU_lenU
  at_MembersU_lenU : PySem.W.findIn K (.ref a.c_Members) "__len__" = some (some (.ref a.a_MembersU_lenU))
  fn_MembersU_lenU : PySem.W.isFn K (.ref a.a_MembersU_lenU) = true
  F_PowersU_initU : FnP K "__init__" "Powers.__init__" s_PowersU_initU [.int 0, .int 1] a.a_PowersU_initU a.d_PowersU_initU
  at_PowersU_initU : PySem.W.findIn K (.ref a.c_Powers) "__init__" = some (some (.ref a.a_PowersU_initU))
  fn_PowersU_initU : PySem.W.isFn K (.ref a.a_PowersU_initU) = true
  F_PowersU_callU : Fun K "__call__" "Powers.__call__" s_PowersU_callU a.a_PowersU_callU a.d_PowersU_callU
  at_PowersU_callU : PySem.W.findIn K (.ref a.c_Powers) "__call__" = some (some (.ref a.a_PowersU_callU))
  fn_PowersU_callU : PySem.W.isFn K (.ref a.a_PowersU_callU) = true
  fi_PowersU_callU : PySem.W.fnIn K a.a_PowersU_callU = true
  F__law_bag : Fun K "_law_bag" "_law_bag" s__law_bag a.a__law_bag a.d__law_bag
  mg__law_bag : mg "_law_bag" = some (.ref a.a__law_bag)
  F__law_take : Fun K "_law_take" "_law_take" s__law_take a.a__law_take a.d__law_take
  mg__law_take : mg "_law_take" = some (.ref a.a__law_take)
  F__law_of : Fun K "_law_of" "_law_of" s__law_of a.a__law_of a.d__law_of
  mg__law_of : mg "_law_of" = some (.ref a.a__law_of)
  F__law_far : Fun K "_law_far" "_law_far" s__law_far a.a__law_far a.d__law_far
  mg__law_far : mg "_law_far" = some (.ref a.a__law_far)
  z_abs : mg "abs" = none
  z_enumerate : mg "enumerate" = none
  z_int : mg "int" = none
  z_len : mg "len" = none
  z_list : mg "list" = none
  z_max : mg "max" = none
  z_min : mg "min" = none
  z_range : mg "range" = none
  z_repr : mg "repr" = none
  z_tuple : mg "tuple" = none
section
variable {K : PySem.W.Frag} {mg : Str → Option Value} {a : Ad}
theorem Tx.m_MembersU_initU (T : Tx K mg a) : Meth K a.c_Members "__init__" a.a_MembersU_initU := ⟨T.at_MembersU_initU, T.fn_MembersU_initU, T.F_MembersU_initU.kp⟩
theorem Tx.b_MembersU_initU (T : Tx K mg a) : Binds K a.d_MembersU_initU ["self", "values"] [] := T.F_MembersU_initU.binds (ps := ["self", "values"]) fun _ _ _ _ _ _ us hl => match us, hl with | [_, _], _ => rfl
theorem Tx.m_MembersU_callU (T : Tx K mg a) : Meth K a.c_Members "__call__" a.a_MembersU_callU := ⟨T.at_MembersU_callU, T.fn_MembersU_callU, T.F_MembersU_callU.kp⟩
theorem Tx.b_MembersU_callU (T : Tx K mg a) : Binds K a.d_MembersU_callU ["self", "value"] [] := T.F_MembersU_callU.binds (ps := ["self", "value"]) fun _ _ _ _ _ _ us hl => match us, hl with | [_, _], _ => rfl
theorem Tx.m_MembersU_containsU (T : Tx K mg a) : Meth K a.c_Members "__contains__" a.a_MembersU_containsU := ⟨T.at_MembersU_containsU, T.fn_MembersU_containsU, T.F_MembersU_containsU.kp⟩
theorem Tx.b_MembersU_containsU (T : Tx K mg a) : Binds K a.d_MembersU_containsU ["self", "value"] [] := T.F_MembersU_containsU.binds (ps := ["self", "value"]) fun _ _ _ _ _ _ us hl => match us, hl with | [_, _], _ => rfl
theorem Tx.m_MembersU_lenU (T : Tx K mg a) : Meth K a.c_Members "__len__" a.a_MembersU_lenU := ⟨T.at_MembersU_lenU, T.fn_MembersU_lenU, T.F_MembersU_lenU.kp⟩
theorem Tx.b_MembersU_lenU (T : Tx K mg a) : Binds K a.d_MembersU_lenU ["self"] [] := T.F_MembersU_lenU.binds (ps := ["self"]) fun _ _ _ _ _ _ us hl => match us, hl with | [_], _ => rfl
theorem Tx.m_PowersU_initU (T : Tx K mg a) : Meth K a.c_Powers "__init__" a.a_PowersU_initU := ⟨T.at_PowersU_initU, T.fn_PowersU_initU, T.F_PowersU_initU.kp⟩
theorem Tx.m_PowersU_callU (T : Tx K mg a) : Meth K a.c_Powers "__call__" a.a_PowersU_callU := ⟨T.at_PowersU_callU, T.fn_PowersU_callU, T.F_PowersU_callU.kp⟩
theorem Tx.b_PowersU_callU (T : Tx K mg a) : Binds K a.d_PowersU_callU ["self", "n", "key"] [] := T.F_PowersU_callU.binds (ps := ["self", "n", "key"]) fun _ _ _ _ _ _ us hl => match us, hl with | [_, _, _], _ => rfl
theorem Tx.kp__law_bag (T : Tx K mg a) : PySem.W.keepIn K (.ref a.a__law_bag) = true := T.F__law_bag.kp
theorem Tx.b__law_bag (T : Tx K mg a) : Binds K a.d__law_bag ["script", "at"] [] := T.F__law_bag.binds (ps := ["script", "at"]) fun _ _ _ _ _ _ us hl => match us, hl with | [_, _], _ => rfl
theorem Tx.kp__law_take (T : Tx K mg a) : PySem.W.keepIn K (.ref a.a__law_take) = true := T.F__law_take.kp
theorem Tx.b__law_take (T : Tx K mg a) : Binds K a.d__law_take ["bag", "many"] [] := T.F__law_take.binds (ps := ["bag", "many"]) fun _ _ _ _ _ _ us hl => match us, hl with | [_, _], _ => rfl
theorem Tx.kp__law_of (T : Tx K mg a) : PySem.W.keepIn K (.ref a.a__law_of) = true := T.F__law_of.kp
theorem Tx.b__law_of (T : Tx K mg a) : Binds K a.d__law_of ["bag", "some"] [] := T.F__law_of.binds (ps := ["bag", "some"]) fun _ _ _ _ _ _ us hl => match us, hl with | [_, _], _ => rfl
theorem Tx.kp__law_far (T : Tx K mg a) : PySem.W.keepIn K (.ref a.a__law_far) = true := T.F__law_far.kp
theorem Tx.b__law_far (T : Tx K mg a) : Binds K a.d__law_far ["bag"] [] := T.F__law_far.binds (ps := ["bag"]) fun _ _ _ _ _ _ us hl => match us, hl with | [_], _ => rfl
end
/-- how keywords are laid: (by, first), (by) -/
def kgB {α : Type} (us _its ws : List α) : List α := match ws with
  | [y, z] => us ++ [z, y]
  | _ => us
def kgA {α : Type} (us its ws : List α) : List α := us ++ its.take 1 ++ ws
theorem kgB_rel {vs ds zs : List V} {us its ws : List Value} (r1 : Vals vs us) (r3 : Vals zs ws) : Vals (kgB vs ds zs) (kgB us its ws) := by
  unfold kgB
  cases r3 with
  | nil => exact r1
  | cons p q =>
    cases q with
    | nil => exact r1
    | cons p2 q2 =>
      cases q2 with
      | nil => exact r1.append (.cons p2 (.cons p .nil))
      | cons _ _ => exact r1
section
variable {K : PySem.W.Frag} {mg : Str → Option Value} {a : Ad}
theorem Tx.b_pow2 (T : Tx K mg a) : ∃ ds, Vals (([.int 0, .int 1] : List V).drop 2) ds ∧ Binds K a.d_PowersU_initU ["self", "first", "by"] ds := T.F_PowersU_initU.binds1 (ps := ["self", "first", "by"]) 3 2 (by simp) rfl fun T kV doc pm an cdv ct us its hl hi => match us, hl, its, hi with
  | [_, _, _], _, [_, _], _ => ⟨_, rfl, rfl⟩
theorem Tx.b_pow1 (T : Tx K mg a) : ∃ ds, Vals (([.int 0, .int 1] : List V).drop 1) ds ∧ Binds K a.d_PowersU_initU ["self", "first", "by"] ds := T.F_PowersU_initU.binds1 (ps := ["self", "first", "by"]) 2 1 (by simp) rfl fun T kV doc pm an cdv ct us its hl hi => match us, hl, its, hi with
  | [_, _], _, [_, _], _ => ⟨_, rfl, rfl⟩
theorem Tx.b_pow0 (T : Tx K mg a) : ∃ ds, Vals (([.int 0, .int 1] : List V).drop 0) ds ∧ Binds K a.d_PowersU_initU ["self", "first", "by"] ds := T.F_PowersU_initU.binds1 (ps := ["self", "first", "by"]) 1 0 (by simp) rfl fun T kV doc pm an cdv ct us its hl hi => match us, hl, its, hi with
  | [_], _, [_, _], _ => ⟨_, rfl, rfl⟩
theorem Tx.kb2 (T : Tx K mg a) : ∃ its : List Value, KBn K a.d_PowersU_initU ["self", "first", "by"] 1 ["by", "first"] (fun us ws => kgB us its ws) (fun vs zs => kgB vs [.int 0, .int 1] zs) :=
  FunD.kbindsD T.F_PowersU_initU 1 ["by", "first"] kgB (by simp) (fun r1 _ r3 => kgB_rel r1 r3) fun T kV doc pm an cdv ct us its ws hl hi hw => match us, hl, its, hi, ws, hw with
  | [_], _, [_, _], _, [_, _], _ => ⟨_, rfl, rfl⟩
theorem Tx.kb1 (T : Tx K mg a) : ∃ its : List Value, KBn K a.d_PowersU_initU ["self", "first", "by"] 1 ["by"] (fun us ws => kgA us its ws) (fun vs zs => kgA vs [.int 0, .int 1] zs) :=
  FunD.kbindsD T.F_PowersU_initU 1 ["by"] kgA (by simp) (fun r1 r2 r3 => (r1.append (r2.take 1)).append r3) fun T kV doc pm an cdv ct us its ws hl hi hw => match us, hl, its, hi, ws, hw with
  | [_], _, [_, _], _, [_], _ => ⟨_, rfl, rfl⟩
end
end K90
set_option Elab.async false
set_option linter.all false
set_option maxRecDepth 100000
set_option maxHeartbeats 4000000
namespace K90
open PySem L2 Lx
/-! ### the classes -/
def dk (ns : List Int) : List (Key × V) := (dd ns).map fun n => (Sum.inl n, V.bl true)
theorem dk_len (ns : List Int) : (dk ns).length = (dd ns).length := by unfold dk; rw [List.length_map]
theorem dk_val (ns : List Int) (n : Int) : (valV (dk ns) (Sum.inl n)).isSome = decide (n ∈ ns) := by
  rw [← valV_any]
  have e : ((dk ns).any fun kv => decide (kv.1 = (Sum.inl n : Key))) = decide (n ∈ dd ns) := by
    unfold dk
    rw [List.any_map, Bool.eq_iff_iff, List.any_eq_true, decide_eq_true_iff]
    constructor
    · rintro ⟨m, hm, e⟩
      have e' : (Sum.inl m : Key) = Sum.inl n := of_decide_eq_true e
      rw [← Sum.inl.inj e']
      exact hm
    · intro hm
      exact ⟨n, hm, decide_eq_true rfl⟩
  rw [e]
  exact decide_eq_decide.mpr ((dd_facts ns).2.1 n)
theorem dk_snoc (ns : List Int) (n : Int) : putK (dk ns) (Sum.inl n) (.bl true) = dk (ns ++ [n]) := by
  unfold putK
  have ea : ((dk ns).any fun kv => decide (kv.1 = (Sum.inl n : Key))) = decide (n ∈ dd ns) := by
    rw [valV_any, dk_val]
    exact decide_eq_decide.mpr ((dd_facts ns).2.1 n).symm
  rw [ea]
  unfold dk
  rw [dd_snoc]
  by_cases h : n ∈ dd ns
  · rw [if_pos (decide_eq_true h), if_pos h, List.map_map]
    apply List.map_congr_left
    intro m _
    show (if (Sum.inl m : Key) = Sum.inl n then _ else _) = _
    split <;> rfl
  · rw [if_neg (by rw [decide_eq_false h]; exact Bool.false_ne_true), if_neg h, List.map_append]
    rfl
/-- a Members at x that holds the ints ns, all of it apart from S -/
def MemAt (C : Addr) (S : List Addr) (H : Hp) (x : Addr) (ns : List Int) : Prop := ∃ dx d : Addr, x ∉ S ∧ d ∉ S ∧ H x = some (.ins C dx [("members", V.ref d)]) ∧ H d = some (.dK (dk ns))
theorem MemAt.mv {C x : Addr} {S : List Addr} {H H' : Hp} {ns : List Int} (m : MemAt C S H x ns) (c : Chg S H H') : MemAt C S H' x ns := by
  obtain ⟨dx, d, h1, h2, h3, h4⟩ := m
  exact ⟨dx, d, h1, h2, c _ _ h1 h3, c _ _ h2 h4⟩
def SqA (K : PySem.W.Frag) (H : Hp) (v : Addr) (ns : List Int) : Prop := SqL K H v (ns.map V.int) ∨ SqT K H v (ns.map V.int)
def spMi (K : PySem.W.Frag) (tp : Bool) (C : Addr) : Sp := fun vs H Q _ => ∃ (x dx v : Addr) (ns : List Int), vs = [.ref x, .ref v] ∧ H x = some (.ins C dx []) ∧ (if tp then SqT K H v (ns.map V.int) else SqL K H v (ns.map V.int)) ∧ ns.length ≤ 1000 ∧
  ∀ (H' : Hp) (d : Addr), H d = none → (∀ a o, a ≠ x → H a = some o → H' a = some o) → H' x = some (.ins C dx [("members", .ref d)]) → H' d = some (.dK (dk ns)) → Q .non H'
def spMc (C : Addr) : Sp := fun vs H Q _ => ∃ (S : List Addr) (x : Addr) (n : Int) (ns : List Int), vs = [.ref x, .int n] ∧ MemAt C S H x ns ∧ Q (.bl (decide (n ∈ ns))) H
def spMl (C : Addr) : Sp := fun vs H Q _ => ∃ (S : List Addr) (x : Addr) (ns : List Int), vs = [.ref x] ∧ MemAt C S H x ns ∧ Q (.int ((dd ns).length : Nat)) H
def spPi (C : Addr) : Sp := fun vs H Q _ => ∃ (x dx : Addr) (f b : Int), vs = [.ref x, .int f, .int b] ∧ H x = some (.ins C dx []) ∧ ∀ H' : Hp, (∀ a o, a ≠ x → H a = some o → H' a = some o) → H' x = some (.ins C dx [("first", .int f), ("by", .int b)]) → Q .non H'
def spPc (C : Addr) : Sp := fun vs H Q _ => ∃ (x dx : Addr) (f b n : Int) (k : V), vs = [.ref x, .int n, k] ∧ H x = some (.ins C dx [("first", .int f), ("by", .int b)]) ∧ 0 ≤ f + b * n ∧ f + b * n ≤ 1000 ∧ 0 ≤ b ∧ b ≤ 1000 ∧ Q (.int (1 * 2 ^ (f + b * n).toNat)) H
section
variable {P : Program} {w : World} {K : PySem.W.Frag} {mg : Str → Option Value} {base : Heap} {a : Ad}
theorem members_turn {D : Addr} {H0 H : Hp} {ns : List Int} {i : Nat} {x : V} {σ : L2.St} (hi : (ns.map V.int)[i]? = some x) (hl : ns.length ≤ 1000) (h : Same H0 H ∧ H D = some (.dK (dk (ns.take i)))) (nD : H0 D = none) :
    ∃ kvs k, x = kV k ∧ H D = some (.dK kvs) ∧ kvs.length < sizeLine ∧ (Same H0 (upd H D (.dK (putK kvs k (.bl true)))) ∧ upd H D (.dK (putK kvs k (.bl true))) D = some (.dK (dk (ns.take (i + 1))))) := by
  obtain ⟨n, hn, rfl⟩ := get_int hi
  have hlt := (List.getElem?_eq_some_iff.mp hn).1
  have hg := (List.getElem?_eq_some_iff.mp hn).2
  refine ⟨_, Sum.inl n, rfl, h.2, ?_, Lx.Same.mut h.1 nD, ?_⟩
  · rw [dk_len]
    have := (dd_facts (ns.take i)).2.2
    rw [List.length_take] at this
    exact Nat.lt_of_le_of_lt (show _ ≤ 1000 by omega) (by decide)
  · rw [upd_same, dk_snoc, List.take_succ_eq_append_getElem hlt, hg]
theorem ok_miL (T : Tx K mg a) : FnOk P w K mg base CX0 1 a.a_MembersU_initU a.d_MembersU_initU ["self", "values"] (spMi K false a.c_Members) := by
  refine T.F_MembersU_initU.ok sc_MembersU_initU (fun vs H Q E h => ?_) (fun cdv A outer s H vs Q E hr h => ?_)
  · obtain ⟨_, _, _, _, rfl, _⟩ := h
    rfl
  · obtain ⟨x, dx, v, ns, rfl, hx, hv, hl, k⟩ := h
    refine ⟨_, (pss_one (ps_fld (pv 0) (pe_dc (own := [("value", 2)]) (g := gName 2) rfl sc_MembersU_initU.nd (pi_list (pv 1)) (blkOk_by (own := [("value", 2)]) (N := ["self", "values", "value"]) (sc := defScope s_MembersU_initU) (by decide +kernel)) (fun _ _ _ _ _ => (pg_name (i := 2) sc_MembersU_initU.nd rfl (Or.inl rfl))) (fun _ _ _ _ _ => pts_nil) (fun _ _ _ _ _ => (pv 2)) (fun _ _ _ _ _ => pe_bl)) rfl)), ?_⟩
    have hv : SqL K H v (ns.map V.int) := hv
    refine ⟨_, rfl, v, rfl, ⟨_, hv⟩, fun D nD => dc_it (walk_list (K := K) (a := v) (xs := ns.map V.int)) (fun i H' => Same H H' ∧ H' D = some (.dK (dk (ns.take i)))) ⟨Lx.Same.new nD, upd_same⟩ (fun i H' _ h' => Same.seq h'.1 hv) ?_ ?_⟩
    · rintro i y H1 H2 hi h1 ⟨rfl, hy⟩
      exact ⟨rfl, _, rfl, members_turn (σ := []) hy hl h1 nD⟩
    · rintro H1 ⟨s1, h1⟩
      rw [List.length_map, List.take_length] at h1
      refine ⟨_, rfl, x, a.c_Members, dx, [], rfl, s1 _ _ hx, T.cl_Members, T.na_Members_members, by decide, ?_⟩
      have ne : D ≠ x := none_ne hx nD
      exact k _ D nD (fun c o hc e => keep_set hc (s1 _ _ e)) upd_same (keep_set ne h1)
theorem ok_miT (T : Tx K mg a) : FnOk P w K mg base CX0 1 a.a_MembersU_initU a.d_MembersU_initU ["self", "values"] (spMi K true a.c_Members) := by
  refine T.F_MembersU_initU.ok sc_MembersU_initU (fun vs H Q E h => ?_) (fun cdv A outer s H vs Q E hr h => ?_)
  · obtain ⟨_, _, _, _, rfl, _⟩ := h
    rfl
  · obtain ⟨x, dx, v, ns, rfl, hx, hv, hl, k⟩ := h
    refine ⟨_, (pss_one (ps_fld (pv 0) (pe_dc (own := [("value", 2)]) (g := gName 2) rfl sc_MembersU_initU.nd (pi_tup (pv 1)) (blkOk_by (own := [("value", 2)]) (N := ["self", "values", "value"]) (sc := defScope s_MembersU_initU) (by decide +kernel)) (fun _ _ _ _ _ => (pg_name (i := 2) sc_MembersU_initU.nd rfl (Or.inl rfl))) (fun _ _ _ _ _ => pts_nil) (fun _ _ _ _ _ => (pv 2)) (fun _ _ _ _ _ => pe_bl)) rfl)), ?_⟩
    have hv : SqT K H v (ns.map V.int) := hv
    refine ⟨_, rfl, v, rfl, ⟨_, hv⟩, fun D nD => dc_it (walk_tup (K := K) (a := v) (xs := ns.map V.int)) (fun i H' => Same H H' ∧ H' D = some (.dK (dk (ns.take i)))) ⟨Lx.Same.new nD, upd_same⟩ (fun i H' _ h' => seqT_same h'.1 hv) ?_ ?_⟩
    · rintro i y H1 H2 hi h1 ⟨rfl, hy⟩
      exact ⟨rfl, _, rfl, members_turn (σ := []) hy hl h1 nD⟩
    · rintro H1 ⟨s1, h1⟩
      rw [List.length_map, List.take_length] at h1
      refine ⟨_, rfl, x, a.c_Members, dx, [], rfl, s1 _ _ hx, T.cl_Members, T.na_Members_members, by decide, ?_⟩
      have ne : D ≠ x := none_ne hx nD
      exact k _ D nD (fun c o hc e => keep_set hc (s1 _ _ e)) upd_same (keep_set ne h1)
theorem ok_mc (T : Tx K mg a) : FnOk P w K mg base CX0 1 a.a_MembersU_callU a.d_MembersU_callU ["self", "value"] (spMc a.c_Members) := by
  refine T.F_MembersU_callU.ok sc_MembersU_callU (fun vs H Q E h => ?_) (fun cdv A outer s H vs Q E hr h => ?_)
  · obtain ⟨_, _, _, _, rfl, _⟩ := h
    rfl
  · obtain ⟨b, x, n, ns, rfl, ⟨dx, d, _, _, h1, h2⟩, k⟩ := h
    refine ⟨_, (pss_one (ps_ret (pe_cmp (pc_din (hu_of hr) (pv 1) (pe_fld (pv 0) rfl))))), ?_⟩
    refine ⟨_, rfl, _, rfl, x, a.c_Members, dx, _, _, rfl, h1, T.cl_Members, T.na_Members_members, rfl, d, _, rfl, DGet.k (k := Sum.inl n) h2, ?_⟩
    rw [dk_val]
    exact k
theorem ok_mn (T : Tx K mg a) : FnOk P w K mg base CX0 1 a.a_MembersU_containsU a.d_MembersU_containsU ["self", "value"] (spMc a.c_Members) := by
  refine T.F_MembersU_containsU.ok sc_MembersU_containsU (fun vs H Q E h => ?_) (fun cdv A outer s H vs Q E hr h => ?_)
  · obtain ⟨_, _, _, _, rfl, _⟩ := h
    rfl
  · obtain ⟨b, x, n, ns, rfl, ⟨dx, d, _, _, h1, h2⟩, k⟩ := h
    refine ⟨_, (pss_one (ps_ret (pe_cmp (pc_din (hu_of hr) (pv 1) (pe_fld (pv 0) rfl))))), ?_⟩
    refine ⟨_, rfl, _, rfl, x, a.c_Members, dx, _, _, rfl, h1, T.cl_Members, T.na_Members_members, rfl, d, _, rfl, DGet.k (k := Sum.inl n) h2, ?_⟩
    rw [dk_val]
    exact k
theorem ok_ml (T : Tx K mg a) : FnOk P w K mg base CX0 1 a.a_MembersU_lenU a.d_MembersU_lenU ["self"] (spMl a.c_Members) := by
  refine T.F_MembersU_lenU.ok sc_MembersU_lenU (fun vs H Q E h => ?_) (fun cdv A outer s H vs Q E hr h => ?_)
  · obtain ⟨_, _, _, rfl, _⟩ := h
    rfl
  · obtain ⟨b, x, ns, rfl, ⟨dx, d, _, _, h1, h2⟩, k⟩ := h
    refine ⟨_, (pss_one (ps_ret (pe_callB call_lenD (by rfl) T.z_len (by decide +kernel) (pa_cons (pe_fld (pv 0) rfl) pa_nil)))), ?_⟩
    refine ⟨_, rfl, x, a.c_Members, dx, _, _, rfl, h1, T.cl_Members, T.na_Members_members, rfl, d, _, rfl, h2, ?_⟩
    rw [dk_len]
    exact k
theorem ok_pi (T : Tx K mg a) : FnOk P w K mg base CX0 1 a.a_PowersU_initU a.d_PowersU_initU ["self", "first", "by"] (spPi a.c_Powers) := by
  refine T.F_PowersU_initU.ok sc_PowersU_initU (fun vs H Q E h => ?_) (fun cdv A outer s H vs Q E hr h => ?_)
  · obtain ⟨_, _, _, _, rfl, _⟩ := h
    rfl
  · obtain ⟨x, dx, f, b, rfl, hx, k⟩ := h
    refine ⟨_, PSs.nox (pss_cons (ps_fld (pv 0) (pv 1) rfl)
  (pss_one (ps_fld (pv 0) (pv 2) rfl))), ?_⟩
    refine ⟨_, rfl, _, rfl, x, a.c_Powers, dx, _, rfl, hx, T.cl_Powers, T.na_Powers_first, by decide, ?_⟩
    refine ⟨_, rfl, _, rfl, x, a.c_Powers, dx, _, rfl, upd_same, T.cl_Powers, T.na_Powers_by, (show 1 < 1000 by decide), ?_⟩
    refine k _ (fun c o hc e => keep_set hc (keep_set hc e)) upd_same
theorem ok_pc (T : Tx K mg a) : FnOk P w K mg base CX0 1 a.a_PowersU_callU a.d_PowersU_callU ["self", "n", "key"] (spPc a.c_Powers) := by
  refine T.F_PowersU_callU.ok sc_PowersU_callU (fun vs H Q E h => ?_) (fun cdv A outer s H vs Q E hr h => ?_)
  · obtain ⟨_, _, _, _, _, _, rfl, _⟩ := h
    rfl
  · obtain ⟨x, dx, f, b, n, key, rfl, hx, h0, h1, h2, h3, k⟩ := h
    refine ⟨_, (pss_one (ps_ret (pe_op op_shl pe_int (pe_op op_add (pe_fld (pv 0) rfl) (pe_op op_mul (pe_fld (pv 0) rfl) (pv 1)))))), ?_⟩
    refine ⟨_, rfl, x, a.c_Powers, dx, _, _, rfl, hx, T.cl_Powers, T.na_Powers_first, rfl, _, rfl, x, a.c_Powers, dx, _, _, rfl, hx, T.cl_Powers, T.na_Powers_by, rfl, _, rfl, _, _, rfl, rfl, .inl ⟨by omega, by omega⟩, _, _, rfl, rfl, _, _, rfl, rfl, ⟨h0, by omega, by decide⟩, k⟩
end
end K90
set_option Elab.async false
set_option linter.all false
set_option maxRecDepth 100000
set_option maxHeartbeats 4000000
namespace K90
open PySem L2 Lx
/-! ### the law's own defs -/
def Bag (b : Addr) (H : Hp) : Prop := ∃ g x : Int, H b = some (.lst [.int g, .int x])
theorem Bag.mv {b : Addr} {S : List Addr} {H H' : Hp} (h : Bag b H) (n : b ∉ S) (e : Chg S H H') : Bag b H' := by
  obtain ⟨g, x, h⟩ := h
  exact ⟨g, x, e _ _ n h⟩
theorem Bag.same {b : Addr} {H H' : Hp} (h : Bag b H) (e : Same H H') : Bag b H' := by
  obtain ⟨g, x, h⟩ := h
  exact ⟨g, x, e _ _ h⟩
theorem Bag.ne {b p : Addr} {H : Hp} (h : Bag b H) (n : H p = none) : p ≠ b := by
  obtain ⟨g, x, h⟩ := h
  exact none_ne h n
def spBag (K : PySem.W.Frag) : Sp := fun vs H Q _ => ∃ (s : Addr) (i : Int) (ns : List Int), vs = [.ref s, .int i] ∧ 0 ≤ i ∧ SqL K H s (ns.map V.int) ∧ ns.length ≤ 63 ∧ ∀ (b : Addr) (H' : Hp), H b = none → Same H H' → Bag b H' → Q (.ref b) H'
def spTake : Sp := fun vs H Q _ => ∃ (b : Addr) (m : Int), vs = [.ref b, .int m] ∧ Bag b H ∧ 0 < m ∧ m.natAbs < 2 ^ 200 ∧ ∀ (r : Int) (H' : Hp), 0 ≤ r → r < m → Bag b H' → Chg [b] H H' → Q (.int r) H'
def spOf : Sp := fun vs H Q _ => ∃ (b l : Addr) (ns : List Int), vs = [.ref b, .ref l] ∧ Bag b H ∧ l ≠ b ∧ H l = some (.lst (ns.map V.int)) ∧ 0 < ns.length ∧ ns.length ≤ 1000 ∧ ∀ (r : Int) (H' : Hp), r ∈ ns → Bag b H' → Chg [b] H H' → Q (.int r) H'
def spFar : Sp := fun vs H Q _ => ∃ (b : Addr), vs = [.ref b] ∧ Bag b H ∧ ∀ (r : Int) (H' : Hp), Bag b H' → Chg [b] H H' → Q (.int r) H'
theorem small_pow {m : Int} (h0 : 0 ≤ m) (h : m ≤ 10 ^ 40) : m.natAbs < 2 ^ 200 := by
  have e : (10 : Int) ^ 40 < 2 ^ 200 := by decide
  have e2 : (m.natAbs : Int) = m := Int.natAbs_of_nonneg h0
  have e3 : ((2 ^ 200 : Nat) : Int) = (2 : Int) ^ 200 := by decide
  omega
theorem nthI {ns : List Int} {i : Int} (h0 : 0 ≤ i) (h1 : i < (ns.map V.int).length) : ∃ n, n ∈ ns ∧ atI (ns.map V.int) i = some (.int n) := by
  rw [List.length_map] at h1
  have hlt : i.toNat < ns.length := by omega
  refine ⟨ns[i.toNat], List.getElem_mem hlt, ?_⟩
  have e : (i.toNat : Int) = i := Int.toNat_of_nonneg h0
  have := atI_nat (xs := ns.map V.int) (j := i.toNat) (v := V.int ns[i.toNat]) (by rw [List.getElem?_map, List.getElem?_eq_getElem hlt]; rfl)
  rw [e] at this
  exact this
section
variable {P : Program} {w : World} {K : PySem.W.Frag} {mg : Str → Option Value} {base : Heap} {a : Ad}
theorem ok_bag (T : Tx K mg a) : FnOk P w K mg base CX0 1 a.a__law_bag a.d__law_bag ["script", "at"] (spBag K) := by
  refine T.F__law_bag.ok sc__law_bag (fun vs H Q E h => ?_) (fun cdv A outer s H vs Q E hr h => ?_)
  · obtain ⟨_, _, _, rfl, _⟩ := h
    rfl
  · obtain ⟨sc, i, ns, rfl, h0, hs, hl, k⟩ := h
    refine ⟨_, (pss_cons (ps_set (i := 2) sc__law_bag.nd rfl (Or.inl rfl) (pe_ifExp (pt_cmpR op_lt (pv 1) (pe_callB call_len_seq (by rfl) T.z_len (by decide +kernel) (pa_cons (pv 0) pa_nil)) (nomark _)) (pe_ix ix_list (pv 0) (pv 1) (fun _ _ => rfl)) pe_int))
  (pss_cons (ps_set (i := 3) sc__law_bag.nd rfl (Or.inl rfl) (pe_op op_add (pe_op op_mul pe_int (pv 1)) pe_int))
  (pss_cons (ps_for PassesOwn.never rfl (pi_enum (by rfl) T.z_enumerate (pa_cons (pe_slice sl_list (pv 0) po_none (po_some pe_int)) pa_nil)) (pg_tup (by rfl) (pgs_cons (pg_name (i := 4) sc__law_bag.nd rfl (Or.inl rfl)) (pgs_cons (pg_name (i := 5) sc__law_bag.nd rfl (Or.inl rfl)) pgs_nil)))
  (pss_one (ps_set (i := 3) sc__law_bag.nd rfl (Or.inl rfl) (pe_op op_mod (pe_callTy call_int1 (by rfl) T.z_int (by decide +kernel) (pa_cons (pe_op op_add (pe_op op_add (pe_op op_add (pe_op op_mul (pv 3) pe_int) (pe_op op_mod (pe_callTy call_int1 (by rfl) T.z_int (by decide +kernel) (pa_cons (pv 5) pa_nil)) pe_int)) (pe_op op_mul pe_int (pv 4))) pe_int) pa_nil)) pe_int))))
  (pss_one (ps_ret (pe_lst (pa_cons (pe_ifExp (pt_cmpR op_ge (pe_callB call_abs (by rfl) T.z_abs (by decide +kernel) (pa_cons (pv 2) pa_nil)) (pe_op op_pow pe_int pe_int) (nomark _)) (pe_callB call_abs (by rfl) T.z_abs (by decide +kernel) (pa_cons (pv 2) pa_nil)) pe_int) (pa_cons (pv 3) pa_nil)))))))), ?_⟩
    refine if_int (c := decide (i < ((ns.map V.int).length : Int))) (fun Q q => ⟨_, rfl, _, rfl, sc, _, rfl, .inl hs, _, _, rfl, rfl, _, rfl, q⟩) (fun hc => ?_) (fun _ => ⟨0, fun Q q => q⟩) (fun cell => ?_)
    · obtain ⟨n, _, hn⟩ := nthI (ns := ns) h0 (dec_true hc)
      exact ⟨n, fun Q q => ⟨_, rfl, _, rfl, sc, _, _, _, rfl, rfl, hs, hn, q⟩⟩
    refine ⟨_, rfl, _, _, rfl, rfl, .inl ⟨by decide, by decide⟩, _, _, rfl, rfl, ?_⟩
    refine ⟨_, rfl, _, rfl, sc, _, rfl, hs, fun p np => ?_⟩
    have hp : SqL K (upd H p (.lst (cutV (ns.map V.int) none (some 60)))) p (cutV (ns.map V.int) none (some 60)) := SqL.of upd_same
    refine ⟨p, _, rfl, hp, for_it (walk_enum (K := K) (a := p) (xs := cutV (ns.map V.int) none (some 60))) (fun i σ H' => Same H H' ∧ SqL K H' p (cutV (ns.map V.int) none (some 60)) ∧ ∃ (m : Int) (v1 v2 : Option V), σ = [some (.ref sc), some (.int _), some (.int cell), some (.int m), v1, v2]) ⟨Lx.Same.new np, hp, _, _, _, rfl⟩ (fun _ _ _ _ h => h.2.1) ?_ ?_⟩
    · rintro j y σ H1 H2 hj ⟨s1, hq, m, v1, v2, rfl⟩ ⟨t, x1, x2, rfl, nt, rfl, e1, e2⟩
      cases e1
      have e2 : ((ns.map V.int).take 60)[j]? = some x2 := by
        have q : (cutV (ns.map V.int) none (some ((60 : Nat) : Int)))[j]? = some x2 := e2
        rwa [cut_front_le] at q
      rw [← List.map_take] at e2
      obtain ⟨n, hn, rfl⟩ := get_int e2
      refine ⟨t, _, rfl, SqT.of upd_same, rfl, _, _, rfl, _, _, rfl, rfl, ?_⟩
      refine ⟨_, rfl, _, _, rfl, rfl, .inr ⟨by decide, by decide⟩, _, rfl, .inl ⟨_, rfl, _, _, rfl, rfl, (by show (0 : Int) < _; decide), _, _, rfl, rfl, _, rfl, _, _, rfl, rfl, .inl ⟨by decide, by decide⟩, _, _, rfl, rfl, _, _, rfl, rfl, .inl ⟨_, rfl, _, _, rfl, rfl, (by show (0 : Int) < _; decide), ?_⟩⟩⟩
      exact ⟨s1.trans (Lx.Same.new nt), Same.seq (Lx.Same.new nt) hq, _, _, _, rfl⟩
    · rintro σ H1 ⟨s1, hq, m, v1, v2, rfl⟩
      dsimp only [tRet, tLst, tCons]
      refine if_int (c := _) (fun Q q => ⟨_, rfl, _, rfl, _, _, rfl, rfl, ⟨by decide, by decide, by decide⟩, _, _, rfl, rfl, _, rfl, q⟩) (fun _ => ⟨_, fun Q q => ⟨_, rfl, _, rfl, q⟩⟩) (fun _ => ⟨0, fun Q q => q⟩) (fun g => ?_)
      refine ⟨_, rfl, (by show 2 ≤ sizeLine; decide), fun b nb => ?_⟩
      have hb : H b = none := by
        cases e : H b with
        | none => rfl
        | some o =>
          rw [s1 _ _ e] at nb
          cases nb
      exact k b _ hb (s1.trans (Lx.Same.new nb)) ⟨g, m, upd_same⟩
theorem ok_take (T : Tx K mg a) : FnOk P w K mg base CX0 1 a.a__law_take a.d__law_take ["bag", "many"] spTake := by
  refine T.F__law_take.ok sc__law_take (fun vs H Q E h => ?_) (fun cdv A outer s H vs Q E hr h => ?_)
  · obtain ⟨_, _, rfl, _⟩ := h
    rfl
  · obtain ⟨b, m, rfl, ⟨g, x, hb⟩, h0, hm, k⟩ := h
    refine ⟨_, (pss_cons (ps_if (pt_cmpR op_gt (pe_ix ix_list (pv 0) pe_int (fun _ _ => rfl)) pe_int (nomark _))
  (pss_cons (ps_set (i := 2) sc__law_take.nd rfl (Or.inl rfl) (pe_op op_mod (pe_callTy call_int1 (by rfl) T.z_int (by decide +kernel) (pa_cons (pe_ix ix_list (pv 0) pe_int (fun _ _ => rfl)) pa_nil)) (pv 1)))
  (pss_cons (ps_asg (pe_op op_fdivW (pe_ix ix_list (pv 0) pe_int (fun _ _ => rfl)) (pv 1)) (pg_sub (pv 0) pe_int set_list))
  (pss_one (ps_ret (pv 2)))))
  pss_nil)
  (pss_cons (ps_asg (pe_op op_mod (pe_callTy call_int1 (by rfl) T.z_int (by decide +kernel) (pa_cons (pe_op op_add (pe_op op_mul (pe_ix ix_list (pv 0) pe_int (fun _ _ => rfl)) pe_int) pe_int) pa_nil)) pe_int) (pg_sub (pv 0) pe_int set_list))
  (pss_one (ps_ret (pe_op op_mod (pe_op op_fdiv (pe_op op_mod (pe_callTy call_int1 (by rfl) T.z_int (by decide +kernel) (pa_cons (pe_op op_mul (pe_op op_fdiv (pe_ix ix_list (pv 0) pe_int (fun _ _ => rfl)) pe_int) pe_int) pa_nil)) pe_int) pe_int) (pv 1)))))), ?_⟩
    have i0 : ∀ u v : Int, atI [V.int u, V.int v] 0 = some (.int u) := fun _ _ => rfl
    have i1 : ∀ u v : Int, atI [V.int u, V.int v] 1 = some (.int v) := fun _ _ => rfl
    refine ⟨_, rfl, b, _, _, _, rfl, rfl, SqL.of hb, i0 g x, _, _, rfl, rfl, _, rfl, ?_⟩
    refine ite2 (fun hg => ?_) (fun hg => ?_)
    · refine ⟨_, rfl, b, _, _, _, rfl, rfl, SqL.of hb, i0 g x, .inl ⟨_, rfl, _, rfl, _, _, rfl, rfl, h0, ?_⟩⟩
      refine ⟨_, rfl, b, _, _, _, rfl, rfl, SqL.of hb, i0 g x, _, rfl, _, _, rfl, rfl, wide_div h0 hm (by decide) (by decide), _, rfl, b, _, _, 0, rfl, rfl, hb, rfl, ?_⟩
      refine ⟨_, rfl, k _ _ (Int.emod_nonneg _ (by omega)) (Int.emod_lt_of_pos _ h0) ⟨_, _, upd_same⟩ Chg.upd⟩
    · refine ⟨_, rfl, b, _, _, _, rfl, rfl, SqL.of hb, i1 g x, _, _, rfl, rfl, .inr ⟨by decide, by decide⟩, _, _, rfl, rfl, .inl ⟨_, rfl, _, _, rfl, rfl, (by show (0 : Int) < _; decide), _, rfl, b, _, _, 1, rfl, rfl, hb, rfl, ?_⟩⟩
      refine ⟨_, rfl, b, _, _, _, rfl, rfl, SqL.of upd_same, i1 _ _, _, _, rfl, rfl, ⟨by decide, by decide⟩, _, _, rfl, rfl, .inr ⟨by decide, by decide⟩, .inl ⟨_, rfl, _, _, rfl, rfl, (by show (0 : Int) < _; decide), _, _, rfl, rfl, ⟨by decide, by decide⟩, _, rfl, _, _, rfl, rfl, h0, ?_⟩⟩
      exact k _ _ (Int.emod_nonneg _ (by omega)) (Int.emod_lt_of_pos _ h0) ⟨_, _, upd_same⟩ Chg.upd
theorem ok_of (T : Tx K mg a) : FnOk P w K mg base CX0 2 a.a__law_of a.d__law_of ["bag", "some"] spOf := by
  have G__law_take : FnOk P w K mg base CX0 1 a.a__law_take a.d__law_take ["bag", "many"] spTake := ok_take T
  refine T.F__law_of.ok sc__law_of (fun vs H Q E h => ?_) (fun cdv A outer s H vs Q E hr h => ?_)
  · obtain ⟨_, _, _, rfl, _⟩ := h
    rfl
  · obtain ⟨b, l, ns, rfl, hb, nl, hl, h0, h1, k⟩ := h
    refine ⟨_, (pss_one (ps_ret (pe_ix ix_list (pv 1) (pe_call G__law_take (hr.mono (by decide)) (by rfl) T.mg__law_take T.kp__law_take T.b__law_take .nil pass0 (pa_cons (pv 0) (pa_cons (pe_callB call_len_seq (by rfl) T.z_len (by decide +kernel) (pa_cons (pv 1) pa_nil)) pa_nil))) (fun _ _ => rfl)))), ?_⟩
    refine ⟨_, rfl, _, rfl, _, rfl, l, _, rfl, .inl (SqL.of hl), b, _, rfl, hb, (by rw [List.length_map]; omega), (by rw [List.length_map]; omega), fun r H' r0 r1 hb' ch => ?_⟩
    obtain ⟨n, hn, e⟩ := nthI (ns := ns) r0 r1
    exact ⟨l, _, _, _, rfl, rfl, SqL.of (ch _ _ (no1 nl) hl), e, k _ _ hn hb' ch⟩
theorem ok_far (T : Tx K mg a) : FnOk P w K mg base CX0 3 a.a__law_far a.d__law_far ["bag"] spFar := by
  have G__law_take : FnOk P w K mg base CX0 1 a.a__law_take a.d__law_take ["bag", "many"] spTake := ok_take T
  have G__law_of : FnOk P w K mg base CX0 2 a.a__law_of a.d__law_of ["bag", "some"] spOf := ok_of T
  refine T.F__law_far.ok sc__law_far (fun vs H Q E h => ?_) (fun cdv A outer s H vs Q E hr h => ?_)
  · obtain ⟨_, rfl, _⟩ := h
    rfl
  · obtain ⟨b, rfl, hb, k⟩ := h
    refine ⟨_, (pss_cons (ps_set (i := 1) sc__law_far.nd rfl (Or.inl rfl) (pe_call G__law_take (hr.mono (by decide)) (by rfl) T.mg__law_take T.kp__law_take T.b__law_take .nil pass0 (pa_cons (pv 0) (pa_cons (pe_call G__law_of (hr.mono (by decide)) (by rfl) T.mg__law_of T.kp__law_of T.b__law_of .nil pass0 (pa_cons (pv 0) (pa_cons (pe_lst (pa_cons pe_int (pa_cons pe_int (pa_cons (pe_op op_pow pe_int pe_int) (pa_cons (pe_op op_pow pe_int pe_int) pa_nil))))) pa_nil))) pa_nil))))
  (pss_one (ps_ret (pe_ifExp (pt_cmpR op_eq (pe_call G__law_take (hr.mono (by decide)) (by rfl) T.mg__law_take T.kp__law_take T.b__law_take .nil pass0 (pa_cons (pv 0) (pa_cons pe_int pa_nil))) pe_int (nomark _)) (pv 1) (pe_un un_neg (pv 1)))))), ?_⟩
    refine ⟨_, rfl, _, rfl, _, _, rfl, rfl, ⟨by decide, by decide, by decide⟩, _, _, rfl, rfl, ⟨by decide, by decide, by decide⟩, (by show 4 ≤ sizeLine; decide), fun l nl => ?_⟩
    refine ⟨b, l, [4, 100, 10 ^ 20, 10 ^ 40], rfl, hb.same (Lx.Same.new nl), hb.ne nl, upd_same, by decide, by decide, fun r H1 hr hb1 c1 => ?_⟩
    have hr0 : 0 < r ∧ r ≤ 10 ^ 40 := by
      simp only [List.mem_cons, List.not_mem_nil, or_false] at hr
      rcases hr with rfl | rfl | rfl | rfl <;> decide
    refine ⟨b, r, rfl, hb1, hr0.1, small_pow (by omega) hr0.2, fun r2 H2 _ _ hb2 c2 => ?_⟩
    refine ⟨_, rfl, b, _, rfl, hb2, by decide, by decide, fun r3 H3 _ _ hb3 c3 => ?_⟩
    have cc : Chg [b] H H3 := (((Chg.new nl).trans c1).trans c2).trans c3
    refine ⟨rfl, _, rfl, ite2 (fun _ => ⟨_, rfl, k _ _ hb3 cc⟩) (fun _ => ⟨_, rfl, _, rfl, k _ _ hb3 cc⟩)⟩
end
end K90
set_option Elab.async false
set_option linter.all false
set_option maxRecDepth 100000
set_option maxHeartbeats 16000000
namespace K90
open PySem L2 Lx
def spLaw (K : PySem.W.Frag) : Sp := fun vs H Q _ => ∃ (s : Addr) (ns : List Int), vs = [.ref s] ∧ SqL K H s (ns.map V.int) ∧ ns.length ≤ 63 ∧ ∀ H', Q (.bl true) H'
/-- a list of ints apart from S -/
def IL (S : List Addr) (H : Hp) (l : Addr) (zs : List Int) : Prop := Lv S H l (.lst (zs.map V.int))
theorem IL.mv {S : List Addr} {l : Addr} {H H' : Hp} {zs : List Int} (i : IL S H l zs) (c : Chg S H H') : IL S H' l zs := Lv.mv i c
theorem IL.seq {K : PySem.W.Frag} {S : List Addr} {l : Addr} {H : Hp} {zs : List Int} (i : IL S H l zs) : SqL K H l (zs.map V.int) := SqL.of i.2
theorem IL.snoc {S : List Addr} {l : Addr} {H : Hp} {zs : List Int} {z : Int} (n : l ∉ S) : IL S (upd H l (.lst (zs.map V.int ++ [V.int z]))) l (zs ++ [z]) := ⟨n, by rw [upd_same, List.map_append]; rfl⟩
theorem IL.lt {zs : List Int} {k : Nat} (h : zs.length ≤ k) (hk : k ≤ 1000) : (zs.map V.int).length < sizeLine := by
  rw [List.length_map]
  exact Nat.lt_of_le_of_lt (Nat.le_trans h hk) (by decide)
theorem le_line {n : Nat} (h : n ≤ 1000) : n ≤ sizeLine := Nat.le_trans h (by decide)
/-- behind the making of a Members -/
theorem made_mem {C x dx d : Addr} {S : List Addr} {H H' : Hp} {ns : List Int} (nx : H x = none) (ndx : H dx = none) (ne : dx ≠ x) (hS : ∀ b ∈ S, ∃ o, H b = some o)
    (nd : (upd (upd H dx (.own x)) x (.ins C dx [])) d = none) (k : ∀ a o, a ≠ x → (upd (upd H dx (.own x)) x (.ins C dx [])) a = some o → H' a = some o) (h1 : H' x = some (.ins C dx [("members", .ref d)])) (h2 : H' d = some (.dK (dk ns))) :
    Same H H' ∧ MemAt C S H' x ns := by
  have s1 : Same H (upd (upd H dx (.own x)) x (.ins C dx [])) := fun a o e => keep_set (ne_of_none e nx) (keep_set (ne_of_none e ndx) e)
  refine ⟨fun a o e => k a o (ne_of_none e nx) (s1 _ _ e), dx, d, new_no nx hS, new_no (Lx.Same.back s1 nd) hS, h1, h2⟩
theorem once_len (ns : List Int) : (dd ns.tail).length = ((dd ns).filter fun n => decide (n ∈ ns.tail)).length := by
  refine nodup_same _ _ (dd_facts _).1 ((dd_facts ns).1.filter _) fun x => ?_
  rw [(dd_facts _).2.1, List.mem_filter, (dd_facts ns).2.1, decide_eq_true_iff]
  exact ⟨fun h => ⟨List.mem_of_mem_tail h, h⟩, fun h => h.2⟩
theorem far_ok {far beg n : Int} (h0 : 0 ≤ far) (h1 : far ≤ 60) (b0 : 0 ≤ beg) (b1 : beg ≤ 60) (n0 : 0 ≤ n) (hn : n < 1 + (120 - beg) / (if far > 1 then far else 1)) : 0 ≤ beg + far * n ∧ beg + far * n ≤ 120 ∧ n ≤ 120 := by
  by_cases h : far > 1
  · rw [if_pos h] at hn
    have e1 : n ≤ (120 - beg) / far := by omega
    have e2 : far * n ≤ 120 - beg := by
      have := Int.mul_le_mul_of_nonneg_left e1 h0
      have e3 : far * ((120 - beg) / far) ≤ 120 - beg := Int.mul_ediv_self_le (by omega)
      omega
    have e4 : 0 ≤ far * n := Int.mul_nonneg h0 n0
    have e5 : n ≤ far * n := by
      have := Int.mul_le_mul_of_nonneg_right (show 1 ≤ far by omega) n0
      omega
    omega
  · rw [if_neg h] at hn
    have e1 : n ≤ 120 - beg := by omega
    have hf : far = 0 ∨ far = 1 := by omega
    rcases hf with rfl | rfl
    · omega
    · omega
/-- behind the making of a Powers -/
theorem made_pow {C x dx : Addr} {H H' : Hp} (nx : H x = none) (ndx : H dx = none) (k : ∀ a o, a ≠ x → (upd (upd H dx (.own x)) x (.ins C dx [])) a = some o → H' a = some o) : Same H H' := fun a o e => k a o (ne_of_none e nx) (keep_set (ne_of_none e nx) (keep_set (ne_of_none e ndx) e))
theorem Chg.up {b g : Addr} {H H' : Hp} (c : Chg [b] H H') : Chg [b, g] H H' := c.mono fun x hx => by
  rw [List.mem_singleton.mp hx]
  exact List.mem_cons_self
section
variable {P : Program} {w : World} {K : PySem.W.Frag} {mg : Str → Option Value} {base : Heap} {a : Ad}
theorem ok_law {f : Addr} {fd : FuncData} (F : Fun K "law" "law" s_law f fd) (T : Tx K mg a) : FnOk P w K mg base CX0 6 f fd ["script"] (spLaw K) := by
  have G__law_bag : FnOk P w K mg base CX0 1 a.a__law_bag a.d__law_bag ["script", "at"] (spBag K) := ok_bag T
  have G__law_take : FnOk P w K mg base CX0 1 a.a__law_take a.d__law_take ["bag", "many"] spTake := ok_take T
  have G__law_of : FnOk P w K mg base CX0 2 a.a__law_of a.d__law_of ["bag", "some"] spOf := ok_of T
  have G__law_far : FnOk P w K mg base CX0 3 a.a__law_far a.d__law_far ["bag"] spFar := ok_far T
  have G_Powers_UinitU : FnOk P w K mg base CX0 1 a.a_PowersU_initU a.d_PowersU_initU ["self", "first", "by"] (spPi a.c_Powers) := ok_pi T
  have GL : FnOk P w K mg base CX0 1 a.a_MembersU_initU a.d_MembersU_initU ["self", "values"] (spMi K false a.c_Members) := ok_miL T
  have GT : FnOk P w K mg base CX0 1 a.a_MembersU_initU a.d_MembersU_initU ["self", "values"] (spMi K true a.c_Members) := ok_miT T
  have GRlen := (ok_ml (P := P) (w := w) (base := base) T).raw T.b_MembersU_lenU .nil
  have GRcall := (ok_mc (P := P) (w := w) (base := base) T).raw T.b_MembersU_callU .nil
  have GRcon := (ok_mn (P := P) (w := w) (base := base) T).raw T.b_MembersU_containsU .nil
  have GRpow := (ok_pc (P := P) (w := w) (base := base) T).raw T.b_PowersU_callU .nil
  obtain ⟨ds2, vp2, bp2⟩ := T.b_pow2
  obtain ⟨ds1, vp1, bp1⟩ := T.b_pow1
  obtain ⟨ds0, vp0, bp0⟩ := T.b_pow0
  obtain ⟨it2, kb2⟩ := T.kb2
  obtain ⟨it1, kb1⟩ := T.kb1
  refine F.ok sc_law (fun vs H Q E h => ?_) (fun cdv A outer s H vs Q E hr h => ?_)
  · obtain ⟨_, _, rfl, _⟩ := h
    rfl
  · obtain ⟨sc, ns, rfl, hs, hl, k⟩ := h
    refine ⟨_, (pss_cons (ps_for PassesOwn.never rfl (pi_range1 (by rfl) T.z_range (pa_cons (pe_callB (call_max2 rfl) (by rfl) T.z_max (by decide +kernel) (pa_cons pe_int (pa_cons (pe_callB (call_min2 rfl) (by rfl) T.z_min (by decide +kernel) (pa_cons pe_int (pa_cons (pe_callB call_len_seq (by rfl) T.z_len (by decide +kernel) (pa_cons (pv 0) pa_nil)) pa_nil))) pa_nil))) pa_nil)) (pg_name (i := 1) sc_law.nd rfl (Or.inl rfl))
  (pss_cons (ps_set (i := 2) sc_law.nd rfl (Or.inr rfl) (pe_call G__law_bag (hr.mono (by decide)) (by rfl) T.mg__law_bag T.kp__law_bag T.b__law_bag .nil pass0 (pa_cons (pv 0) (pa_cons (pv 1) pa_nil))))
  (pss_cons (ps_set (i := 3) sc_law.nd rfl (Or.inr rfl) (pe_lc (own := [("k", 4)]) (g := gName 4) rfl sc_law.nd (pi_range1 (by rfl) T.z_range (pa_cons (pe_call G__law_take (hr.mono (by decide)) (by rfl) T.mg__law_take T.kp__law_take T.b__law_take .nil pass0 (pa_cons (pv 2) (pa_cons pe_int pa_nil))) pa_nil)) (blkOk_by (own := [("k", 4)]) (N := ["script", "at", "bag", "some", "k", "handed", "members", "others", "once", "one", "number", "begin", "far", "n", "key", "due"]) (sc := defScope s_law) (by decide +kernel)) (fun _ _ _ _ _ => (pg_name (i := 4) sc_law.nd rfl (Or.inl rfl))) (fun _ _ _ _ _ => pts_nil) (fun _ _ _ _ _ => (pe_call G__law_far (hr.mono (by decide)) (by rfl) T.mg__law_far T.kp__law_far T.b__law_far .nil pass0 (pa_cons (pv 2) pa_nil)))))
  (pss_cons (ps_set (i := 3) sc_law.nd rfl (Or.inr rfl) (pe_op op_cat (pv 3) (pe_lc (own := [("k", 4)]) (g := gName 4) rfl sc_law.nd (pi_range1 (by rfl) T.z_range (pa_cons (pe_call G__law_take (hr.mono (by decide)) (by rfl) T.mg__law_take T.kp__law_take T.b__law_take .nil pass0 (pa_cons (pv 2) (pa_cons pe_int pa_nil))) pa_nil)) (blkOk_by (own := [("k", 4)]) (N := ["script", "at", "bag", "some", "k", "handed", "members", "others", "once", "one", "number", "begin", "far", "n", "key", "due"]) (sc := defScope s_law) (by decide +kernel)) (fun _ _ _ _ _ => (pg_name (i := 4) sc_law.nd rfl (Or.inl rfl))) (fun _ _ _ _ _ => pts_nil) (fun _ _ _ _ _ => (pe_call G__law_of (hr.mono (by decide)) (by rfl) T.mg__law_of T.kp__law_of T.b__law_of .nil pass0 (pa_cons (pv 2) (pa_cons (pe_op op_cat (pv 3) (pe_lst (pa_cons pe_int pa_nil))) pa_nil)))))))
  (pss_cons (ps_set (i := 5) sc_law.nd rfl (Or.inl rfl) (pe_callTy call_list_of (by rfl) T.z_list (by decide +kernel) (pa_cons (pv 3) pa_nil)))
  (pss_cons (ps_par (i := 6) (j := 7) (by rfl) sc_law.nd rfl rfl (by decide) rfl rfl (pa_cons (pe_make T.mk_Members GL (hr.mono (by decide)) (by rfl) T.mg_Members T.b_MembersU_initU .nil pass0 (pa_cons (pv 5) pa_nil)) (pa_cons (pe_make T.mk_Members GT (hr.mono (by decide)) (by rfl) T.mg_Members T.b_MembersU_initU .nil pass0 (pa_cons (pe_callTy call_tuple_of (by rfl) T.z_tuple (by decide +kernel) (pa_cons (pe_slice sl_list (pv 5) (po_some pe_int) po_none) pa_nil)) pa_nil)) pa_nil)) (by rfl))
  (pss_cons (ps_expr (pe_bm PySem.F.plainAttrs_list PySem.F.slot_list_append PySem.F.type_list_append mt_append (pv 5) (pa_cons (pe_op op_pow pe_int pe_int) pa_nil)))
  (pss_cons (ps_setLc (i := 8) (own := [("k", 4), ("one", 9)]) (g := gTup K 2 (gCons (gName 4) (gCons (gName 9) gNil))) rfl sc_law.nd rfl rfl (sw_true rfl rfl rfl (by decide +kernel)) (pi_enum (by rfl) T.z_enumerate (pa_cons (pv 3) pa_nil)) (blkOk_by (own := [("k", 4), ("one", 9)]) (N := ["script", "at", "bag", "some", "k", "handed", "members", "others", "once", "one", "number", "begin", "far", "n", "key", "due"]) (sc := defScope s_law) (by decide +kernel)) (fun _ _ _ _ _ => (pg_tup (by rfl) (pgs_cons (pg_name (i := 4) sc_law.nd rfl (Or.inl rfl)) (pgs_cons (pg_name (i := 9) sc_law.nd rfl (Or.inl rfl)) pgs_nil)))) (fun _ _ _ _ _ => (pts_one (pt_cmpR (op_notIn_seqK (K := K) rfl) (pv 9) (pe_slice (sl_listK (K := K) rfl) (pv 3) po_none (po_some (pv 4))) (by rfl)))) (fun _ _ _ _ _ => (pv 9)))
  (pss_cons (ps_if (PW.pt (pw_or (pt_cmpR op_ne (pe_callB (call_lenO ⟨T.at_MembersU_lenU, T.fn_MembersU_lenU⟩ GRlen (hr.mono (by decide)) pass0) (by rfl) T.z_len (by decide +kernel) (pa_cons (pv 6) pa_nil)) (pe_callB call_len_seq (by rfl) T.z_len (by decide +kernel) (pa_cons (pv 8) pa_nil)) (nomark _)) (pw_or1 (pt_cmpR op_ne (pe_callB (call_lenO ⟨T.at_MembersU_lenU, T.fn_MembersU_lenU⟩ GRlen (hr.mono (by decide)) pass0) (by rfl) T.z_len (by decide +kernel) (pa_cons (pv 7) pa_nil)) (pe_callB call_len_seq (by rfl) T.z_len (by decide +kernel) (pa_cons (pe_lc (own := [("one", 9)]) (g := gName 9) rfl sc_law.nd (pi_list (pv 8)) (blkOk_by (own := [("one", 9)]) (N := ["script", "at", "bag", "some", "k", "handed", "members", "others", "once", "one", "number", "begin", "far", "n", "key", "due"]) (sc := defScope s_law) (by decide +kernel)) (fun _ _ _ _ _ => (pg_name (i := 9) sc_law.nd rfl (Or.inl rfl))) (fun _ _ _ _ _ => (pts_one (pt_cmpR (op_in_seqK (K := K) rfl) (pv 9) (pe_slice (sl_listK (K := K) rfl) (pv 3) (po_some pe_int) po_none) (by rfl)))) (fun _ _ _ _ _ => (pv 9))) pa_nil)) (nomark _)))))
  (pss_one (ps_ret pe_bl))
  pss_nil)
  (pss_cons (ps_for PassesOwn.never rfl (pi_list (pe_op op_cat (pe_op op_cat (pe_op op_cat (pv 3) (pe_lc (own := [("k", 4)]) (g := gName 4) rfl sc_law.nd (pi_range1 (by rfl) T.z_range (pa_cons pe_int pa_nil)) (blkOk_by (own := [("k", 4)]) (N := ["script", "at", "bag", "some", "k", "handed", "members", "others", "once", "one", "number", "begin", "far", "n", "key", "due"]) (sc := defScope s_law) (by decide +kernel)) (fun _ _ _ _ _ => (pg_name (i := 4) sc_law.nd rfl (Or.inl rfl))) (fun _ _ _ _ _ => pts_nil) (fun _ _ _ _ _ => (pe_call G__law_far (hr.mono (by decide)) (by rfl) T.mg__law_far T.kp__law_far T.b__law_far .nil pass0 (pa_cons (pv 2) pa_nil))))) (pe_lc (own := [("one", 9)]) (g := gName 9) rfl sc_law.nd (pi_list (pe_slice sl_list (pv 3) po_none (po_some pe_int))) (blkOk_by (own := [("one", 9)]) (N := ["script", "at", "bag", "some", "k", "handed", "members", "others", "once", "one", "number", "begin", "far", "n", "key", "due"]) (sc := defScope s_law) (by decide +kernel)) (fun _ _ _ _ _ => (pg_name (i := 9) sc_law.nd rfl (Or.inl rfl))) (fun _ _ _ _ _ => pts_nil) (fun _ _ _ _ _ => (pe_op op_add (pv 9) pe_int)))) (pe_lst (pa_cons (pe_op op_pow pe_int pe_int) pa_nil)))) (pg_name (i := 10) sc_law.nd rfl (Or.inl rfl))
  (pss_cons (ps_if (PW.pt (pw_or (pt_cmpR op_ne (pe_callB call_repr_bl (by rfl) T.z_repr (by decide +kernel) (pa_cons (StX.pe_callO (pv 6) ⟨T.at_MembersU_callU, T.fn_MembersU_callU, T.fi_MembersU_callU⟩ GRcall (hr.mono (by decide)) pass0 (pa_cons (pv 10) pa_nil)) pa_nil)) (pe_callB call_repr_bl (by rfl) T.z_repr (by decide +kernel) (pa_cons (pe_cmpR op_in_seq (pv 10) (pv 3) (by rfl)) pa_nil)) (nomark _)) (pw_or1 (pt_cmpR op_ne (pe_callB call_repr_bl (by rfl) T.z_repr (by decide +kernel) (pa_cons (pe_cmpR (op_inO ⟨T.at_MembersU_containsU, T.fn_MembersU_containsU⟩ GRcon (hr.mono (by decide)) pass0) (pv 10) (pv 6) (by rfl)) pa_nil)) (pe_callB call_repr_bl (by rfl) T.z_repr (by decide +kernel) (pa_cons (pe_cmpR op_in_seq (pv 10) (pv 3) (by rfl)) pa_nil)) (nomark _)))))
  (pss_one (ps_ret pe_bl))
  pss_nil)
  (pss_one (ps_if (pt_cmpR op_ne (pe_callB call_repr_bl (by rfl) T.z_repr (by decide +kernel) (pa_cons (StX.pe_callO (pv 7) ⟨T.at_MembersU_callU, T.fn_MembersU_callU, T.fi_MembersU_callU⟩ GRcall (hr.mono (by decide)) pass0 (pa_cons (pv 10) pa_nil)) pa_nil)) (pe_callB call_repr_bl (by rfl) T.z_repr (by decide +kernel) (pa_cons (pe_cmpR op_in_seq (pv 10) (pe_slice sl_list (pv 3) (po_some pe_int) po_none) (by rfl)) pa_nil)) (nomark _))
  (pss_one (ps_ret pe_bl))
  pss_nil))))
  (pss_cons (ps_par (i := 11) (j := 12) (by rfl) sc_law.nd rfl rfl (by decide) rfl rfl (pa_cons (pe_call G__law_take (hr.mono (by decide)) (by rfl) T.mg__law_take T.kp__law_take T.b__law_take .nil pass0 (pa_cons (pv 2) (pa_cons pe_int pa_nil))) (pa_cons (pe_call G__law_take (hr.mono (by decide)) (by rfl) T.mg__law_take T.kp__law_take T.b__law_take .nil pass0 (pa_cons (pv 2) (pa_cons pe_int pa_nil))) pa_nil)) (by rfl))
  (pss_cons (ps_set (i := 13) sc_law.nd rfl (Or.inl rfl) (pe_call G__law_take (hr.mono (by decide)) (by rfl) T.mg__law_take T.kp__law_take T.b__law_take .nil pass0 (pa_cons (pv 2) (pa_cons (pe_op op_add pe_int (pe_op op_fdiv (pe_op op_sub pe_int (pv 11)) (pe_callB (call_max2 rfl) (by rfl) T.z_max (by decide +kernel) (pa_cons pe_int (pa_cons (pv 12) pa_nil))))) pa_nil))))
  (pss_cons (ps_set (i := 14) sc_law.nd rfl (Or.inl rfl) (pe_call G__law_far (hr.mono (by decide)) (by rfl) T.mg__law_far T.kp__law_far T.b__law_far .nil pass0 (pa_cons (pv 2) pa_nil)))
  (pss_cons (ps_set (i := 15) sc_law.nd rfl (Or.inl rfl) (pe_op op_shl pe_int (pe_op op_add (pv 11) (pe_op op_mul (pv 12) (pv 13)))))
  (pss_cons (ps_if (PW.pt (pw_or (pt_cmpR op_ne (StX.pe_callO (pe_make T.mk_Powers G_Powers_UinitU (hr.mono (by decide)) (by rfl) T.mg_Powers bp2 vp2 pass0 (pa_cons (pv 11) (pa_cons (pv 12) pa_nil))) ⟨T.at_PowersU_callU, T.fn_PowersU_callU, T.fi_PowersU_callU⟩ GRpow (hr.mono (by decide)) pass0 (pa_cons (pv 13) (pa_cons (pv 14) pa_nil))) (pv 15) (nomark _)) (pw_or1 (pt_cmpR op_ne (StX.pe_callO (pe_makeK0 T.mk_Powers G_Powers_UinitU (hr.mono (by decide)) (by rfl) T.mg_Powers kb2 pass0 (pk_cons (pv 12) (pk_cons (pv 11) pk_nil))) ⟨T.at_PowersU_callU, T.fn_PowersU_callU, T.fi_PowersU_callU⟩ GRpow (hr.mono (by decide)) pass0 (pa_cons (pv 13) (pa_cons pe_int pa_nil))) (pv 15) (nomark _)))))
  (pss_one (ps_ret pe_bl))
  pss_nil)
  (pss_cons (ps_if (PW.pt (pw_or (pt_cmpR op_ne (StX.pe_callO (pe_make0 T.mk_Powers G_Powers_UinitU (hr.mono (by decide)) (by rfl) T.mg_Powers bp0 vp0 pass0) ⟨T.at_PowersU_callU, T.fn_PowersU_callU, T.fi_PowersU_callU⟩ GRpow (hr.mono (by decide)) pass0 (pa_cons (pv 13) (pa_cons (pv 14) pa_nil))) (pe_op op_shl pe_int (pv 13)) (nomark _)) (pw_or1 (pt_cmpR op_ne (StX.pe_callO (pe_make T.mk_Powers G_Powers_UinitU (hr.mono (by decide)) (by rfl) T.mg_Powers bp1 vp1 pass0 (pa_cons (pv 11) pa_nil)) ⟨T.at_PowersU_callU, T.fn_PowersU_callU, T.fi_PowersU_callU⟩ GRpow (hr.mono (by decide)) pass0 (pa_cons pe_int (pa_cons (pv 14) pa_nil))) (pe_op op_shl pe_int (pe_op op_add (pv 11) pe_int)) (nomark _)))))
  (pss_one (ps_ret pe_bl))
  pss_nil)
  (pss_one (ps_if (pt_cmpR op_ne (StX.pe_callO (pe_makeK0 T.mk_Powers G_Powers_UinitU (hr.mono (by decide)) (by rfl) T.mg_Powers kb1 pass0 (pk_cons (pv 12) pk_nil)) ⟨T.at_PowersU_callU, T.fn_PowersU_callU, T.fi_PowersU_callU⟩ GRpow (hr.mono (by decide)) pass0 (pa_cons pe_int (pa_cons (pv 14) pa_nil))) (pe_op op_shl pe_int (pv 12)) (nomark _))
  (pss_one (ps_ret pe_bl))
  pss_nil))))))))))))))))))
  (pss_one (ps_ret pe_bl))), ?_⟩
    refine ⟨_, rfl, sc, _, rfl, .inl hs, _, _, rfl, _, _, rfl, _, rfl, ?_, ?_, for_it walk_range (fun i σ H' => Same H H' ∧ ∃ v1 v2 v3 v4 v5 v6 v7 v8 v9 v10 v11 v12 v13 v14 v15, σ = [some (.ref sc), v1, v2, v3, v4, v5, v6, v7, v8, v9, v10, v11, v12, v13, v14, v15])
      ⟨Same.refl _, _, _, _, _, _, _, _, _, _, _, _, _, _, _, _, rfl⟩ (fun _ _ _ _ _ => trivial) ?_ ?_⟩
    · split <;> split <;> omega
    · split <;> split <;> omega
    · rintro i x σ Hi _ hi ⟨si, v1, v2, v3, v4, v5, v6, v7, v8, v9, v10, v11, v12, v13, v14, v15, rfl⟩ ⟨rfl, rfl⟩
      -- bag
      refine ⟨_, rfl, _, rfl, sc, _, ns, rfl, by omega, Same.seq si hs, hl, fun b H1 nb s1 hb1 => ?_⟩
      -- some
      refine ⟨_, rfl, b, _, rfl, hb1, by decide, by decide, fun r H2 r0 r1 hb2 c2 => ⟨_, rfl, by omega, by omega, fun D nD => ?_⟩⟩
      refine lc_it walk_range (fun j H' => Bag b H' ∧ Chg [b] H1 H' ∧ ∃ zs : List Int, zs.length = j ∧ IL [b] H' D zs) ⟨hb2.same (Lx.Same.new nD), c2.trans (Chg.new nD), [], rfl, no1 (hb2.ne nD), upd_same⟩ (fun _ _ _ _ => trivial) ?_ ?_
      · rintro j x _ H3 hj ⟨hb3, c3, zs, hz, iz⟩ ⟨rfl, rfl⟩
        refine ⟨rfl, _, rfl, b, rfl, hb3, fun r4 H4 hb4 c4 => ⟨_, (iz.mv c4).2, IL.lt (k := 21) (by omega) (by decide), ?_⟩⟩
        exact ⟨hb4.mv (S := [D]) (no1 fun e => iz.1 (e ▸ List.mem_cons_self)) Chg.upd, (c3.trans c4).mut (c2.back nD (hb2.ne nD |> no1)), zs ++ [r4], by simp [hz], IL.snoc iz.1⟩
      rintro H3 ⟨hb3, c3, zs, hz, iz⟩
      have hz21 : zs.length ≤ 21 := by omega
      -- some = some + [..]
      refine ⟨_, rfl, _, rfl, b, _, rfl, hb3, by decide, by decide, fun r4 H4 r40 r41 hb4 c4 => ⟨_, rfl, by omega, by omega, fun D2 nD2 => ?_⟩⟩
      have iz4 := iz.mv c4
      refine lc_it walk_range (fun j H' => Bag b H' ∧ Chg [b] H4 H' ∧ ∃ ys : List Int, ys.length = j ∧ IL [b] H' D2 ys) ⟨hb4.same (Lx.Same.new nD2), Chg.new nD2, [], rfl, no1 (hb4.ne nD2), upd_same⟩ (fun _ _ _ _ => trivial) ?_ ?_
      · rintro j x _ H5 hj ⟨hb5, c5, ys, hy, iy⟩ ⟨rfl, rfl⟩
        refine ⟨rfl, _, rfl, _, rfl, (by show 1 ≤ sizeLine; decide), fun p np => ?_⟩
        have ip := (iz4.mv c5).mv (Chg.new (o := .lst [V.int 0]) np)
        refine ⟨_, _, _, _, rfl, rfl, ip.2, upd_same, (by rw [List.length_map]; exact le_line (by show zs.length + 1 ≤ 1000; omega)), fun q nq => ?_⟩
        have hbq : Bag b (upd (upd H5 p (.lst [V.int 0])) q (.lst (zs.map V.int ++ [V.int 0]))) := (hb5.same (Lx.Same.new np)).same (Lx.Same.new nq)
        refine ⟨b, q, zs ++ [0], rfl, hbq, (hb5.same (Lx.Same.new np)).ne nq, (by rw [upd_same, List.map_append]; rfl), by simp, by simp; omega, fun r6 H6 _ hb6 c6 => ?_⟩
        have cc : Chg [b] H5 H6 := ((Chg.new np).trans (Chg.new nq)).trans c6
        exact ⟨_, (iy.mv cc).2, IL.lt (k := 3) (by omega) (by decide), hb6.mv (S := [D2]) (no1 fun e => iy.1 (e ▸ List.mem_cons_self)) Chg.upd, (c5.trans cc).mut nD2, ys ++ [r6], by simp [hy], IL.snoc iy.1⟩
      rintro H5 ⟨hb5, c5, ys, hy, iy⟩
      have hy3 : ys.length ≤ 3 := by omega
      have iz5 := iz4.mv c5
      refine ⟨_, _, _, _, rfl, rfl, iz5.2, iy.2, (by rw [List.length_map, List.length_map]; exact le_line (by omega)), fun l nl => ?_⟩
      -- some is at l now: ws
      have cl : Chg [b] H1 (upd H5 l (.lst (zs.map V.int ++ ys.map V.int))) := ((c3.trans c4).trans c5).trans (Chg.new nl)
      have hbl : Bag b (upd H5 l (.lst (zs.map V.int ++ ys.map V.int))) := hb5.same (Lx.Same.new nl)
      have il : IL [b] (upd H5 l (.lst (zs.map V.int ++ ys.map V.int))) l (zs ++ ys) := ⟨no1 (hb5.ne nl), by rw [upd_same, List.map_append]⟩
      have hw24 : (zs ++ ys).length ≤ 24 := by rw [List.length_append]; omega
      generalize upd H5 l (.lst (zs.map V.int ++ ys.map V.int)) = H6 at cl hbl il
      generalize zs ++ ys = ws at il hw24
      -- handed = list(some)
      refine ⟨_, rfl, l, _, rfl, .inl il.seq, fun g ng => ?_⟩
      have s7 : Same H6 (upd H6 g (.lst (ws.map V.int))) := Lx.Same.new ng
      have gh : upd H6 g (.lst (ws.map V.int)) g = some (.lst (ws.map V.int)) := upd_same
      generalize upd H6 g (.lst (ws.map V.int)) = H7 at s7 gh
      have hb7 := hbl.same s7
      have gb : g ≠ b := hbl.ne ng
      have lg : l ≠ g := ne_of_none il.2 ng
      have il7 : IL [b, g] H7 l ws := ⟨no2 (fun e => il.1 (e ▸ List.mem_cons_self)) lg, s7 _ _ il.2⟩
      have ex7 : ∀ {Hx : Hp}, Bag b Hx → (∃ o, Hx g = some o) → ∀ c ∈ [b, g], ∃ o, Hx c = some o := fun hbx hg => all2 (let ⟨_, _, e⟩ := hbx; ⟨_, e⟩) hg
      -- members, others
      refine ⟨_, rfl, fun x1 dx1 nx1 ndx1 ne1 => ⟨x1, dx1, g, ws, rfl, upd_same, SqL.of (keep_set (ne_of_none gh nx1) (keep_set (ne_of_none gh ndx1) gh)), by omega, fun H8 d1 nd1 k1 h1 h2 => ⟨rfl, ?_⟩⟩⟩
      obtain ⟨s8, m1⟩ := made_mem (S := [b, g]) (ns := ws) nx1 ndx1 ne1 (ex7 hb7 ⟨_, gh⟩) nd1 k1 h1 h2
      have hb8 := hb7.same s8
      have gh8 := s8 _ _ gh
      refine ⟨_, rfl, _, rfl, g, _, rfl, SqL.of gh8, fun t nt => ⟨t, _, rfl, .inl ⟨SqL.of upd_same, fun u nu => ?_⟩⟩⟩
      have s9 : Same H8 (upd (upd H8 t (.lst (cutV (ws.map V.int) (some 1) none))) u (.tup (cutV (ws.map V.int) (some 1) none))) := (Lx.Same.new nt).trans (Lx.Same.new nu)
      have hu9 : upd (upd H8 t (.lst (cutV (ws.map V.int) (some 1) none))) u (.tup (cutV (ws.map V.int) (some 1) none)) u = some (.tup (ws.tail.map V.int)) := by
        rw [upd_same]
        have e : cutV (ws.map V.int) (some ((1 : Nat) : Int)) none = (ws.map V.int).drop 1 := cut_back
        have e2 : cutV (ws.map V.int) (some 1) none = (ws.map V.int).drop 1 := e
        rw [e2, List.drop_one, List.map_tail]
      generalize upd (upd H8 t (.lst (cutV (ws.map V.int) (some 1) none))) u (.tup (cutV (ws.map V.int) (some 1) none)) = H9 at s9 hu9
      have hb9 := hb8.same s9
      have gh9 := s9 _ _ gh8
      refine fun x2 dx2 nx2 ndx2 ne2 => ⟨x2, dx2, u, ws.tail, rfl, upd_same, SqT.of (keep_set (ne_of_none hu9 nx2) (keep_set (ne_of_none hu9 ndx2) hu9)), (by rw [List.length_tail]; omega), fun H10 d2 nd2 k2 h3 h4 => ⟨rfl, ?_⟩⟩
      obtain ⟨s10, m2⟩ := made_mem (S := [b, g]) (ns := ws.tail) nx2 ndx2 ne2 (ex7 hb9 ⟨_, gh9⟩) nd2 k2 h3 h4
      have m1 := (m1.mv (Chg.of s9)).mv (Chg.of s10)
      have hb10 := hb9.same s10
      have gh10 := s10 _ _ gh9
      have il10 := ((il7.mv (Chg.of s8)).mv (Chg.of s9)).mv (Chg.of s10)
      have c10 : Chg [b, g] H1 H10 := (((cl.mono fun c hc => by rw [List.mem_singleton.mp hc]; exact List.mem_cons_self).trans (Chg.of s7)).trans (Chg.of s8)).trans ((Chg.of s9).trans (Chg.of s10))
      refine ⟨_, _, rfl, ?_⟩
      -- handed.append(10 ** 40)
      refine ⟨_, rfl, .inl ⟨rfl, _, SqL.of gh10⟩, _, _, rfl, rfl, ⟨by decide, by decide, by decide⟩, g, _, _, rfl, rfl, gh10, IL.lt (k := 24) (by omega) (by decide), ?_⟩
      have c11 : Chg [b, g] H10 (upd H10 g (.lst (ws.map V.int ++ [V.int ((10 : Int) ^ Int.toNat 40)]))) := Chg.updm (List.mem_cons_of_mem _ List.mem_cons_self)
      have hb11 : Bag b (upd H10 g (.lst (ws.map V.int ++ [V.int ((10 : Int) ^ Int.toNat 40)]))) := hb10.mv (S := [g]) (no1 (Ne.symm gb)) Chg.upd
      have m1 := m1.mv c11
      have m2 := m2.mv c11
      have il11 := il10.mv c11
      have c11 := c10.trans c11
      have gh11 : ∃ o, (upd H10 g (.lst (ws.map V.int ++ [V.int ((10 : Int) ^ Int.toNat 40)]))) g = some o := ⟨_, upd_same⟩
      generalize upd H10 g (.lst (ws.map V.int ++ [V.int ((10 : Int) ^ Int.toNat 40)])) = H11 at c11 hb11 m1 m2 il11 gh11
      -- once
      refine ⟨_, rfl, l, _, rfl, il11.seq, fun D3 nD3 => ?_⟩
      refine lc_it (walk_enum (K := K) (a := l) (xs := ws.map V.int)) (fun j H' => Same H11 H' ∧ H' D3 = some (.lst ((dd (ws.take j)).map V.int))) ⟨Lx.Same.new nD3, upd_same⟩ (fun j H' _ h' => SqL.of (h'.1 _ _ il11.2)) ?_ ?_
      · rintro j x H12 _ hj ⟨s12, h12⟩ ⟨t2, x1', x2', rfl, nt2, rfl, e1, e2⟩
        cases e1
        obtain ⟨n, hn, rfl⟩ := get_int e2
        have hlt := (List.getElem?_eq_some_iff.mp hn).1
        have hg := (List.getElem?_eq_some_iff.mp hn).2
        have s13 : Same H12 (upd H12 t2 (.tup [V.int (j : Nat), V.int n])) := Lx.Same.new nt2
        refine ⟨t2, _, rfl, SqT.of upd_same, rfl, _, _, rfl, _, _, rfl, rfl, rfl, ?_⟩
        refine ⟨_, rfl, _, rfl, _, rfl, _, rfl, l, _, rfl, SqL.of (s13 _ _ (s12 _ _ il11.2)), fun p np => ?_⟩
        have ec : cutV (ws.map V.int) none (some ((j : Nat) : Int)) = (ws.take j).map V.int := by rw [cut_front_le, List.map_take]
        have s14 : Same H12 (upd (upd H12 t2 (.tup [V.int (j : Nat), V.int n])) p (.lst (cutV (ws.map V.int) none (some ((j : Nat) : Int))))) := s13.trans (Lx.Same.new np)
        refine ⟨p, (ws.take j).map V.int, rfl, .inl (SqL.of (by rw [upd_same, ec])), rfl, flat_ints _, _, rfl, ?_⟩
        generalize upd (upd H12 t2 (.tup [V.int (j : Nat), V.int n])) p (.lst (cutV (ws.map V.int) none (some ((j : Nat) : Int)))) = H14 at s14
        have hd14 : (dd (ws.take j)).length ≤ 24 := by
          have := (dd_facts (ws.take j)).2.2
          rw [List.length_take] at this
          omega
        show if (!inV (V.int n) ((ws.take j).map V.int)) = true then _ else _
        rw [inV_int]
        by_cases hm : n ∈ ws.take j
        · rw [decide_eq_true hm, if_neg (by decide)]
          refine ⟨s12.trans s14, ?_⟩
          rw [List.take_succ_eq_append_getElem hlt, hg, dd_snoc, if_pos (((dd_facts _).2.1 n).mpr hm)]
          exact s14 _ _ h12
        · rw [decide_eq_false hm, if_pos (by decide)]
          refine ⟨_, rfl, _, s14 _ _ h12, IL.lt hd14 (by decide), Lx.Same.mut (s12.trans s14) nD3, ?_⟩
          rw [upd_same, List.take_succ_eq_append_getElem hlt, hg, dd_snoc, if_neg (fun z => hm (((dd_facts _).2.1 n).mp z)), List.map_append]
          rfl
      rintro H12 ⟨s12, h12⟩
      have h12 : H12 D3 = some (.lst ((dd ws).map V.int)) := by
        rw [h12, List.length_map, List.take_length]
      have m1 := m1.mv (Chg.of s12)
      have m2 := m2.mv (Chg.of s12)
      have il12 := il11.mv (Chg.of s12)
      have hb12 := hb11.same s12
      have c12 := c11.trans (Chg.of s12)
      obtain ⟨og, gh11⟩ := gh11
      have gh12 := s12 _ _ gh11
      have hdd : (dd ws).length ≤ 24 := Nat.le_trans (dd_facts ws).2.2 hw24
      have hddt : (dd ws.tail).length ≤ 24 := Nat.le_trans (dd_facts ws.tail).2.2 (by rw [List.length_tail]; omega)
      -- len(members) != len(once) or ..
      have M1 := id m1
      have M2 := id m2
      obtain ⟨dx1', d1', _, _, a1, b1⟩ := id m1
      obtain ⟨dx2', d2', _, _, a2, b2⟩ := id m2
      refine ⟨_, rfl, x1, dx1', _, rfl, a1, [b, g], x1, ws, rfl, M1, _, rfl, by omega, by omega, _, rfl, D3, _, rfl, .inl (SqL.of h12), rfl, _, rfl, ?_⟩
      refine iteNS (by rw [List.length_map]) ?_
      refine ⟨_, rfl, x2, dx2', _, rfl, a2, [b, g], x2, ws.tail, rfl, M2, _, rfl, by omega, by omega, ?_⟩
      refine ⟨_, rfl, D3, rfl, ⟨_, SqL.of h12⟩, fun D4 nD4 => ?_⟩
      refine lc_it (walk_list (K := K) (a := D3) (xs := (dd ws).map V.int)) (fun j H' => Same H12 H' ∧ H' D4 = some (.lst ((((dd ws).take j).filter fun n => decide (n ∈ ws.tail)).map V.int))) ⟨Lx.Same.new nD4, by rw [upd_same]; rfl⟩ (fun j H' _ h' => SqL.of (h'.1 _ _ h12)) ?_ ?_
      · rintro j x _ H13 hj ⟨s13, h13⟩ ⟨rfl, hx⟩
        obtain ⟨n, hn, rfl⟩ := get_int hx
        have hlt := (List.getElem?_eq_some_iff.mp hn).1
        have hg := (List.getElem?_eq_some_iff.mp hn).2
        refine ⟨rfl, ?_⟩
        refine ⟨_, rfl, _, rfl, _, rfl, l, _, rfl, SqL.of (s13 _ _ il12.2), fun p np => ?_⟩
        have ec : cutV (ws.map V.int) (some 1) none = ws.tail.map V.int := by
          have e : cutV (ws.map V.int) (some ((1 : Nat) : Int)) none = (ws.map V.int).drop 1 := cut_back
          have e2 : cutV (ws.map V.int) (some 1) none = (ws.map V.int).drop 1 := e
          rw [e2, List.drop_one, List.map_tail]
        have s14 : Same H13 (upd H13 p (.lst (cutV (ws.map V.int) (some 1) none))) := Lx.Same.new np
        refine ⟨p, ws.tail.map V.int, rfl, .inl (SqL.of (by rw [upd_same, ec])), rfl, flat_ints _, _, rfl, ?_⟩
        generalize upd H13 p (.lst (cutV (ws.map V.int) (some 1) none)) = H14 at s14
        have hf14 : (((dd ws).take j).filter fun n => decide (n ∈ ws.tail)).length ≤ 24 := by
          have := List.length_filter_le (fun n => decide (n ∈ ws.tail)) ((dd ws).take j)
          rw [List.length_take] at this
          omega
        show if inV (V.int n) (ws.tail.map V.int) = true then _ else _
        rw [inV_int]
        have et : ((dd ws).take (j + 1)).filter (fun n => decide (n ∈ ws.tail)) = ((dd ws).take j).filter (fun n => decide (n ∈ ws.tail)) ++ (if n ∈ ws.tail then [n] else []) := by
          rw [List.take_succ_eq_append_getElem hlt, hg, List.filter_append]
          by_cases h : n ∈ ws.tail
          · rw [if_pos h, List.filter_cons_of_pos (by simpa using h)]; rfl
          · rw [if_neg h, List.filter_cons_of_neg (by simpa using h)]; rfl
        by_cases hm : n ∈ ws.tail
        · rw [decide_eq_true hm, if_pos (by decide)]
          refine ⟨_, rfl, _, s14 _ _ h13, IL.lt hf14 (by decide), Lx.Same.mut (s13.trans s14) nD4, ?_⟩
          rw [upd_same, et, if_pos hm, List.map_append]
          rfl
        · rw [decide_eq_false hm, if_neg (by decide)]
          refine ⟨s13.trans s14, ?_⟩
          rw [et, if_neg hm, List.append_nil]
          exact s14 _ _ h13
      rintro H13 ⟨s13, h13⟩
      have h13 : H13 D4 = some (.lst (((dd ws).filter fun n => decide (n ∈ ws.tail)).map V.int)) := by
        rw [h13, List.length_map, List.take_length]
      refine ⟨D4, _, rfl, .inl (SqL.of h13), rfl, _, rfl, ?_⟩
      refine iteNS (by rw [List.length_map, once_len]) ?_
      have m1 := m1.mv (Chg.of s13)
      have m2 := m2.mv (Chg.of s13)
      have il13 := il12.mv (Chg.of s13)
      have hb13 := hb12.same s13
      have c13 := c12.trans (Chg.of s13)
      have h12 := s13 _ _ h12
      -- for number in ..
      refine ⟨_, rfl, _, rfl, by decide, by decide, fun D5 nD5 => ?_⟩
      refine lc_it walk_range (fun j H' => Bag b H' ∧ Chg [b] H13 H' ∧ ∃ ys : List Int, ys.length = j ∧ IL [b] H' D5 ys) ⟨hb13.same (Lx.Same.new nD5), Chg.new nD5, [], rfl, no1 (hb13.ne nD5), upd_same⟩ (fun _ _ _ _ => trivial) ?_ ?_
      · rintro j x _ H14 hj ⟨hb14, c14, ys, hy, iy⟩ ⟨rfl, rfl⟩
        have hj : j < 5 := hj
        refine ⟨rfl, _, rfl, b, rfl, hb14, fun r6 H6 hb6 c6 => ⟨_, (iy.mv c6).2, IL.lt (k := 5) (by omega) (by decide), ?_⟩⟩
        exact ⟨hb6.mv (S := [D5]) (no1 fun e => iy.1 (e ▸ List.mem_cons_self)) Chg.upd, (c14.trans c6).mut nD5, ys ++ [r6], by simp [hy], IL.snoc iy.1⟩
      rintro H14 ⟨hb14, c14, fs, hf, jf⟩
      have hf5 : fs.length = 5 := hf
      have c14 := Chg.up (g := g) c14
      have m1 := m1.mv c14
      have m2 := m2.mv c14
      have il14 := il13.mv c14
      have c14 := c13.trans c14
      have hf14 : H14 D5 = some (.lst (fs.map V.int)) := jf.2
      refine ⟨_, _, _, _, rfl, rfl, il14.2, hf14, (by rw [List.length_map, List.length_map]; exact le_line (by omega)), fun l2 nl2 => ?_⟩
      have s15 : Same H14 (upd H14 l2 (.lst (ws.map V.int ++ fs.map V.int))) := Lx.Same.new nl2
      have h15 : upd H14 l2 (.lst (ws.map V.int ++ fs.map V.int)) l2 = some (.lst ((ws ++ fs).map V.int)) := by rw [upd_same, List.map_append]
      generalize upd H14 l2 (.lst (ws.map V.int ++ fs.map V.int)) = H15 at s15 h15
      refine ⟨_, rfl, _, rfl, l, _, rfl, SqL.of (s15 _ _ il14.2), fun p np => ?_⟩
      have ec : cutV (ws.map V.int) none (some 4) = (ws.take 4).map V.int := by
        have e : cutV (ws.map V.int) none (some ((4 : Nat) : Int)) = (ws.map V.int).take 4 := cut_front_le
        have e2 : cutV (ws.map V.int) none (some 4) = (ws.map V.int).take 4 := e
        rw [e2, List.map_take]
      have s16 : Same H15 (upd H15 p (.lst (cutV (ws.map V.int) none (some 4)))) := Lx.Same.new np
      have h16 : upd H15 p (.lst (cutV (ws.map V.int) none (some 4))) p = some (.lst ((ws.take 4).map V.int)) := by rw [upd_same, ec]
      generalize upd H15 p (.lst (cutV (ws.map V.int) none (some 4))) = H16 at s16 h16
      refine ⟨p, rfl, ⟨_, SqL.of h16⟩, fun D6 nD6 => ?_⟩
      refine lc_it (walk_list (K := K) (a := p) (xs := (ws.take 4).map V.int)) (fun j H' => Same H16 H' ∧ ∃ ys : List Int, ys.length = j ∧ H' D6 = some (.lst (ys.map V.int))) ⟨Lx.Same.new nD6, [], rfl, upd_same⟩ (fun j H' _ h' => SqL.of (h'.1 _ _ h16)) ?_ ?_
      · rintro j x _ H17 hj ⟨s17, ys, hy, h17⟩ ⟨rfl, hx⟩
        obtain ⟨n, hn, rfl⟩ := get_int hx
        rw [List.length_map, List.length_take] at hj
        refine ⟨rfl, _, rfl, _, _, rfl, rfl, _, h17, IL.lt (k := 4) (by omega) (by decide), Lx.Same.mut s17 nD6, ys ++ [n + 1], by simp [hy], ?_⟩
        rw [upd_same, List.map_append]
        rfl
      rintro H17 ⟨s17, gs, hgs, h17⟩
      rw [List.length_map, List.length_take] at hgs
      have h15 := s17 _ _ (s16 _ _ h15)
      refine ⟨_, _, _, _, rfl, rfl, h15, h17, (by rw [List.length_map, List.length_map, List.length_append]; exact le_line (by omega)), fun l3 nl3 => ?_⟩
      have s18 : Same H17 (upd H17 l3 (.lst ((ws ++ fs).map V.int ++ gs.map V.int))) := Lx.Same.new nl3
      have h18 : upd H17 l3 (.lst ((ws ++ fs).map V.int ++ gs.map V.int)) l3 = some (.lst ((ws ++ fs ++ gs).map V.int)) := by
        rw [upd_same, List.map_append]
        rw [List.map_append, List.map_append]
      generalize upd H17 l3 (.lst ((ws ++ fs).map V.int ++ gs.map V.int)) = H18 at s18 h18
      refine ⟨_, _, rfl, rfl, ⟨by decide, by decide, by decide⟩, (by show 1 ≤ sizeLine; decide), fun p2 np2 => ?_⟩
      have s19 : Same H18 (upd H18 p2 (.lst [V.int ((10 : Int) ^ Int.toNat 40)])) := Lx.Same.new np2
      refine ⟨_, _, _, _, rfl, rfl, s19 _ _ h18, upd_same, (by rw [List.length_map, List.length_append, List.length_append]; exact le_line (by show _ + 1 ≤ 1000; omega)), fun l4 nl4 => ?_⟩
      have s20 : Same H18 (upd (upd H18 p2 (.lst [V.int ((10 : Int) ^ Int.toNat 40)])) l4 (.lst ((ws ++ fs ++ gs).map V.int ++ [V.int ((10 : Int) ^ Int.toNat 40)]))) := s19.trans (Lx.Same.new nl4)
      have h20 : upd (upd H18 p2 (.lst [V.int ((10 : Int) ^ Int.toNat 40)])) l4 (.lst ((ws ++ fs ++ gs).map V.int ++ [V.int ((10 : Int) ^ Int.toNat 40)])) l4 = some (.lst ((ws ++ fs ++ gs ++ [(10 : Int) ^ Int.toNat 40]).map V.int)) := by
        rw [upd_same]
        simp only [List.map_append, List.map_cons, List.map_nil]
      generalize upd (upd H18 p2 (.lst [V.int ((10 : Int) ^ Int.toNat 40)])) l4 (.lst ((ws ++ fs ++ gs).map V.int ++ [V.int ((10 : Int) ^ Int.toNat 40)])) = H20 at s20 h20
      generalize ws ++ fs ++ gs ++ [(10 : Int) ^ Int.toNat 40] = items at h20
      have sA : Same H14 H20 := (((s15.trans s16).trans s17).trans s18).trans s20
      have m1 := m1.mv (Chg.of sA)
      have m2 := m2.mv (Chg.of sA)
      have il20 := il14.mv (Chg.of sA)
      have hb20 := hb14.same sA
      have c20 := c14.trans (Chg.of sA)
      refine ⟨l4, rfl, ⟨_, SqL.of h20⟩, ?_⟩
      refine for_it (walk_list (K := K) (a := l4) (xs := items.map V.int)) (fun j σ H' => Same H20 H' ∧ ∃ u, σ = [some (.ref sc), some (.int (0 + i)), some (.ref b), some (.ref l), v4, some (.ref g), some (.ref x1), some (.ref x2), some (.ref D3), v9, u, v11, v12, v13, v14, v15]) ⟨Same.refl _, _, rfl⟩ (fun j σ H' _ h' => SqL.of (h'.1 _ _ h20)) ?_ ?_
      · rintro j x σ _ H21 hj ⟨s21, u, rfl⟩ ⟨rfl, hx⟩
        obtain ⟨n, hn, rfl⟩ := get_int hx
        have m1 := m1.mv (Chg.of s21)
        have m2 := m2.mv (Chg.of s21)
        have il21 := il20.mv (Chg.of s21)
        have M1 := id m1
        have M2 := id m2
        obtain ⟨dx1', d1', _, _, a1, b1⟩ := id m1
        obtain ⟨dx2', d2', _, _, a2, b2⟩ := id m2
        have eqs : ∀ xs : List Int, V.str (if decide (n ∈ xs) = true then "True" else "False") = V.str (if (if false = true then !inV (V.int n) (xs.map V.int) else inV (V.int n) (xs.map V.int)) = true then "True" else "False") := fun xs => by
          rw [inV_int]
          rfl
        refine ⟨_, rfl, x1, rfl, _, rfl, .inr ⟨_, _, a1⟩, [b, g], x1, n, ws, rfl, M1, _, rfl, _, rfl, _, rfl, l, _, rfl, .inl il21.seq, rfl, flat_ints _, _, rfl, rfl, _, rfl, ?_⟩
        refine iteNS (eqs ws) ?_
        refine ⟨_, rfl, _, rfl, x1, dx1', _, rfl, a1, [b, g], x1, n, ws, rfl, M1, _, rfl, _, rfl, _, rfl, _, rfl, l, _, rfl, .inl il21.seq, rfl, flat_ints _, _, rfl, rfl, _, rfl, ?_⟩
        refine iteNS (eqs ws) ?_
        refine ⟨_, rfl, x2, rfl, _, rfl, .inr ⟨_, _, a2⟩, [b, g], x2, n, ws.tail, rfl, M2, _, rfl, _, rfl, _, rfl, _, rfl, l, _, rfl, il21.seq, fun p3 np3 => ?_⟩
        have ec : cutV (ws.map V.int) (some 1) none = ws.tail.map V.int := by
          have e : cutV (ws.map V.int) (some ((1 : Nat) : Int)) none = (ws.map V.int).drop 1 := cut_back
          have e2 : cutV (ws.map V.int) (some 1) none = (ws.map V.int).drop 1 := e
          rw [e2, List.drop_one, List.map_tail]
        refine ⟨p3, ws.tail.map V.int, rfl, .inl (SqL.of (by rw [upd_same, ec])), rfl, flat_ints _, _, rfl, rfl, _, rfl, ?_⟩
        refine iteNS (eqs ws.tail) ?_
        exact ⟨s21.trans (Lx.Same.new np3), _, rfl⟩
      rintro σ H21 ⟨s21, u, rfl⟩
      have hb21 := hb20.same s21
      have c21 := c20.trans (Chg.of s21)
      -- begin, far
      refine ⟨_, rfl, b, _, rfl, hb21, by decide, by decide, fun beg H22 bg0 bg1 hb22 c22 => ⟨_, rfl, b, _, rfl, hb22, by decide, by decide, fun far H23 fr0 fr1 hb23 c23 => ⟨_, _, rfl, ?_⟩⟩⟩
      have hd : 0 < (if far > 1 then far else 1) ∧ (if far > 1 then far else 1) < 1073741824 := by split <;> omega
      have hq : 0 ≤ (120 - beg) / (if far > 1 then far else 1) ∧ (120 - beg) / (if far > 1 then far else 1) ≤ 120 := by
        refine ⟨Int.ediv_nonneg (by omega) (by omega), ?_⟩
        refine Int.le_trans (Int.ediv_le_self _ (by omega)) (by omega)
      refine ⟨_, rfl, _, rfl, _, _, rfl, rfl, _, rfl, _, _, rfl, _, _, rfl, rfl, hd, _, _, rfl, rfl, b, _, rfl, hb23, by omega, by omega, fun n H24 n0 n1 hb24 c24 => ?_⟩
      obtain ⟨hp0, hp1, hn1⟩ := far_ok fr0 (by omega) bg0 (by omega) n0 n1
      -- key
      refine ⟨_, rfl, b, rfl, hb24, fun key H25 hb25 c25 => ?_⟩
      -- due
      refine ⟨_, rfl, _, rfl, _, rfl, _, _, rfl, rfl, .inl ⟨by omega, by omega⟩, _, _, rfl, rfl, _, _, rfl, rfl, ⟨hp0, by omega, by decide⟩, ?_⟩
      -- Powers(begin, far)(n, key)
      refine ⟨_, rfl, _, rfl, fun q1 e1 nq1 ne1' _ => ⟨q1, e1, beg, far, rfl, upd_same, fun H26 k26 h26 => ⟨rfl, q1, rfl, _, rfl, _, rfl, .inr ⟨_, _, h26⟩, q1, e1, beg, far, n, _, rfl, h26, hp0, by omega, fr0, by omega, _, rfl, rfl, _, rfl, ?_⟩⟩⟩
      have s26 := made_pow nq1 ne1' k26
      refine iteNS rfl ?_
      refine ⟨_, rfl, _, rfl, rfl, rfl, fun q2 e2 nq2 ne2' _ => ⟨q2, e2, beg, far, rfl, upd_same, fun H27 k27 h27 => ⟨rfl, q2, rfl, _, rfl, .inr ⟨_, _, h27⟩, q2, e2, beg, far, n, _, rfl, h27, hp0, by omega, fr0, by omega, _, rfl, rfl, _, rfl, ?_⟩⟩⟩
      have s27 := made_pow nq2 ne2' k27
      refine iteNS rfl ?_
      refine fun q3 e3 nq3 ne3' _ => ⟨q3, e3, 0, 1, rfl, upd_same, fun H28 k28 h28 => ⟨rfl, q3, rfl, _, rfl, _, rfl, .inr ⟨_, _, h28⟩, q3, e3, 0, 1, n, _, rfl, h28, by omega, by omega, by omega, by omega, _, rfl, _, _, rfl, rfl, ⟨n0, by omega, by decide⟩, rfl, _, rfl, ?_⟩⟩
      have s28 := made_pow nq3 ne3' k28
      refine iteNS (by rw [show (0 : Int) + 1 * n = n by omega]) ?_
      refine ⟨_, rfl, fun q4 e4 nq4 ne4' _ => ⟨q4, e4, beg, 1, rfl, upd_same, fun H29 k29 h29 => ⟨rfl, q4, rfl, _, rfl, .inr ⟨_, _, h29⟩, q4, e4, beg, 1, 3, _, rfl, h29, by omega, by omega, by omega, by omega, _, rfl, _, _, rfl, rfl, _, _, rfl, rfl, ⟨by omega, by omega, by decide⟩, rfl, _, rfl, ?_⟩⟩⟩
      have s29 := made_pow nq4 ne4' k29
      refine iteNS (by rw [show beg + 1 * 3 = beg + 3 by omega]) ?_
      refine ⟨_, rfl, rfl, rfl, fun q5 e5 nq5 ne5' _ => ⟨q5, e5, 0, far, rfl, upd_same, fun H30 k30 h30 => ⟨rfl, q5, rfl, _, rfl, .inr ⟨_, _, h30⟩, q5, e5, 0, far, 1, _, rfl, h30, by omega, by omega, by omega, by omega, _, rfl, _, _, rfl, rfl, ⟨fr0, by omega, by decide⟩, rfl, _, rfl, ?_⟩⟩⟩
      have s30 := made_pow nq5 ne5' k30
      refine iteNS (by rw [show (0 : Int) + far * 1 = far by omega]) ?_
      have cE : Chg [b, g] H1 H30 := c21.trans (((Chg.up (((c22.trans c23).trans c24).trans c25)).trans (Chg.of (((s26.trans s27).trans s28).trans s29))).trans (Chg.of s30))
      have ng0 : H7 = H7 := rfl
      refine ⟨si.trans (Lx.Same.chg s1 (all2 nb ?_) cE), _, _, _, _, _, _, _, _, _, _, _, _, _, _, _, rfl⟩
      exact Lx.Same.back s1 (cl.back ng (no1 gb))
    · rintro σ H1 _
      exact k _
end
end K90
set_option Elab.async false
set_option linter.all false
set_option maxRecDepth 100000
set_option maxHeartbeats 16000000
namespace K90
open PySem L2 Lx
/-! ### the end -/
theorem all_mk {l : PySem.W.OpenLaw} {w : World} {K : PySem.W.Frag} {h : Heap} {mg : Str → Option Value} {fa c_Members c_Powers a_MembersU_initU a_MembersU_callU a_MembersU_containsU a_MembersU_lenU a_PowersU_initU a_PowersU_callU a__law_bag a__law_take a__law_of a__law_far a_law dt_PowersU_initU : Addr} (X : K.In h) (G : h.Ns mainGlobals mg) (hfa : mg "law" = some (.ref fa))
    {od_MembersU_initU an_MembersU_initU od_MembersU_callU an_MembersU_callU od_MembersU_containsU an_MembersU_containsU od_MembersU_lenU an_MembersU_lenU od_PowersU_initU an_PowersU_initU od_PowersU_callU an_PowersU_callU od__law_bag an__law_bag od__law_take an__law_take od__law_of an__law_of od__law_far an__law_far od_law an_law : Option Addr} {sl_MembersU_initU sl_MembersU_callU sl_MembersU_containsU sl_MembersU_lenU sl_PowersU_initU sl_PowersU_callU sl__law_bag sl__law_take sl__law_of sl__law_far sl_law : Array (Option Value)} {oc_MembersU_initU kV_MembersU_initU dc_MembersU_initU pm_MembersU_initU cd_MembersU_initU ct_MembersU_initU oc_MembersU_callU kV_MembersU_callU dc_MembersU_callU pm_MembersU_callU cd_MembersU_callU ct_MembersU_callU oc_MembersU_containsU kV_MembersU_containsU dc_MembersU_containsU pm_MembersU_containsU cd_MembersU_containsU ct_MembersU_containsU oc_MembersU_lenU kV_MembersU_lenU dc_MembersU_lenU pm_MembersU_lenU cd_MembersU_lenU ct_MembersU_lenU oc_PowersU_initU kV_PowersU_initU dc_PowersU_initU pm_PowersU_initU cd_PowersU_initU ct_PowersU_initU oc_PowersU_callU kV_PowersU_callU dc_PowersU_callU pm_PowersU_callU cd_PowersU_callU ct_PowersU_callU oc__law_bag kV__law_bag dc__law_bag pm__law_bag cd__law_bag ct__law_bag oc__law_take kV__law_take dc__law_take pm__law_take cd__law_take ct__law_take oc__law_of kV__law_of dc__law_of pm__law_of cd__law_of ct__law_of oc__law_far kV__law_far dc__law_far pm__law_far cd__law_far ct__law_far oc_law kV_law dc_law pm_law cd_law ct_law : Value} {u0_PowersU_initU u1_PowersU_initU : Tok}
    {ob_PowersU_initU : Obj} {nt_PowersU_initU : Nat}
    (g_Members : PySem.W.nsIn K mainGlobals "Members" = some (some (.ref c_Members)))
    (pg_Members : PySem.W.plainGet K c_Members Str.empty = true)
    (hd_Members : PySem.W.hasDictIn K c_Members = true)
    (po_Members : PySem.W.plainOver K c_Members = true)
    (sa_Members : PySem.W.findIn K (.ref c_Members) "__setattr__" = some (some (.builtin "object.__setattr__")))
    (ms_Members : PySem.W.makesIn K c_Members = true)
    (kc_Members : PySem.W.keepIn K (.ref c_Members) = true)
    (na_Members_members : PySem.W.findIn K (.ref c_Members) "members" = some none)
    (g_Powers : PySem.W.nsIn K mainGlobals "Powers" = some (some (.ref c_Powers)))
    (pg_Powers : PySem.W.plainGet K c_Powers Str.empty = true)
    (hd_Powers : PySem.W.hasDictIn K c_Powers = true)
    (po_Powers : PySem.W.plainOver K c_Powers = true)
    (sa_Powers : PySem.W.findIn K (.ref c_Powers) "__setattr__" = some (some (.builtin "object.__setattr__")))
    (ms_Powers : PySem.W.makesIn K c_Powers = true)
    (kc_Powers : PySem.W.keepIn K (.ref c_Powers) = true)
    (na_Powers_first : PySem.W.findIn K (.ref c_Powers) "first" = some none)
    (na_Powers_by : PySem.W.findIn K (.ref c_Powers) "by" = some none)
    (at_MembersU_initU : PySem.W.findIn K (.ref c_Members) "__init__" = some (some (.ref a_MembersU_initU)))
    (fn_MembersU_initU : PySem.W.isFn K (.ref a_MembersU_initU) = true)
    (l_MembersU_initU : K.lookup a_MembersU_initU = some ⟨oc_MembersU_initU, od_MembersU_initU, .func (PySem.W.fnOf "__init__" "Members.__init__" (defArgs s_MembersU_initU) (defBody s_MembersU_initU) (defScope s_MembersU_initU) .none kV_MembersU_initU dc_MembersU_initU pm_MembersU_initU an_MembersU_initU cd_MembersU_initU ct_MembersU_initU), sl_MembersU_initU⟩)
    (q_MembersU_initU : PySem.W.codeIn K cd_MembersU_initU "Members.__init__" = true)
    (k_MembersU_initU : PySem.W.keepIn K (.ref a_MembersU_initU) = true)
    (at_MembersU_callU : PySem.W.findIn K (.ref c_Members) "__call__" = some (some (.ref a_MembersU_callU)))
    (fn_MembersU_callU : PySem.W.isFn K (.ref a_MembersU_callU) = true)
    (l_MembersU_callU : K.lookup a_MembersU_callU = some ⟨oc_MembersU_callU, od_MembersU_callU, .func (PySem.W.fnOf "__call__" "Members.__call__" (defArgs s_MembersU_callU) (defBody s_MembersU_callU) (defScope s_MembersU_callU) .none kV_MembersU_callU dc_MembersU_callU pm_MembersU_callU an_MembersU_callU cd_MembersU_callU ct_MembersU_callU), sl_MembersU_callU⟩)
    (q_MembersU_callU : PySem.W.codeIn K cd_MembersU_callU "Members.__call__" = true)
    (k_MembersU_callU : PySem.W.keepIn K (.ref a_MembersU_callU) = true)
    (fi_MembersU_callU : PySem.W.fnIn K a_MembersU_callU = true)
    (at_MembersU_containsU : PySem.W.findIn K (.ref c_Members) "__contains__" = some (some (.ref a_MembersU_containsU)))
    (fn_MembersU_containsU : PySem.W.isFn K (.ref a_MembersU_containsU) = true)
    (l_MembersU_containsU : K.lookup a_MembersU_containsU = some ⟨oc_MembersU_containsU, od_MembersU_containsU, .func (PySem.W.fnOf "__contains__" "Members.__contains__" (defArgs s_MembersU_containsU) (defBody s_MembersU_containsU) (defScope s_MembersU_containsU) .none kV_MembersU_containsU dc_MembersU_containsU pm_MembersU_containsU an_MembersU_containsU cd_MembersU_containsU ct_MembersU_containsU), sl_MembersU_containsU⟩)
    (q_MembersU_containsU : PySem.W.codeIn K cd_MembersU_containsU "Members.__contains__" = true)
    (k_MembersU_containsU : PySem.W.keepIn K (.ref a_MembersU_containsU) = true)
    (at_MembersU_lenU : PySem.W.findIn K (.ref c_Members) "__len__" = some (some (.ref a_MembersU_lenU)))
    (fn_MembersU_lenU : PySem.W.isFn K (.ref a_MembersU_lenU) = true)
    (l_MembersU_lenU : K.lookup a_MembersU_lenU = some ⟨oc_MembersU_lenU, od_MembersU_lenU, .func (PySem.W.fnOf "__len__" "Members.__len__" (defArgs s_MembersU_lenU) (defBody s_MembersU_lenU) (defScope s_MembersU_lenU) .none kV_MembersU_lenU dc_MembersU_lenU pm_MembersU_lenU an_MembersU_lenU cd_MembersU_lenU ct_MembersU_lenU), sl_MembersU_lenU⟩)
    (q_MembersU_lenU : PySem.W.codeIn K cd_MembersU_lenU "Members.__len__" = true)
    (k_MembersU_lenU : PySem.W.keepIn K (.ref a_MembersU_lenU) = true)
    (at_PowersU_initU : PySem.W.findIn K (.ref c_Powers) "__init__" = some (some (.ref a_PowersU_initU)))
    (fn_PowersU_initU : PySem.W.isFn K (.ref a_PowersU_initU) = true)
    (l_PowersU_initU : K.lookup a_PowersU_initU = some ⟨oc_PowersU_initU, od_PowersU_initU, .func (PySem.W.fnOf "__init__" "Powers.__init__" (defArgs s_PowersU_initU) (defBody s_PowersU_initU) (defScope s_PowersU_initU) (.ref dt_PowersU_initU) kV_PowersU_initU dc_PowersU_initU pm_PowersU_initU an_PowersU_initU cd_PowersU_initU ct_PowersU_initU), sl_PowersU_initU⟩)
    (q_PowersU_initU : PySem.W.codeIn K cd_PowersU_initU "Powers.__init__" = true)
    (k_PowersU_initU : PySem.W.keepIn K (.ref a_PowersU_initU) = true)
    (d_PowersU_initU : K.lookup dt_PowersU_initU = some ob_PowersU_initU)
    (e_PowersU_initU : ob_PowersU_initU.data = .seq ([Value.int 0 u0_PowersU_initU, Value.int 1 u1_PowersU_initU] : List Value).toArray nt_PowersU_initU)
    (at_PowersU_callU : PySem.W.findIn K (.ref c_Powers) "__call__" = some (some (.ref a_PowersU_callU)))
    (fn_PowersU_callU : PySem.W.isFn K (.ref a_PowersU_callU) = true)
    (l_PowersU_callU : K.lookup a_PowersU_callU = some ⟨oc_PowersU_callU, od_PowersU_callU, .func (PySem.W.fnOf "__call__" "Powers.__call__" (defArgs s_PowersU_callU) (defBody s_PowersU_callU) (defScope s_PowersU_callU) .none kV_PowersU_callU dc_PowersU_callU pm_PowersU_callU an_PowersU_callU cd_PowersU_callU ct_PowersU_callU), sl_PowersU_callU⟩)
    (q_PowersU_callU : PySem.W.codeIn K cd_PowersU_callU "Powers.__call__" = true)
    (k_PowersU_callU : PySem.W.keepIn K (.ref a_PowersU_callU) = true)
    (fi_PowersU_callU : PySem.W.fnIn K a_PowersU_callU = true)
    (at__law_bag : PySem.W.nsIn K mainGlobals "_law_bag" = some (some (.ref a__law_bag)))
    (l__law_bag : K.lookup a__law_bag = some ⟨oc__law_bag, od__law_bag, .func (PySem.W.fnOf "_law_bag" "_law_bag" (defArgs s__law_bag) (defBody s__law_bag) (defScope s__law_bag) .none kV__law_bag dc__law_bag pm__law_bag an__law_bag cd__law_bag ct__law_bag), sl__law_bag⟩)
    (q__law_bag : PySem.W.codeIn K cd__law_bag "_law_bag" = true)
    (k__law_bag : PySem.W.keepIn K (.ref a__law_bag) = true)
    (at__law_take : PySem.W.nsIn K mainGlobals "_law_take" = some (some (.ref a__law_take)))
    (l__law_take : K.lookup a__law_take = some ⟨oc__law_take, od__law_take, .func (PySem.W.fnOf "_law_take" "_law_take" (defArgs s__law_take) (defBody s__law_take) (defScope s__law_take) .none kV__law_take dc__law_take pm__law_take an__law_take cd__law_take ct__law_take), sl__law_take⟩)
    (q__law_take : PySem.W.codeIn K cd__law_take "_law_take" = true)
    (k__law_take : PySem.W.keepIn K (.ref a__law_take) = true)
    (at__law_of : PySem.W.nsIn K mainGlobals "_law_of" = some (some (.ref a__law_of)))
    (l__law_of : K.lookup a__law_of = some ⟨oc__law_of, od__law_of, .func (PySem.W.fnOf "_law_of" "_law_of" (defArgs s__law_of) (defBody s__law_of) (defScope s__law_of) .none kV__law_of dc__law_of pm__law_of an__law_of cd__law_of ct__law_of), sl__law_of⟩)
    (q__law_of : PySem.W.codeIn K cd__law_of "_law_of" = true)
    (k__law_of : PySem.W.keepIn K (.ref a__law_of) = true)
    (at__law_far : PySem.W.nsIn K mainGlobals "_law_far" = some (some (.ref a__law_far)))
    (l__law_far : K.lookup a__law_far = some ⟨oc__law_far, od__law_far, .func (PySem.W.fnOf "_law_far" "_law_far" (defArgs s__law_far) (defBody s__law_far) (defScope s__law_far) .none kV__law_far dc__law_far pm__law_far an__law_far cd__law_far ct__law_far), sl__law_far⟩)
    (q__law_far : PySem.W.codeIn K cd__law_far "_law_far" = true)
    (k__law_far : PySem.W.keepIn K (.ref a__law_far) = true)
    (at_law : PySem.W.nsIn K mainGlobals "law" = some (some (.ref a_law)))
    (l_law : K.lookup a_law = some ⟨oc_law, od_law, .func (PySem.W.fnOf "law" "law" (defArgs s_law) (defBody s_law) (defScope s_law) .none kV_law dc_law pm_law an_law cd_law ct_law), sl_law⟩)
    (q_law : PySem.W.codeIn K cd_law "law" = true)
    (k_law : PySem.W.keepIn K (.ref a_law) = true)
    (z_abs : PySem.W.nsIn K mainGlobals "abs" = some none)
    (z_enumerate : PySem.W.nsIn K mainGlobals "enumerate" = some none)
    (z_int : PySem.W.nsIn K mainGlobals "int" = some none)
    (z_len : PySem.W.nsIn K mainGlobals "len" = some none)
    (z_list : PySem.W.nsIn K mainGlobals "list" = some none)
    (z_max : PySem.W.nsIn K mainGlobals "max" = some none)
    (z_min : PySem.W.nsIn K mainGlobals "min" = some none)
    (z_range : PySem.W.nsIn K mainGlobals "range" = some none)
    (z_repr : PySem.W.nsIn K mainGlobals "repr" = some none)
    (z_tuple : PySem.W.nsIn K mainGlobals "tuple" = some none) :
    ∃ fd : FuncData, (∀ (s : Shared) (v : Value), BindsTo s fd ⟨[v], []⟩ [("script", v)]) ∧ ∀ base : Heap, K.In base → base.Ns mainGlobals mg → FnOk l.prog w K mg base CX0 6 fa fd ["script"] (spLaw K) := by
  have e := hfa.symm.trans (PySem.W.mg_of X G at_law)
  cases e
  have T : Tx K mg ⟨c_Members, c_Powers, a_MembersU_initU, a_MembersU_callU, a_MembersU_containsU, a_MembersU_lenU, a_PowersU_initU, a_PowersU_callU, a__law_bag, a__law_take, a__law_of, a__law_far, _, _, _, _, _, _, _, _, _, _⟩ := {
    mg_Members := PySem.W.mg_of X G g_Members,
    cl_Members := ⟨pg_Members, hd_Members, po_Members, sa_Members⟩,
    mk_Members := ⟨ms_Members, at_MembersU_initU, fn_MembersU_initU, kc_Members⟩,
    na_Members_members := na_Members_members,
    mg_Powers := PySem.W.mg_of X G g_Powers,
    cl_Powers := ⟨pg_Powers, hd_Powers, po_Powers, sa_Powers⟩,
    mk_Powers := ⟨ms_Powers, at_PowersU_initU, fn_PowersU_initU, kc_Powers⟩,
    na_Powers_first := na_Powers_first,
    na_Powers_by := na_Powers_by,
    at_MembersU_initU := at_MembersU_initU,
    fn_MembersU_initU := fn_MembersU_initU,
    F_MembersU_initU := fun_mk (st := s_MembersU_initU) l_MembersU_initU q_MembersU_initU k_MembersU_initU,
    at_MembersU_callU := at_MembersU_callU,
    fn_MembersU_callU := fn_MembersU_callU,
    F_MembersU_callU := fun_mk (st := s_MembersU_callU) l_MembersU_callU q_MembersU_callU k_MembersU_callU,
    fi_MembersU_callU := fi_MembersU_callU,
    at_MembersU_containsU := at_MembersU_containsU,
    fn_MembersU_containsU := fn_MembersU_containsU,
    F_MembersU_containsU := fun_mk (st := s_MembersU_containsU) l_MembersU_containsU q_MembersU_containsU k_MembersU_containsU,
    at_MembersU_lenU := at_MembersU_lenU,
    fn_MembersU_lenU := fn_MembersU_lenU,
    F_MembersU_lenU := fun_mk (st := s_MembersU_lenU) l_MembersU_lenU q_MembersU_lenU k_MembersU_lenU,
    at_PowersU_initU := at_PowersU_initU,
    fn_PowersU_initU := fn_PowersU_initU,
    F_PowersU_initU := ⟨⟨oc_PowersU_initU, od_PowersU_initU, .ref dt_PowersU_initU, kV_PowersU_initU, dc_PowersU_initU, pm_PowersU_initU, an_PowersU_initU, cd_PowersU_initU, ct_PowersU_initU, sl_PowersU_initU, rfl, l_PowersU_initU, q_PowersU_initU, .inr ⟨by simp, dt_PowersU_initU, ob_PowersU_initU, _, nt_PowersU_initU, rfl, d_PowersU_initU, e_PowersU_initU, (.cons ⟨_, rfl⟩ (.cons ⟨_, rfl⟩ .nil))⟩, .inl rfl⟩, k_PowersU_initU⟩,
    at_PowersU_callU := at_PowersU_callU,
    fn_PowersU_callU := fn_PowersU_callU,
    F_PowersU_callU := fun_mk (st := s_PowersU_callU) l_PowersU_callU q_PowersU_callU k_PowersU_callU,
    fi_PowersU_callU := fi_PowersU_callU,
    mg__law_bag := PySem.W.mg_of X G at__law_bag,
    F__law_bag := fun_mk (st := s__law_bag) l__law_bag q__law_bag k__law_bag,
    mg__law_take := PySem.W.mg_of X G at__law_take,
    F__law_take := fun_mk (st := s__law_take) l__law_take q__law_take k__law_take,
    mg__law_of := PySem.W.mg_of X G at__law_of,
    F__law_of := fun_mk (st := s__law_of) l__law_of q__law_of k__law_of,
    mg__law_far := PySem.W.mg_of X G at__law_far,
    F__law_far := fun_mk (st := s__law_far) l__law_far q__law_far k__law_far,
    z_abs := PySem.W.mg_none_of X G z_abs,
    z_enumerate := PySem.W.mg_none_of X G z_enumerate,
    z_int := PySem.W.mg_none_of X G z_int,
    z_len := PySem.W.mg_none_of X G z_len,
    z_list := PySem.W.mg_none_of X G z_list,
    z_max := PySem.W.mg_none_of X G z_max,
    z_min := PySem.W.mg_none_of X G z_min,
    z_range := PySem.W.mg_none_of X G z_range,
    z_repr := PySem.W.mg_none_of X G z_repr,
    z_tuple := PySem.W.mg_none_of X G z_tuple }
  exact ⟨PySem.W.fnOf "law" "law" (defArgs s_law) (defBody s_law) (defScope s_law) .none kV_law dc_law pm_law an_law cd_law ct_law, fun s v => .of_eq rfl, fun base _ _ =>
    ok_law (fun_mk (st := s_law) l_law q_law k_law) T⟩
theorem walk {l : PySem.W.OpenLaw} {q : Program} {loose : List Str} {XP : (Str → Option Value) → Heap → Prop} {YP : World → Heap → Prop} {d : DefRec} {K : Params → PySem.W.Frag} (hn : l.most = some 63) (hdf : d.params.defaults = [])
    (hY : ∀ (w : World) (h : Heap), YP w h → (K w.params).In h)
    (F : ∀ (w : World) (mg : Str → Option Value) (fa : Addr) (h : Heap), (K w.params).In h → h.Ns mainGlobals mg → mg d.name = some (.ref fa) →
      ∃ fd : FuncData, (∀ (s : Shared) (u : Value), BindsTo s fd ⟨[u], []⟩ [("script", u)]) ∧ ∀ base : Heap, (K w.params).In base → base.Ns mainGlobals mg → FnOk l.prog w (K w.params) mg base CX0 6 fa fd ["script"] (spLaw (K w.params))) :
    PySem.W.WalkO q loose XP YP l.row.toRowW d [] (fun f vs => PySem.call f vs) :=
  L2.walk_of (n := 63) (k := 6) (x := "script") (CX := fun _ => CX0) (sp := fun w => spLaw (K w.params)) hn (by decide) hdf ⟨rfl, by decide, by decide⟩ hY F (fun _ _ a ns hl _ hS => ⟨a, ns, rfl, hS, hl, fun _ => rfl⟩) fun _ _ _ _ _ z => z
end K90

open PySem PySem.W PyProof.Rows in
set_option maxRecDepth 100000 in
set_option maxHeartbeats 0 in
theorem PySem.Challenge.cw_latequestions_k90_members_and_powers_holds : PySem.Challenge.rw_latequestions_k90_members_and_powers.Holds := by
  w_on; o_law; k_head; (case hw => w_witness2)
  k_fill
  refine K90.walk (l := PySem.Challenge.rw_latequestions_k90_members_and_powers) rfl rfl (fun w h Y => PySem.W.kIn_of Y) ?F
  case F =>
    intro w mg fa h KX G hmg
    refine' K90.all_mk KX G hmg ?g_Members ?pg_Members ?hd_Members ?po_Members ?sa_Members ?ms_Members ?kc_Members ?na_Members_members ?g_Powers ?pg_Powers ?hd_Powers ?po_Powers ?sa_Powers ?ms_Powers ?kc_Powers ?na_Powers_first ?na_Powers_by ?at_MembersU_initU ?fn_MembersU_initU ?l_MembersU_initU ?q_MembersU_initU ?k_MembersU_initU ?at_MembersU_callU ?fn_MembersU_callU ?l_MembersU_callU ?q_MembersU_callU ?k_MembersU_callU ?fi_MembersU_callU ?at_MembersU_containsU ?fn_MembersU_containsU ?l_MembersU_containsU ?q_MembersU_containsU ?k_MembersU_containsU ?at_MembersU_lenU ?fn_MembersU_lenU ?l_MembersU_lenU ?q_MembersU_lenU ?k_MembersU_lenU ?at_PowersU_initU ?fn_PowersU_initU ?l_PowersU_initU ?q_PowersU_initU ?k_PowersU_initU ?d_PowersU_initU ?e_PowersU_initU ?at_PowersU_callU ?fn_PowersU_callU ?l_PowersU_callU ?q_PowersU_callU ?k_PowersU_callU ?fi_PowersU_callU ?at__law_bag ?l__law_bag ?q__law_bag ?k__law_bag ?at__law_take ?l__law_take ?q__law_take ?k__law_take ?at__law_of ?l__law_of ?q__law_of ?k__law_of ?at__law_far ?l__law_far ?q__law_far ?k__law_far ?at_law ?l_law ?q_law ?k_law ?z_abs ?z_enumerate ?z_int ?z_len ?z_list ?z_max ?z_min ?z_range ?z_repr ?z_tuple
    (case g_Members => k_is)
    (case pg_Members => k_is)
    (case hd_Members => k_is)
    (case po_Members => k_is)
    (case sa_Members => k_is)
    (case ms_Members => k_is)
    (case kc_Members => k_is)
    (case na_Members_members => k_is)
    (case g_Powers => k_is)
    (case pg_Powers => k_is)
    (case hd_Powers => k_is)
    (case po_Powers => k_is)
    (case sa_Powers => k_is)
    (case ms_Powers => k_is)
    (case kc_Powers => k_is)
    (case na_Powers_first => k_is)
    (case na_Powers_by => k_is)
    (case at_MembersU_initU => k_is)
    (case fn_MembersU_initU => k_is)
    (case l_MembersU_initU => k_is)
    (case q_MembersU_initU => k_is)
    (case k_MembersU_initU => k_is)
    (case at_MembersU_callU => k_is)
    (case fn_MembersU_callU => k_is)
    (case l_MembersU_callU => k_is)
    (case q_MembersU_callU => k_is)
    (case k_MembersU_callU => k_is)
    (case fi_MembersU_callU => k_is)
    (case at_MembersU_containsU => k_is)
    (case fn_MembersU_containsU => k_is)
    (case l_MembersU_containsU => k_is)
    (case q_MembersU_containsU => k_is)
    (case k_MembersU_containsU => k_is)
    (case at_MembersU_lenU => k_is)
    (case fn_MembersU_lenU => k_is)
    (case l_MembersU_lenU => k_is)
    (case q_MembersU_lenU => k_is)
    (case k_MembersU_lenU => k_is)
    (case at_PowersU_initU => k_is)
    (case fn_PowersU_initU => k_is)
    (case l_PowersU_initU => k_is)
    (case q_PowersU_initU => k_is)
    (case k_PowersU_initU => k_is)
    (case d_PowersU_initU => k_is)
    (case e_PowersU_initU => rfl)
    (case at_PowersU_callU => k_is)
    (case fn_PowersU_callU => k_is)
    (case l_PowersU_callU => k_is)
    (case q_PowersU_callU => k_is)
    (case k_PowersU_callU => k_is)
    (case fi_PowersU_callU => k_is)
    (case at__law_bag => k_is)
    (case l__law_bag => k_is)
    (case q__law_bag => k_is)
    (case k__law_bag => k_is)
    (case at__law_take => k_is)
    (case l__law_take => k_is)
    (case q__law_take => k_is)
    (case k__law_take => k_is)
    (case at__law_of => k_is)
    (case l__law_of => k_is)
    (case q__law_of => k_is)
    (case k__law_of => k_is)
    (case at__law_far => k_is)
    (case l__law_far => k_is)
    (case q__law_far => k_is)
    (case k__law_far => k_is)
    (case at_law => k_is)
    (case l_law => k_is)
    (case q_law => k_is)
    (case k_law => k_is)
    (case z_abs => k_is)
    (case z_enumerate => k_is)
    (case z_int => k_is)
    (case z_len => k_is)
    (case z_list => k_is)
    (case z_max => k_is)
    (case z_min => k_is)
    (case z_range => k_is)
    (case z_repr => k_is)
    (case z_tuple => k_is)
#print axioms PySem.Challenge.cw_latequestions_k90_members_and_powers_holds
