import PyProof.Rows.All
import Wide.All
import OpenK.AllK
import Wide.FinOn
import HandS.ForMost
import HandS.More
import HandS.Star
import HandS.Walk
import HandS.DictComp
import HandS.Steps
import HandS.IsInst
import KE.KExcSuper
import HandS.Base
import HandS.Call
import HandS.Exc
import HandS.ExcOwn
import HandS.ExcField
import HandS.ExcSuper
import HandS.TryMany
import HandS.WordsExc
import HandS.Dict
import KE.KTab
import HandS.Defaults
import HandS.Deep
import HandS.ClsMeth
import HandS.Zip
import HandS.Words
import HandS.List
import HandS.Iter
import HandS.Zip0
import OpenK.KMeth
import HandS.IterVal
import HandS.OwnIter
import HandS.Wide
import PySem.Challenge.RW_latequestions_k13_books_turned
set_option Elab.async false
set_option linter.all false
set_option maxRecDepth 100000
set_option maxHeartbeats 2000000
/-! own operations of an instance: len(x), v in x, truth of x, by the def that the class has -/
namespace Lx
open PySem PySem.Spec PyProof.Rows L2
section
variable {X : Cx} {CX : CXT} {k : Nat} {f C : Addr} {sp : Sp} {E : XK}
/-- a def called somewhere below the running body -/
theorem run_at {A : Around} {pins : List (Addr × Obj)} {σ : L2.St} {H : Hp} {s : Shared} {Q : VK} {us : List Value} {vs : List V} (F : FnR X.prog X.w X.K X.mg X.base CX k f sp) (hr : Room k A) (hfr : A.frames = X.A.frames) (hx : Passes CX X E)
    (I : Inv X pins σ H s) (r : Vals vs us) (h : sp vs H Q E) : wpAny (model X.prog X.w) A (call (.ref f) us) (EP X pins σ Q) X.xe s := by
  have e0 : Env0 X.prog X.w X.K X.mg X.base A X.stack s H := by
    have e := I.env0
    exact ⟨by rw [hfr]; exact e.frames, e.mod, e.bs, e.bsz, e.funs, e.frf, e.hok, e.bare⟩
  refine wpAny_call (codeAny_mono (F A X.stack s H us vs Q E hr e0 r h) fun r s' hq => ?_)
  cases r with
  | error e => exact hx pins σ H s e s' I hq
  | ok fl =>
    cases fl with
    | ret u => exact I.after hq
    | next => exact False.elim hq
    | brk => exact False.elim hq
    | cont => exact False.elim hq
/-- the instance as the model sees it -/
theorem inst_at {pins : List (Addr × Obj)} {σ : L2.St} {H : Hp} {s : Shared} {a dx : Addr} {fs : List (Str × V)} (I : Inv X pins σ H s) (h : H a = some (.ins C dx fs)) : ∃ ox od, PySem.W.InstAt s.heap a ox C od := by
  obtain ⟨mA, O, _⟩ := ins_get I.hok h
  obtain ⟨od, J, _⟩ := O.look
  exact ⟨_, _, J⟩
/-- what a class must have for an own special method -/
structure Spec1 (K : PySem.W.Frag) (C : Addr) (m : Str) (g : Addr) : Prop where
  at_ : PySem.W.findIn K (.ref C) m = some (some (.ref g))
  fn : PySem.W.isFn K (.ref g) = true
def rLenO (K : PySem.W.Frag) (C : Addr) (sp : Sp) (E : XK) : List V → Hp → VK → Prop := fun xs H Q => ∃ a dx fs, xs = [.ref a] ∧ H a = some (.ins C dx fs) ∧
  sp [.ref a] H (fun v H' => ∃ n : Int, v = .int n ∧ 0 ≤ n ∧ n < 2 ^ 63 ∧ Q (.int n) H') E
/-- len(x) by the own def -/
theorem call_lenO (S : Spec1 X.K C "__len__" f) (F : FnR X.prog X.w X.K X.mg X.base CX k f sp) (hr : Room (k + 1) X.A) (hx : Passes CX X E) : CallR X (.builtin "len") (rLenO X.K C sp E) := by
  intro pins s σ H xs us Q I r h
  obtain ⟨a, dx, fs, rfl, ha, h⟩ := h
  obtain ⟨u, rfl, rfl⟩ := vals1 r
  obtain ⟨ox, od, J⟩ := inst_at I ha
  obtain ⟨m, hF⟩ := I.fr
  refine PySem.W.len_K hF I.ok.mod.kin J S.at_ S.fn ?_
  refine wpAny_mono (run_at (A := X.A.in1) (us := [.ref a]) (vs := [.ref a]) F hr.in1 rfl hx I (.cons rfl .nil) h) (fun v s' q => ?_) fun _ _ z => z
  obtain ⟨w', H', I', rv, n, rfl, h0, h1, q⟩ := q
  obtain ⟨t, rfl⟩ := rv
  exact ⟨⟨h0, h1⟩, .int n, H', I'.tok _, ⟨_, rfl⟩, q⟩
theorem contains_K {M : Model} {A : Around} {E : Value → Shared → Prop} {s : Shared} {K : PySem.W.Frag} {x C f : Addr} {ox : Obj} {od : Option Obj} {y : Value} {Q : Bool → Shared → Prop} (X : K.In s.heap) (I : PySem.W.InstAt s.heap x ox C od)
    (hs : PySem.W.findIn K (.ref C) "__contains__" = some (some (.ref f))) (hf : PySem.W.isFn K (.ref f) = true)
    (h : wpAny M A (call (.ref f) [.ref x, y]) (fun r s' => wpAny M A (truthy r) Q E s') E s) : wpAny M A (contains (.ref x) y) Q E s := by
  unfold contains
  refine wpAny_holding ?_
  show wpAny M A (specialOf (.ref x) "__contains__" >>= fun _ => _) Q E s
  refine wpAny_bind (wpAny_bind (I.type.here ((PySem.W.looks_findIn X hs).here ?_)))
  show wpAny M A (if (some (Value.ref f) == some Value.none) = true then _ else _) Q E s
  rw [if_neg (by simp)]
  refine wpAny_bind (m := callSpecialUnlessNone? (.ref x) "__contains__" [y] _) ?_
  unfold callSpecialUnlessNone?
  refine wpAny_bind (wpAny_bind (I.type.here ((PySem.W.looks_findIn X hs).here ?_)))
  refine wpAny_holding (wpAny_bind ((PySem.W.bind_fn X _ (beq_iff_eq.mp hf)).here ?_))
  show wpAny M A (if (Value.ref f == Value.none) = true then _ else _) _ E s
  rw [if_neg (by simp)]
  exact wpAny_bind (wpAny_mono h (fun r s' q => wpAny_pure q) fun _ _ z => z)
def rInO (K : PySem.W.Frag) (neg : Bool) (C : Addr) (sp : Sp) (E : XK) : R2 := fun y x H Q => ∃ a dx fs, x = .ref a ∧ H a = some (.ins C dx fs) ∧
  sp [.ref a, y] H (fun v H' => ∃ b : Bool, v = .bl b ∧ Q (.bl (if neg then !b else b)) H') E
/-- y in x by the own def that gives True or False -/
theorem op_inO (S : Spec1 X.K C "__contains__" f) (F : FnR X.prog X.w X.K X.mg X.base CX k f sp) (hr : Room k X.A) (hx : Passes CX X E) : OpR X (compareOp .In) (rInO X.K false C sp E) := by
  intro pins s σ H y x v u Q I ry rx h
  obtain ⟨a, dx, fs, rfl, ha, h⟩ := h
  obtain rfl : u = Value.ref a := rx
  obtain ⟨ox, od, J⟩ := inst_at I ha
  show wpAny _ _ (contains (.ref a) v >>= fun b => pure (Value.bool b)) _ _ _
  refine wpAny_bind (contains_K I.kIn J S.at_ S.fn (wpAny_mono (run_at (A := X.A) (us := [.ref a, v]) (vs := [.ref a, y]) F hr rfl hx I (.cons rfl (.cons ry .nil)) h) (fun r s' q => ?_) fun _ _ z => z))
  obtain ⟨w', H', I', rv, b, rfl, q⟩ := q
  cases rv
  exact wpAny_truthy_bool (wpAny_pure ⟨.bl b, H', I', rfl, q⟩)
theorem op_notInO (S : Spec1 X.K C "__contains__" f) (F : FnR X.prog X.w X.K X.mg X.base CX k f sp) (hr : Room k X.A) (hx : Passes CX X E) : OpR X (compareOp .NotIn) (rInO X.K true C sp E) := by
  intro pins s σ H y x v u Q I ry rx h
  obtain ⟨a, dx, fs, rfl, ha, h⟩ := h
  obtain rfl : u = Value.ref a := rx
  obtain ⟨ox, od, J⟩ := inst_at I ha
  show wpAny _ _ (contains (.ref a) v >>= fun b => pure (Value.bool (!b))) _ _ _
  refine wpAny_bind (contains_K I.kIn J S.at_ S.fn (wpAny_mono (run_at (A := X.A) (us := [.ref a, v]) (vs := [.ref a, y]) F hr rfl hx I (.cons rfl (.cons ry .nil)) h) (fun r s' q => ?_) fun _ _ z => z))
  obtain ⟨w', H', I', rv, b, rfl, q⟩ := q
  cases rv
  exact wpAny_truthy_bool (wpAny_pure ⟨.bl (!b), H', I', rfl, q⟩)
/-- bool(x) | truth by the own __bool__ -/
def rTruO (K : PySem.W.Frag) (C : Addr) (sp : Sp) (E : XK) : V → Hp → (Bool → Hp → Prop) → Prop := fun x H Q => ∃ a dx fs, x = .ref a ∧ H a = some (.ins C dx fs) ∧
  sp [.ref a] H (fun v H' => ∃ b : Bool, v = .bl b ∧ Q b H') E
theorem tru_own (S : Spec1 X.K C "__bool__" f) (F : FnR X.prog X.w X.K X.mg X.base CX k f sp) (hr : Room k X.A) (hx : Passes CX X E) : TruR X (rTruO X.K C sp E) := by
  intro pins s σ H x v Q I rx h
  obtain ⟨a, dx, fs, rfl, ha, h⟩ := h
  obtain rfl : v = Value.ref a := rx
  obtain ⟨ox, od, J⟩ := inst_at I ha
  obtain ⟨m, hF⟩ := I.fr
  refine PySem.W.truthy_K hF I.ok.mod.kin J S.at_ S.fn ?_
  refine wpAny_mono (run_at (A := X.A) (us := [.ref a]) (vs := [.ref a]) F hr rfl hx I (.cons rfl .nil) h) (fun r s' q => ?_) fun _ _ z => z
  obtain ⟨w', H', I', rv, b, rfl, q⟩ := q
  cases rv
  exact ⟨H', I', q⟩
theorem call_repr_bl : CallR X (.builtin "repr") (fun xs H Q => ∃ b, xs = [.bl b] ∧ Q (.str (if b then "True" else "False")) H) := by
  intro pins s σ H xs us Q I r h
  obtain ⟨b, rfl, q⟩ := h
  obtain ⟨u, rfl, rfl⟩ := vals1 r
  exact PySem.P.repr_of_bool ⟨.str _, H, I.tok _, ⟨_, rfl⟩, q⟩
end
end Lx
set_option Elab.async false
set_option linter.all false
set_option maxRecDepth 100000
set_option maxHeartbeats 2000000
/-! heaps that change at one address; dict comprehensions over any walk; two lists of one content -/
namespace Lx
open PySem PySem.Spec PyProof.Rows L2
/-- all that was tracked is as it was, but at the addresses of S -/
def Chg (S : List Addr) (H H' : Hp) : Prop := ∀ a o, a ∉ S → H a = some o → H' a = some o
theorem Chg.refl {S : List Addr} {H : Hp} : Chg S H H := fun _ _ _ h => h
theorem Chg.of {S : List Addr} {H H' : Hp} (s : Same H H') : Chg S H H' := fun a o _ h => s a o h
theorem Chg.trans {S : List Addr} {H H1 H2 : Hp} (x : Chg S H H1) (y : Chg S H1 H2) : Chg S H H2 := fun a o n h => y a o n (x a o n h)
theorem Chg.mono {S T : List Addr} {H H' : Hp} (x : Chg S H H') (h : ∀ a ∈ S, a ∈ T) : Chg T H H' := fun a o n e => x a o (fun z => n (h a z)) e
theorem Chg.upd {b : Addr} {S : List Addr} {H : Hp} {o : HO} : Chg (b :: S) H (L2.upd H b o) := fun a u n h => by
  rw [upd_ne (fun e => n (by rw [e]; exact List.mem_cons_self))]
  exact h
theorem Chg.updm {b : Addr} {S : List Addr} {H : Hp} {o : HO} (m : b ∈ S) : Chg S H (L2.upd H b o) := fun a u n h => by
  rw [upd_ne (fun e => n (by rw [e]; exact m))]
  exact h
theorem Same.new {H : Hp} {p : Addr} {o : HO} (n : H p = none) : Same H (L2.upd H p o) := fun a u h => by
  rw [upd_ne (ne_of_none h n)]
  exact h
theorem Chg.new {S : List Addr} {H : Hp} {p : Addr} {o : HO} (n : H p = none) : Chg S H (L2.upd H p o) := Chg.of (Same.new n)
theorem none_ne {H : Hp} {a p : Addr} {o : HO} (h : H a = some o) (n : H p = none) : p ≠ a := fun e => by
  rw [e, h] at n
  cases n
/-- an old heap is kept by what changes things that it does not know -/
theorem Same.chg {H0 H H' : Hp} {S : List Addr} (s : Same H0 H) (n : ∀ b ∈ S, H0 b = none) (c : Chg S H H') : Same H0 H' := fun a o h => c a o (fun m => by
  rw [n a m] at h
  cases h) (s a o h)
theorem Same.mut {H0 H : Hp} {b : Addr} {o : HO} (s : Same H0 H) (n : H0 b = none) : Same H0 (L2.upd H b o) := Same.chg (S := [b]) s (fun c hc => by
  rw [List.mem_singleton.mp hc]
  exact n) Chg.upd
/-- what the old heap does not know may change -/
theorem Chg.mut {S : List Addr} {H H' : Hp} {p : Addr} {o : HO} (c : Chg S H H') (n : H p = none) : Chg S H (L2.upd H' p o) := fun a u m h => by
  rw [upd_ne (ne_of_none h n)]
  exact c a u m h
/-- a fresh thing behind a change was fresh before -/
theorem Chg.back {S : List Addr} {H H' : Hp} {p : Addr} (c : Chg S H H') (n : H' p = none) (h : p ∉ S) : H p = none := by
  cases e : H p with
  | none => rfl
  | some o =>
    rw [c _ _ h e] at n
    cases n
theorem all1 {P : Addr → Prop} {b : Addr} (h : P b) : ∀ x ∈ [b], P x := fun x hx => by
  rw [List.mem_singleton.mp hx]
  exact h
theorem all2 {P : Addr → Prop} {b c : Addr} (h : P b) (h2 : P c) : ∀ x ∈ [b, c], P x := fun x hx => by
  rcases List.mem_cons.mp hx with e | hx
  · rw [e]; exact h
  · rw [List.mem_singleton.mp hx]; exact h2
theorem all3 {P : Addr → Prop} {b c d : Addr} (h : P b) (h2 : P c) (h3 : P d) : ∀ x ∈ [b, c, d], P x := fun x hx => by
  rcases List.mem_cons.mp hx with e | hx
  · rw [e]; exact h
  · exact all2 h2 h3 x hx
theorem no1 {a b : Addr} (h : a ≠ b) : a ∉ [b] := fun m => h (List.mem_singleton.mp m)
theorem no2 {a b c : Addr} (h : a ≠ b) (h2 : a ≠ c) : a ∉ [b, c] := fun m => by
  rcases List.mem_cons.mp m with e | m
  · exact h e
  · exact no1 h2 m
theorem no3 {a b c d : Addr} (h : a ≠ b) (h2 : a ≠ c) (h3 : a ≠ d) : a ∉ [b, c, d] := fun m => by
  rcases List.mem_cons.mp m with e | m
  · exact h e
  · exact no2 h2 h3 m
/-- a fresh address stands apart from all that is there -/
theorem new_no {S : List Addr} {H : Hp} {p : Addr} (n : H p = none) (h : ∀ b ∈ S, ∃ o, H b = some o) : p ∉ S := fun m => by
  obtain ⟨o, e⟩ := h p m
  rw [n] at e
  cases e
/-- a thing that stands apart from S -/
def Lv (S : List Addr) (H : Hp) (a : Addr) (o : HO) : Prop := a ∉ S ∧ H a = some o
theorem Lv.mv {S : List Addr} {a : Addr} {H H' : Hp} {o : HO} (l : Lv S H a o) (c : Chg S H H') : Lv S H' a o := ⟨l.1, c a o l.1 l.2⟩
theorem keep_set {H : Hp} {x a : Addr} {o u : HO} (h : a ≠ x) (e : H a = some o) : L2.upd H x u a = some o := by
  rw [upd_ne h]
  exact e
theorem Same.back {H H' : Hp} {p : Addr} (s : Same H H') (n : H' p = none) : H p = none := by
  cases e : H p with
  | none => rfl
  | some o =>
    rw [s _ _ e] at n
    cases n
theorem seqT_same {K : PySem.W.Frag} {H H' : Hp} {a : Addr} {xs : List V} (e : Same H H') (h : SqT K H a xs) : SqT K H' a xs := by
  rcases h with (h | ⟨o, h⟩) | h
  · exact .inl (.inl (e _ _ h))
  · exact .inl (.inr ⟨o, e _ _ h⟩)
  · exact .inr h
/-- a dict comprehension over any walk -/
theorem dc_it {J : It} {n : Nat} {G : Hp → Prop} {Y : Nat → Hp → V → Hp → Prop} (w : Walk J n G Y) {g : TG} {tt : TT} {tk tv : TE} {vs : List Nat} {σ : L2.St} {H1 : Hp} {D : Addr} {Qd : Hp → Prop} (Pv : Nat → Hp → Prop) (h0 : Pv 0 (upd H1 D (.dK []))) (hG : ∀ i H, i ≤ n → Pv i H → G H)
    (hs : ∀ i x H H', i < n → Pv i H → Y i H x H' → g x (wipe σ vs) H' fun σ2 H2 => wipe σ2 vs = wipe σ vs ∧ tt σ2 H2 fun b H3 =>
      if b = true then tk σ2 H3 fun y H4 => tv σ2 H4 fun z H5 => ∃ kvs k, y = kV k ∧ H5 D = some (.dK kvs) ∧ kvs.length < sizeLine ∧ Pv (i + 1) (upd H5 D (.dK (putK kvs k z))) else Pv (i + 1) H3) (hd : ∀ H, Pv n H → Qd H) :
    ∃ W : Nat → Nat → Hp → Prop, (∃ m, W 0 m (upd H1 D (.dK []))) ∧ ∀ i m H, W i m H →
      (J.stop i H ∧ Qd H) ∨ (J.go i H ∧ ∃ Nx : Hp → Prop, (∀ H', Nx H' → ∃ m', m' < m ∧ W (i + 1) m' H') ∧ ∀ x H', J.yld i H x H' → g x (wipe σ vs) H' fun σ2 H2 => wipe σ2 vs = wipe σ vs ∧ tt σ2 H2 fun b H3 =>
        if b = true then tk σ2 H3 fun y H4 => tv σ2 H4 fun z H5 => ∃ kvs k, y = kV k ∧ H5 D = some (.dK kvs) ∧ kvs.length < sizeLine ∧ Nx (upd H5 D (.dK (putK kvs k z))) else Nx H3) := by
  refine ⟨fun i m H => m = n - i ∧ i ≤ n ∧ Pv i H, ⟨n, by simp, Nat.zero_le _, h0⟩, ?_⟩
  rintro i m H ⟨rfl, hi, p⟩
  have q := hG i H hi p
  by_cases hlt : i < n
  · refine .inr ⟨w.goes i H hlt q, Pv (i + 1), fun H' p' => ⟨n - (i + 1), by omega, rfl, hlt, p'⟩, fun x H' y => hs i x H H' hlt p (w.yields i H x H' hlt q y)⟩
  · have e : i = n := by omega
    subst e
    exact .inl ⟨w.stops H q, hd H p⟩
/-! ### plain lists -/
theorem nodup_len {α : Type} [DecidableEq α] : ∀ (l m : List α), l.Nodup → (∀ x ∈ l, x ∈ m) → l.length ≤ m.length
  | [], _, _, _ => Nat.zero_le _
  | a :: l, m, hn, hs => by
    have ha := hs a List.mem_cons_self
    have ih := nodup_len l (m.erase a) (List.nodup_cons.mp hn).2 fun x hx => by
      have hxa : x ≠ a := fun e => (List.nodup_cons.mp hn).1 (e ▸ hx)
      exact (List.mem_erase_of_ne hxa).mpr (hs x (List.mem_cons_of_mem _ hx))
    rw [List.length_erase_of_mem ha] at ih
    have := List.length_pos_of_mem ha
    rw [List.length_cons]; omega
theorem nodup_same {α : Type} [DecidableEq α] (l m : List α) (hl : l.Nodup) (hm : m.Nodup) (h : ∀ x, x ∈ l ↔ x ∈ m) : l.length = m.length :=
  Nat.le_antisymm (nodup_len l m hl fun x => (h x).mp) (nodup_len m l hm fun x => (h x).mpr)
/-- the different items, by their first places -/
def dd {α : Type} [DecidableEq α] (ns : List α) : List α := ns.foldl (fun acc n => if n ∈ acc then acc else acc ++ [n]) []
theorem dd_snoc {α : Type} [DecidableEq α] (ns : List α) (n : α) : dd (ns ++ [n]) = if n ∈ dd ns then dd ns else dd ns ++ [n] := by
  unfold dd; rw [List.foldl_append]; rfl
theorem dd_facts {α : Type} [DecidableEq α] (ns : List α) : (dd ns).Nodup ∧ (∀ x, x ∈ dd ns ↔ x ∈ ns) ∧ (dd ns).length ≤ ns.length := by
  suffices h : ∀ k, (dd (ns.take k)).Nodup ∧ (∀ x, x ∈ dd (ns.take k) ↔ x ∈ ns.take k) ∧ (dd (ns.take k)).length ≤ (ns.take k).length by
    have := h ns.length
    rwa [List.take_length] at this
  intro k
  induction k with
  | zero => simp [dd]
  | succ k ih =>
    by_cases hk : k < ns.length
    · rw [List.take_succ_eq_append_getElem hk, dd_snoc]
      obtain ⟨h1, h2, h3⟩ := ih
      split
      · rename_i hm
        refine ⟨h1, fun x => ?_, by rw [List.length_append]; omega⟩
        rw [h2, List.mem_append, List.mem_singleton]
        constructor
        · exact Or.inl
        · rintro (h | rfl)
          · exact h
          · exact (h2 _).mp hm
      · rename_i hm
        refine ⟨?_, fun x => ?_, by simp only [List.length_append, List.length_singleton]; omega⟩
        · rw [List.nodup_append]
          refine ⟨h1, by simp, fun a ha b hb e => ?_⟩
          rw [List.mem_singleton] at hb
          subst hb; subst e
          exact hm ha
        · rw [List.mem_append, List.mem_append, h2]
    · rw [List.take_of_length_le (by omega)] at ih ⊢
      exact ih
theorem inV_int (n : Int) (ns : List Int) : inV (.int n) (ns.map V.int) = decide (n ∈ ns) := by
  unfold inV
  induction ns with
  | nil => rfl
  | cons m r ih =>
    rw [List.map_cons, List.any_cons, ih]
    have e : eqV (.int m) (.int n) = decide (n = m) := by
      show (m == n) = decide (n = m)
      rw [Bool.beq_comm, Bool.beq_eq_decide_eq]
    rw [e]
    by_cases h : n = m
    · subst h; simp
    · by_cases h2 : n ∈ r
      · simp [h, h2]
      · simp [h, h2]
theorem flat_ints (ns : List Int) : (ns.map V.int).all flatV = true := by
  rw [List.all_eq_true]
  intro x hx
  obtain ⟨n, _, rfl⟩ := List.mem_map.mp hx
  rfl
theorem get_int {ns : List Int} {i : Nat} {x : V} (h : (ns.map V.int)[i]? = some x) : ∃ n, ns[i]? = some n ∧ x = .int n := by
  rw [List.getElem?_map] at h
  cases e : ns[i]? with
  | none => rw [e] at h; cases h
  | some u => rw [e] at h; exact ⟨u, rfl, (Option.some.inj h).symm⟩
theorem cut_front {xs : List V} {k : Nat} (h : k ≤ xs.length) : cutV xs none (some (k : Int)) = xs.take k := by
  unfold cutV
  rw [HT.sIx_none, HT.sIx_nat]
  simp [Nat.min_eq_left h]
theorem cut_front_le {xs : List V} {k : Nat} : cutV xs none (some (k : Int)) = xs.take k := by
  unfold cutV
  rw [HT.sIx_none, HT.sIx_nat, List.drop_zero, Nat.sub_zero]
  rw [List.take_eq_take_iff]; omega
theorem cut_back {xs : List V} {k : Nat} : cutV xs (some (k : Int)) none = xs.drop k := by
  unfold cutV
  rw [HT.sIx_none, HT.sIx_nat]
  by_cases h : k ≤ xs.length
  · rw [Nat.min_eq_left h, List.take_of_length_le (by rw [List.length_drop]; omega)]
  · rw [Nat.min_eq_right (by omega), List.drop_of_length_le (Nat.le_refl _), List.drop_of_length_le (by omega)]
    try simp
end Lx
set_option Elab.async false
set_option linter.all false
set_option maxRecDepth 100000
set_option maxHeartbeats 2000000
/-! readings joined behind a conditional expression -/
namespace Lx
open PySem PySem.Spec PyProof.Rows L2
section
variable {σ : L2.St} {H : Hp} {t : TT} {ta tb : TE} {Q : VK} {c : Bool}
/-- a if t else b: both give an int, which one is forgotten -/
theorem if_int (ht : Ans t σ H c) (ha : c = true → ∃ n : Int, Val ta σ H (.int n)) (hb : c = false → ∃ n : Int, Val tb σ H (.int n)) (rest : ∀ n : Int, Q (.int n) H) : tIf t ta tb σ H Q := by
  refine ht _ ?_
  cases c with
  | true => obtain ⟨n, h⟩ := ha rfl; exact h _ (rest n)
  | false => obtain ⟨n, h⟩ := hb rfl; exact h _ (rest n)
/-- the same with what is known of the int -/
theorem if_intP (P : Int → Prop) (ht : Ans t σ H c) (ha : c = true → ∃ n : Int, P n ∧ Val ta σ H (.int n)) (hb : c = false → ∃ n : Int, P n ∧ Val tb σ H (.int n)) (rest : ∀ n : Int, P n → Q (.int n) H) : tIf t ta tb σ H Q := by
  refine ht _ ?_
  cases c with
  | true => obtain ⟨n, hp, h⟩ := ha rfl; exact h _ (rest n hp)
  | false => obtain ⟨n, hp, h⟩ := hb rfl; exact h _ (rest n hp)
/-- values of any kind -/
theorem if_valP (P : V → Prop) (ht : Ans t σ H c) (ha : c = true → ∃ v : V, P v ∧ Val ta σ H v) (hb : c = false → ∃ v : V, P v ∧ Val tb σ H v) (rest : ∀ v : V, P v → Q v H) : tIf t ta tb σ H Q := by
  refine ht _ ?_
  cases c with
  | true => obtain ⟨n, hp, h⟩ := ha rfl; exact h _ (rest n hp)
  | false => obtain ⟨n, hp, h⟩ := hb rfl; exact h _ (rest n hp)
end
theorem dec_true {c : Prop} [Decidable c] (h : decide c = true) : c := of_decide_eq_true h
theorem dec_false {c : Prop} [Decidable c] (h : decide c = false) : ¬ c := of_decide_eq_false h
end Lx
set_option Elab.async false
set_option linter.all false
set_option maxRecDepth 100000
set_option maxHeartbeats 2000000
/-! rules whose reading names the written part K itself (within a comprehension's block the context is another one, its K the same) -/
namespace Lx
open PySem PySem.Spec PyProof.Rows L2
section
variable {X : Cx} {K : PySem.W.Frag}
theorem ix_listK (e : X.K = K) : IxR X (rIxL K) := e ▸ ix_list
theorem ix_tupK (e : X.K = K) : IxR X (rIxT K) := e ▸ ix_tup
theorem sl_listK (e : X.K = K) : SlR X (rSlL K) := e ▸ sl_list
theorem sl_tupK (e : X.K = K) : SlR X (rSlT K) := e ▸ sl_tup
theorem op_in_seqK (e : X.K = K) : OpR X (compareOp .In) (rIn K false) := e ▸ op_in_seq
theorem op_notIn_seqK (e : X.K = K) : OpR X (compareOp .NotIn) (rIn K true) := e ▸ op_notIn_seq
theorem op_eqDK (e : X.K = K) (hu : X.A.units + 64 < cLine) : OpR X (compareOp .Eq) (rEqD K) := e ▸ op_eqD hu
theorem op_neDK (e : X.K = K) (hu : X.A.units + 64 < cLine) : OpR X (compareOp .NotEq) (rNeD K) := e ▸ op_neD hu
theorem op_catTK (e : X.K = K) : OpR X (binaryOp .Add) (rCatT K) := e ▸ op_catT
/-- len of a list or tuple -/
def rLenQ (K : PySem.W.Frag) : List V → Hp → VK → Prop := fun xs H Q => ∃ p ys, xs = [.ref p] ∧ (SqL K H p ys ∨ SqT K H p ys) ∧ Q (.int ys.length) H
theorem call_len_seqK (e : X.K = K) : CallR X (.builtin "len") (rLenQ K) := e ▸ call_len_seq
def rListOf (K : PySem.W.Frag) : List V → Hp → VK → Prop := fun xs H Q => ∃ p ys, xs = [.ref p] ∧ (SqL K H p ys ∨ SqT K H p ys) ∧ ∀ l, H l = none → Q (.ref l) (upd H l (.lst ys))
theorem call_list_ofK (e : X.K = K) : CallR X (.type "list") (rListOf K) := e ▸ call_list_of
theorem pe_fldK {o : Expr} {ta : TE} {f : Str} {pos : Pos} (e : X.K = K) (he : PE X o ta) (hb : attributeBase o f X.env (eval o X.env) = eval o X.env) : PE X (.Attribute o f pos) (tFld K ta f) := e ▸ pe_fld he hb
end
end Lx
set_option Elab.async false
set_option linter.all false
set_option maxRecDepth 100000
set_option maxHeartbeats 2000000
/-! operators that an own class defines, over the layer: ==, !=, [], str(x), | & ~, |= -/
namespace Lx
open PySem PySem.Spec PyProof.Rows L2
/-! ### != where the class has == alone -/
section
variable {prog : Program} {w : World} {A : Around} {E : Value → Shared → Prop} {s : Shared} {K : PySem.W.Frag} {x C L f : Addr} {h0 : Heap} {m : Str → Option Value} {ox : Obj} {od : Option Obj} {b tb : Value}
theorem ifBound_B {M : Model} {A : Around} {E : Value → Shared → Prop} {name : Str} {id : String} {args : List Value} {Q : Option Value → Shared → Prop} (X : K.In s.heap) (I : PySem.W.InstAt s.heap x ox C od) (hs : PySem.W.findIn K (.ref C) name = some (some (.builtin id)))
    (hb : ∀ self, bindSpecial (.builtin id) self = pure (.builtin id, [self])) (h : wpAny M A (call (.builtin id) (.ref x :: args)) (fun v => Q (some v)) E s) : wpAny M A (callSpecialIfBound? (.ref x) name args) Q E s := by
  simp only [callSpecialIfBound?, bindSpecialIfBound?]
  refine wpAny_holding (wpAny_bind (wpAny_bind (wpAny_bind (I.type.here ((PySem.W.looks_findIn X hs).here ?_)))))
  refine wpAny_bind (wpAny_askSetting (wpAny_ite ?_))
  have fin : wpAny M A (call (.builtin id) ([.ref x] ++ args) >>= fun v => pure (some v)) Q E s := wpAny_bind (wpAny_mono h (fun v s' h' => wpAny_pure h') fun _ _ h' => h')
  rw [hb]
  split
  · exact wpAny_bind (wpAny_pure (wpAny_pure (by exact fin)))
  · exact wpAny_tryCatch (wpAny_bind (wpAny_pure (wpAny_pure (by exact fin))))
open Builtin in
theorem one_ne (hu : A.units + 1 < cLine) (X : K.In s.heap) (I : PySem.W.InstAt s.heap x ox C od) (hne : PySem.W.findIn K (.ref C) "__ne__" = some (some (.builtin "object.__ne__"))) (hm : PySem.W.mroIn K C (.type "object") = some true)
    (hs : PySem.W.findIn K (.ref C) "__eq__" = some (some (.ref f))) (hf : PySem.W.isFn K (.ref f) = true) {Q : Value → Shared → Prop}
    (h : wpAny (model prog w) A.in1 (call (.ref f) [.ref x, b]) (fun v s' => ∃ k, v = .bool k ∧ Q (.bool (!k)) s') E s) :
    wpAny (model prog w) A (call (.builtin "object.__ne__") [.ref x, b]) Q E s := by
  refine wpAny_call (codeAny_call_builtin PySem.F.cmp_object.ne.plain PySem.F.cmpEntry_ne (PySem.W.check_slot (i := "object.__ne__") (owner := "object") (n := "__ne__") PySem.F.cmpKind_ne PySem.F.cmpSplit_ne (I.type.andThen (PySem.W.looks_mroIn X hm)) (PySem.F.cmpArgs_ne _ _) ?_))
  unfold Builtin.«object.__ne__»
  refine wpAny_bind (m := slotArgs "__ne__" 1 _) (wpAny_pure ?_)
  refine wpAny_bind (m := cRoomFor _ _) (wpAny_cRoomFor (by show A.units + 1 < cLine; exact hu) ?_)
  refine wpAny_bind (m := callSpecialIfBound? (.ref x) (Str.ofString "__eq__") _) (PySem.W.ifBound_K X I hs hf (wpAny_mono h (fun v s' hq => ?_) fun _ _ e => e))
  obtain ⟨k, rfl, hq⟩ := hq
  exact wpAny_bind (m := truthy (.bool _)) (wpAny_truthy_bool (wpAny_pure hq))
theorem ne_K {Q : Value → Shared → Prop} (hu : A.units + 1 < cLine) (F : Fr h0 L s.heap m) (X₀ : K.In h0) (I : PySem.W.InstAt s.heap x ox C od) (hb : PySem.W.Looks (model prog w) s.heap (typeOf b) tb) (hn : PySem.W.notFirst K C tb = true)
    (hne : PySem.W.findIn K (.ref C) "__ne__" = some (some (.builtin "object.__ne__"))) (hm : PySem.W.mroIn K C (.type "object") = some true)
    (hs : PySem.W.findIn K (.ref C) "__eq__" = some (some (.ref f))) (hf : PySem.W.isFn K (.ref f) = true)
    (h : wpAny (model prog w) A.in1 (call (.ref f) [.ref x, b]) (fun v s' => ∃ k, v = .bool k ∧ Q (.bool (!k)) s') E s) : wpAny (model prog w) A (richCompare .NotEq (.ref x) b) Q E s := by
  have X := X₀.keeps F.keep
  have one : wpAny (model prog w) A (tryCompare (.ref x) (cmpInfo .NotEq).2.1 b) (fun r s' => ∃ v, r = some v ∧ Q v s') E s := by
    unfold tryCompare
    refine wpAny_bind (m := callSpecialIfBound? (.ref x) (Str.ofString "__ne__") _) (ifBound_B X I hne PySem.F.cmp_object.ne.bind (one_ne hu X I hne hm hs hf (wpAny_mono h (fun v s' hq => ?_) fun _ _ e => e)))
    obtain ⟨k, rfl, hq⟩ := hq
    exact ⟨k, rfl, wpAny_pure ⟨_, rfl, hq⟩⟩
  unfold richCompare
  simp only [oneThing_ref]
  refine wpAny_holding (wpAny_bind (wpAny_cRoomFor (Nat.lt_of_succ_lt hu) ?_))
  refine wpAny_bind (I.type.here (wpAny_bind (hb.here ?_)))
  split
  · rename_i q
    have e : PySem.W.subIn K tb (.ref C) = some false := by
      rcases Bool.or_eq_true_iff.mp hn with e | e
      · rw [beq_iff_eq.mp e] at q; simp at q
      · exact beq_iff_eq.mp e
    refine wpAny_bind ((PySem.W.looks_subIn X e).here ?_)
    simp only [Bool.false_eq_true, if_false]
    refine wpAny_bind (wpAny_mono one (fun r s' z => ?_) fun _ _ e => e)
    obtain ⟨v, rfl, hq⟩ := z
    exact wpAny_pure hq
  · refine wpAny_bind (wpAny_pure ?_)
    simp only [Bool.false_eq_true, if_false]
    refine wpAny_bind (wpAny_mono one (fun r s' z => ?_) fun _ _ e => e)
    obtain ⟨v, rfl, hq⟩ := z
    exact wpAny_pure hq
end
/-! ### over the layer -/
section
variable {X : Cx} {CX : CXT} {k : Nat} {f C : Addr} {sp : Sp} {E : XK}
/-- == by the own def, whatever stands on the right -/
def rEqO (K : PySem.W.Frag) (neg : Bool) (C : Addr) (sp : Sp) (E : XK) : R2 := fun x y H Q => ∃ a dx fs t, x = .ref a ∧ H a = some (.ins C dx fs) ∧ TyX K H y t ∧ PySem.W.notFirst K C t = true ∧
  sp [.ref a, y] H (fun v H' => ∃ b : Bool, v = .bl b ∧ Q (.bl (if neg then !b else b)) H') E
theorem op_eqO (S : Spec1 X.K C "__eq__" f) (F : FnR X.prog X.w X.K X.mg X.base CX k f sp) (hr : Room k X.A) (hx : Passes CX X E) : OpR X (compareOp .Eq) (rEqO X.K false C sp E) := by
  intro pins s σ H x y v u Q I rx ry h
  obtain ⟨a, dx, fs, t, rfl, ha, ty, hn, h⟩ := h
  obtain rfl : v = Value.ref a := rx
  obtain ⟨ox, od, J⟩ := inst_at I ha
  obtain ⟨m, hF⟩ := I.fr
  obtain ⟨P, Z, p, _⟩ := kit_of I ry ty
  show wpAny _ _ (richCompare .Eq (.ref a) u) _ _ _
  refine PySem.W.cmp_K (op := .Eq) (tb := t) hr.units0 hF I.ok.mod.kin J (Z.ty _ _ I.kIn p) hn S.at_ S.fn ?_
  refine wpAny_mono (run_at (A := X.A) (us := [.ref a, u]) (vs := [.ref a, y]) F hr rfl hx I (.cons rfl (.cons ry .nil)) h) (fun r s' q => ?_) fun _ _ z => z
  obtain ⟨w', H', I', rv, b, rfl, q⟩ := q
  cases rv
  exact ⟨.bl b, H', I', rfl, q⟩
/-- what != wants of the class besides -/
structure NeC (K : PySem.W.Frag) (C : Addr) : Prop where
  ne : PySem.W.findIn K (.ref C) "__ne__" = some (some (.builtin "object.__ne__"))
  mro : PySem.W.mroIn K C (.type "object") = some true
theorem op_neO (S : Spec1 X.K C "__eq__" f) (N : NeC X.K C) (F : FnR X.prog X.w X.K X.mg X.base CX k f sp) (hr : Room (k + 1) X.A) (hx : Passes CX X E) : OpR X (compareOp .NotEq) (rEqO X.K true C sp E) := by
  intro pins s σ H x y v u Q I rx ry h
  obtain ⟨a, dx, fs, t, rfl, ha, ty, hn, h⟩ := h
  obtain rfl : v = Value.ref a := rx
  obtain ⟨ox, od, J⟩ := inst_at I ha
  obtain ⟨m, hF⟩ := I.fr
  obtain ⟨P, Z, p, _⟩ := kit_of I ry ty
  show wpAny _ _ (richCompare .NotEq (.ref a) u) _ _ _
  refine ne_K (tb := t) (by have := hr.units; omega) hF I.ok.mod.kin J (Z.ty _ _ I.kIn p) hn N.ne N.mro S.at_ S.fn ?_
  refine wpAny_mono (run_at (A := X.A.in1) (us := [.ref a, u]) (vs := [.ref a, y]) F hr.in1 rfl hx I (.cons rfl (.cons ry .nil)) h) (fun r s' q => ?_) fun _ _ z => z
  obtain ⟨w', H', I', rv, b, rfl, q⟩ := q
  cases rv
  exact ⟨b, rfl, .bl (!b), H', I', rfl, q⟩
/-- x[i] by the own def -/
def rGetO (K : PySem.W.Frag) (C : Addr) (sp : Sp) (E : XK) : R2 := fun x y H Q => ∃ a dx fs, x = .ref a ∧ H a = some (.ins C dx fs) ∧ sp [.ref a, y] H Q E
/-- own x op y, both of the class -/
def rBinO (C : Addr) (sp : Sp) (E : XK) : R2 := fun x y H Q => ∃ a dx fs b dy gs, x = .ref a ∧ H a = some (.ins C dx fs) ∧ y = .ref b ∧ H b = some (.ins C dy gs) ∧
  sp [.ref a, .ref b] H (fun v H' => (∃ p, v = .ref p) ∧ Q v H') E
theorem op_binO {op : Operator} {nm : Str} (hnm : PySem.dunder op.info.2 = nm) (hc : PySem.W.selfFirst X.K C = true) (S : Spec1 X.K C nm f) (F : FnR X.prog X.w X.K X.mg X.base CX k f sp) (hr : Room k X.A) (hx : Passes CX X E) : OpR X (binaryOp op) (rBinO C sp E) := by
  intro pins s σ H x y v u Q I rx ry h
  obtain ⟨a, dx, fs, b, dy, gs, rfl, ha, rfl, hb, h⟩ := h
  obtain rfl : v = Value.ref a := rx
  obtain rfl : u = Value.ref b := ry
  obtain ⟨ox, od, J⟩ := inst_at I ha
  obtain ⟨oy, ody, J2⟩ := inst_at I hb
  obtain ⟨m, hF⟩ := I.fr
  refine PySem.W.binop_K hF I.ok.mod.kin J J2.type hc (by rw [hnm]; exact S.at_) S.fn ?_
  refine wpAny_mono (run_at (A := X.A) (us := [.ref a, .ref b]) (vs := [.ref a, .ref b]) F hr rfl hx I (.cons rfl (.cons rfl .nil)) h) (fun r s' q => ?_) fun _ _ z => z
  obtain ⟨w', H', I', rv, ⟨p, rfl⟩, q⟩ := q
  cases rv
  exact ⟨.ref p, H', I', rfl, q⟩
/-- own x op= y -/
def ipO (C : Addr) (sp : Sp) (E : XK) : TIp := fun x y H Q => ∃ a dx fs, x = .ref a ∧ H a = some (.ins C dx fs) ∧ sp [.ref a, y] H (fun v H' => (∃ p, v = .ref p) ∧ Q v H') E
theorem ip_own {op : Operator} {nm : Str} (hnm : PySem.dunderI op.info.2 = nm) (hc : PySem.W.selfFirst X.K C = true) (S : Spec1 X.K C nm f) (F : FnR X.prog X.w X.K X.mg X.base CX k f sp) (hr : Room k X.A) (hx : Passes CX X E) : PIp X op (ipO C sp E) := by
  intro pins s σ H x y v u Q I rx ry h
  obtain ⟨a, dx, fs, rfl, ha, h⟩ := h
  obtain rfl : v = Value.ref a := rx
  obtain ⟨ox, od, J⟩ := inst_at I ha
  obtain ⟨m, hF⟩ := I.fr
  refine PySem.W.ksp_inplace hF I.ok.mod.kin J hc (by rw [hnm]; exact S.at_) S.fn ?_
  refine wpAny_mono (run_at (A := X.A) (us := [.ref a, u]) (vs := [.ref a, y]) F hr rfl hx I (.cons rfl (.cons ry .nil)) h) (fun r s' q => ?_) fun _ _ z => z
  obtain ⟨w', H', I', rv, ⟨p, rfl⟩, q⟩ := q
  cases rv
  exact ⟨.ref p, H', I', rfl, q⟩
/-- ~x -/
def rInvO (C : Addr) (sp : Sp) (E : XK) : V → Hp → VK → Prop := fun x H Q => ∃ a dx fs, x = .ref a ∧ H a = some (.ins C dx fs) ∧ sp [.ref a] H Q E
theorem un_invO (S : Spec1 X.K C "__invert__" f) (F : FnR X.prog X.w X.K X.mg X.base CX k f sp) (hr : Room k X.A) (hx : Passes CX X E) : UnR X (unaryOp .Invert) (rInvO C sp E) := by
  intro pins s σ H x v Q I rx h
  obtain ⟨a, dx, fs, rfl, ha, h⟩ := h
  obtain rfl : v = Value.ref a := rx
  obtain ⟨ox, od, J⟩ := inst_at I ha
  obtain ⟨m, hF⟩ := I.fr
  exact PySem.W.ksp_inv hF I.ok.mod.kin J S.at_ S.fn (run_at (A := X.A) (us := [.ref a]) (vs := [.ref a]) F hr rfl hx I (.cons rfl .nil) h)
/-- str(x) by the own __str__ -/
def rStrO (C : Addr) (sp : Sp) (E : XK) : List V → Hp → VK → Prop := fun xs H Q => ∃ a dx fs, xs = [.ref a] ∧ H a = some (.ins C dx fs) ∧ sp [.ref a] H (fun v H' => (∃ z : Str, v = .str z) ∧ Q v H') E
theorem call_strO (S : Spec1 X.K C "__str__" f) (F : FnR X.prog X.w X.K X.mg X.base CX k f sp) (hr : Room (k + 2) X.A) (hx : Passes CX X E) : CallR X (.type "str") (rStrO C sp E) := by
  intro pins s σ H xs us Q I r h
  obtain ⟨a, dx, fs, rfl, ha, h⟩ := h
  obtain ⟨u, rfl, rfl⟩ := vals1 r
  obtain ⟨ox, od, J⟩ := inst_at I ha
  refine PySem.W.kso_call (hr.in1.in1.units0) I.kIn J S.at_ S.fn ?_
  refine wpAny_mono (run_at (A := X.A.in1.in1) (us := [.ref a]) (vs := [.ref a]) F hr.in1.in1 rfl hx I (.cons rfl .nil) h) (fun v s' q => ?_) fun _ _ z => z
  obtain ⟨w', H', I', rv, ⟨z, rfl⟩, q⟩ := q
  obtain ⟨t, rfl⟩ := rv
  exact ⟨.str z, H', I', ⟨t, rfl⟩, q⟩
end
end Lx
set_option Elab.async false
set_option linter.all false
set_option maxRecDepth 100000
set_option maxHeartbeats 2000000
/-! LxExc: exception classes of the program's own whose `__init__` says super().__init__('..') and keeps its argument. -/
namespace Lx
open PySem PySem.W PySem.Calls PyProof.Rows

/-- the two statements of such an `__init__` -/
def sxBody (f : Str) : List Stmt → Bool
  | [.Expr (.Call (.Attribute (.Call (.Name s _) [] [] _) i _) [.Constant (.str _) _ _] [] _) _, .Assign [.Attribute (.Name e _) f1 _] (.Name f2 _) _] => s == ("super" : Str) && (i == ("__init__" : Str) && (e == ("self" : Str) && (f1 == f && f2 == f)))
  | _ => false
theorem sxBody_is {f : Str} {b : List Stmt} (h : sxBody f b = true) : ∃ (p0 p1 p2 p3 p4 p5 q1 q2 q3 q4 : Pos) (m : Str) (j : Nat),
    b = [.Expr (.Call (.Attribute (.Call (.Name "super" p0) [] [] p1) "__init__" p2) [.Constant (.str m) j p3] [] p4) p5, .Assign [.Attribute (.Name "self" q1) f q2] (.Name f q3) q4] := by
  unfold sxBody at h
  split at h
  · rename_i s p0 p1 i p2 m j p3 p4 p5 e q1 f1 q2 f2 q3 q4
    simp only [Bool.and_eq_true, beq_iff_eq] at h
    obtain ⟨rfl, rfl, rfl, rfl, rfl⟩ := h
    exact ⟨p0, p1, p2, p3, p4, p5, q1, q2, q3, q4, m, j, rfl⟩
  · cases h
def sxNames (f : Str) : List (Str × NameKind) := [("self", .local), (f, .local), ("__class__", .free), ("super", .globalImplicit)]
def sxScope (f : Str) : Scope := { kind := .function, names := sxNames f, isGenerator := false, isCoroutine := false, more := [] }
def sxArgs (f : Str) (r1 r2 : Pos) : Arguments := { posonlyargs := [], args := [{ arg := "self", annotation := none, pos := r1 }, { arg := f, annotation := none, pos := r2 }], vararg := none, kwonlyargs := [], kw_defaults := [], kwarg := none, defaults := [] }
def sxPar (f : Str) : Arguments → Bool
  | { posonlyargs := [], args := [{ arg := a, annotation := none, pos := _ }, { arg := b, annotation := none, pos := _ }], vararg := none, kwonlyargs := [], kw_defaults := [], kwarg := none, defaults := [] } => a == ("self" : Str) && b == f
  | _ => false
theorem sxPar_is {f : Str} {p : Arguments} (h : sxPar f p = true) : ∃ r1 r2, p = sxArgs f r1 r2 := by
  unfold sxPar at h
  split at h
  · rename_i a r1 b r2
    simp only [Bool.and_eq_true, beq_iff_eq] at h
    obtain ⟨rfl, rfl⟩ := h
    exact ⟨r1, r2, rfl⟩
  · cases h
theorem sx_binds {fd : FuncData} {f : Str} {r1 r2 : Pos} {u v : Value} (hp : fd.params = sxArgs f r1 r2) (hd : fd.defaults = .none) (hf : (f == ("self" : Str)) = false) :
    bindArgs fd ⟨[u, v], []⟩ = pure [(("self" : Str), u), (f, v)] := by
  obtain ⟨nm, q, params, body, scope, gl, cl, dfl, kwd, doc, pm, an, cd, ct, bl⟩ := fd
  dsimp only at hp hd
  subst hp hd
  unfold bindArgs
  simp [sxArgs, List.lookup, hf, seqItems?]
  rfl

/-- what the text says of the def -/
structure SxFd (K : Frag) (file : Str) (C cc : Addr) (f : Str) (fd : FuncData) : Prop where
  par : ∃ r1 r2, fd.params = sxArgs f r1 r2
  bod : ∃ b, fd.body = .stmts b ∧ sxBody f b = true
  sco : fd.scope = sxScope f
  glo : fd.globals = mainGlobals
  bui : fd.builtins = builtinsNs
  dfl : fd.defaults = .none
  clo : fd.closure = [(("__class__" : Str), cc)]
  cel : ∃ cl cld csl, K.lookup cc = some ⟨cl, cld, .cell (some (.ref C)), csl⟩
  cod : codeIn K fd.code fd.qualname = true
  fil : ∃ cda ccl cdd vs ccs tf, fd.code = .ref cda ∧ K.lookup cda = some ⟨ccl, cdd, .fields vs, ccs⟩ ∧ vs[2]? = some (.str file tf)
  nme : (f == ("self" : Str)) = false ∧ (f == ("__class__" : Str)) = false ∧ (f == ("super" : Str)) = false ∧ (f == ("__debug__" : Str)) = false
/-- what the text says of the class -/
structure SxT (K : Frag) (file : Str) (C fI : Addr) (f : Str) (B newId initId : String) (bmB : List Value) : Prop where
  ini : excInitIn K C bmB newId = true
  over : excOver K C bmB = true
  sup : ks_superIn K C C "__init__" = some (some (.builtin initId))
  sa : findIn K (.ref C) "__setattr__" = some (some (.builtin "object.__setattr__"))
  noN : findIn K (.ref C) f = some none
  iC : findIn K (.ref C) "__init__" = some (some (.ref fI))
  tI : typeIn K (.ref fI) = some (.type "function")
  kC : keepIn K (.ref C) = true
  exC : subIn K (.ref C) (.type "BaseException") = some true
  exB : subIn K (.ref C) (.type B) = some true
  tyC : typeIn K (.ref C) = some (.type "type")
  hdC : hasDictIn K C = true
  opq : nsIn K cStatics "thirdparty.any" = some none
  own : mroIn K C (.ref C) = some true
  isC : (clsIn K C).isSome = true
  fn : ∃ oc od fd osl cc, K.lookup fI = some ⟨oc, od, .func fd, osl⟩ ∧ SxFd K file C cc f fd
  supN : nsIn K mainGlobals "super" = some none
/-- the base: ValueError and so on -/
structure Bs (B newId initId : String) (bmB : List Value) : Prop where
  base : ExcBaseFacts B newId initId bmB
  kxs : KxsFacts B initId
  store : StoreFacts B bmB "object.__setattr__" "object"
theorem bs_Value : Bs "ValueError" "ValueError.__new__" "ValueError.__init__" [.type "ValueError", .type "Exception", .type "BaseException", .type "object"] := ⟨F.excBase_ValueError, kxs_ValueError, F.store_ValueError⟩
theorem bs_Lookup : Bs "LookupError" "LookupError.__new__" "LookupError.__init__" [.type "LookupError", .type "Exception", .type "BaseException", .type "object"] := ⟨F.excBase_LookupError, kxs_LookupError, F.store_LookupError⟩
theorem bs_Runtime : Bs "RuntimeError" "RuntimeError.__new__" "RuntimeError.__init__" [.type "RuntimeError", .type "Exception", .type "BaseException", .type "object"] := ⟨F.excBase_RuntimeError, kxs_RuntimeError, F.store_RuntimeError⟩

/-- behind `__init__`: the exception at x has a dict, at dx, with the field -/
structure SxEnd (h h' : Heap) (x C dx : Addr) (f : Str) (v : Value) : Prop where
  keep : ∀ b o, b ≠ x → h.get? b = some o → h'.get? b = some o
  obj : ∃ t1, h'.get? x = some { cls := .ref C, dict := some dx, data := .fields #[.ref t1, .none, .none, .none, .bool false, .none] }
  dbig : h.objs.size ≤ dx
  dne : dx ≠ x
  ns : h'.Ns1 dx (fun y => if y = f then some v else none)

section
variable {prog : Program} {w : World} {A : Around} {E : Value → Shared → Prop} {R : Result → Shared → Prop} {s : Shared} {K : Frag} {mg mb : Str → Option Value} {C fI : Addr} {f file : Str} {B newId initId : String} {bmB : List Value}
theorem kept_in {h h' : Heap} {x : Addr} (X : K.In h) (hx : K.lookup x = none) (k : ∀ b o, b ≠ x → h.get? b = some o → h'.get? b = some o) : K.In h' := fun a o e =>
  k a o (fun z => by rw [z, hx] at e; cases e) (X a o e)

/-- the first store into an exception's dict -/
theorem osa_first {x : Addr} {name : Str} {tk : Tok} {v : Value} {fv : Array Value} {h : Heap} {g : Array GenState} {d : Drawn} {t : Nat} {os : OsState} (BS : Bs B newId initId bmB) (X : K.In h)
    (hx : h.get? x = some { cls := .ref C, data := .fields fv }) (hov : excOver K C bmB = true) (hh : hasDictIn K C = true) (ha : findIn K (.ref C) name = some none)
    (hq : ∀ h' tk' dx, (∀ b o, b ≠ x → h.get? b = some o → h'.get? b = some o) → h.objs.size ≤ dx → dx ≠ x → h'.get? x = some { cls := .ref C, dict := some dx, data := .fields fv } →
      h'.Ns1 dx (fun y => if y = name then some v else none) → R (.ok (.ret .none)) ⟨h', g, d, tk', os⟩) :
    codeAny (model prog w) A (.call (.builtin "object.__setattr__") ⟨[.ref x, .str name tk, v], []⟩) R ⟨h, g, d, t, os⟩ := by
  have I : InstAt h x { cls := .ref C, data := .fields fv } C none := ⟨hx, rfl, rfl, trivial⟩
  have hxs : x ≠ h.objs.size := Nat.ne_of_lt (Heap.lt_size hx)
  have htk : takerIn K C name = some none := by
    unfold takerIn
    rw [ha]
    rfl
  refine osa_openX (r := none) (s := ⟨h, g, d, t, os⟩) BS.store X I hov htk fun b => ?_
  obtain ⟨cd, hc, hd'⟩ := any_some hh
  have hcls : Looks (model prog w) h (classData C) cd := looks_clsIn X hc
  obtain ⟨nm, bs, mro, ns, qn, hd, sn, sb, ab, col, del⟩ := cd
  dsimp only at hd'
  subst hd'
  show wpAny _ _ (Builtin.ObjectAttr.storeInOwnDict (.ref x) (.ref C) (.str name tk) name v b) _ _ _
  unfold Builtin.ObjectAttr.storeInOwnDict Builtin.ObjectAttr.ownDictForStores
  repeat (first | with_reducible refine HandSPX.store_in_new ?_ ?_ | with_reducible refine wpAny_loadPart_at hx ?_ | with_reducible refine hcls.at ?_ | wp_step)
  · exact ⟨_, #[], _, (Heap.get?_update_ne _ _ _ _ hxs.symm).trans (Heap.get?_push_at rfl rfl), rfl, fun e he => absurd he (by simp), fun _ => rfl⟩
  · intro h' tk' hn' hs
    have hx₁ : (h.push { cls := .type "dict", data := .dict #[] }).get? x = some { cls := .ref C, data := .fields fv } := Heap.get?_push_of_some _ hx
    refine hq h' tk' h.objs.size (fun b o hb ho => ?_) (Nat.le_refl _) hxs.symm ?_ hn'
    · exact (hs.2 b (Nat.ne_of_lt (Heap.lt_size ho))).trans ((Heap.get?_update_ne _ _ _ _ hb).trans (Heap.get?_push_of_some _ ho))
    · exact (hs.2 x hxs).trans (Heap.get?_update_self _ hx₁ rfl)
end
end Lx
set_option Elab.async false
set_option linter.all false
set_option maxRecDepth 100000
set_option maxHeartbeats 2000000
/-! LxExcI: such an `__init__` walked, such a class called. -/
namespace Lx
open PySem PySem.W PySem.Calls PyProof.Rows

section
variable {prog : Program} {w : World} {A : Around} {E : Value → Shared → Prop} {R : Result → Shared → Prop} {s : Shared} {K : Frag} {mg mb : Str → Option Value} {C fI : Addr} {f file : Str} {B newId initId : String} {bmB : List Value}
/-- the bound built-in `__init__`, called -/
theorem call_mw {u e t0 : Addr} {rest : List Value} {Q : Value → Shared → Prop} {h : Heap} {g : Array GenState} {d : Drawn} {t : Nat} {os : OsState} (BS : Bs B newId initId bmB) (X : K.In h) (q : excInitIn K C bmB newId = true)
    (he : h.get? e = some (HandSPX.excO C t0)) (hu : h.get? u = some (kxs_mw initId e)) (hrest : rest.length ≤ sizeLine)
    (hq : ∀ h' t1, (∀ b o, b ≠ e → h.get? b = some o → h'.get? b = some o) → h'.get? e = some (HandSPX.excO C t1) → Q .none ⟨h', g, d, t, os⟩) :
    wpAny (model prog w) A (call (.ref u) rest) Q E ⟨h, g, d, t, os⟩ := by
  obtain ⟨nm, N', qn, bs, bm, hdct, sn, sub, ab, col, dd, k0, k1, k2, k3, k5, hC, hT⟩ := excInit_of X q
  refine wpAny_call (codeAny_of_tree ?_)
  show wpAny _ A.in1 (callAny (.ref u) ⟨rest, []⟩) _ _ _
  simp only [callAny]
  refine wpAny_bind (wpAny_load hu ?_)
  have e1 : (Value.type "method-wrapper" == Value.type "method") = false := by decide
  have e2 : (Value.type "method-wrapper" == Value.type "method-wrapper") = true := by decide
  simp only [kxs_mw, e1, e2, Bool.or_true, if_true]
  refine KFB.if_so (by decide) ?_
  refine wpAny_bind (check_bound_init BS.base.toExcCallFacts hC he rfl ?_)
  refine wpAny_bind (wpAny_pure (wpAny_pure ?_))
  refine ⟨plainId_quiet BS.base.init.plain _, codeAny_builtin BS.base.initEntry ?_⟩
  exact exc_init_tree (cls := .ref C) (t0 := t0) (dv := none) (c2 := .none) (c3 := .none) (b4 := .bool false) he hrest fun h' k e' _ => hq h' _ k e'

/-- super().name(text), whatever lines it stands on -/
theorem mcall_at {M : Model} {c : Code} {env : Env} {p0 p1 p3 apos pos : Pos} {name m : Str} {j : Nat} {Q : Value → Shared → Prop}
    (h : ∀ pl : Sem Bool, _root_.PySem.wpAt M A c (attributeBase (.Call (.Name "super" p0) [] [] p1) name env (eval (.Call (.Name "super" p0) [] [] p1) env))
      (fun ov s₁ => wpAny M A (getMethod ov name pl) (fun fx s₂ => ∀ pos', wpAny M A (callWith pos' fx.1 fx.2 (backTo pos (starEach [.Constant (.str m) j p3] env)) []) Q E s₂) E s₁) E s) :
    _root_.PySem.wpAt M A c (eval (.Call (.Attribute (.Call (.Name "super" p0) [] [] p1) name apos) [.Constant (.str m) j p3] [] pos) env) Q E s := by
  obtain ⟨pl, e⟩ : ∃ pl : Sem Bool, eval (.Call (.Attribute (.Call (.Name "super" p0) [] [] p1) name apos) [.Constant (.str m) j p3] [] pos) env = (do
      let ov ← attributeBase (.Call (.Name "super" p0) [] [] p1) name env (eval (.Call (.Name "super" p0) [] [] p1) env)
      standAt apos.atName
      let fx ← holding [ov] (getMethod ov name pl)
      let cp ← methodCallPos true (.Call (.Name "super" p0) [] [] p1) env apos pos
      callWith cp fx.1 fx.2 (backTo pos (starEach [.Constant (.str m) j p3] env)) []) := ⟨_, rfl⟩
  rw [e]
  refine _root_.PySem.wpAt_bind (ks_wpAt_mono (h pl) (fun ov s₁ h₁ => _root_.PySem.wpAt_of_wpAny (wpAny_bind (wpAny_standAt (wpAny_bind (wpAny_holding (wpAny_mono h₁ (fun fx s₂ h₂ => ?_) fun _ _ x => x)))))) fun _ _ x => x)
  refine wpAny_bind ?_
  unfold methodCallPos
  by_cases hl : (apos.endLine == pos.line) = true
  · rw [if_pos (by rw [hl]; rfl)]
    exact wpAny_pure (h₂ _)
  · rw [if_neg (by rw [Bool.not_eq_true] at hl; rw [hl]; decide)]
    exact wpAny_bind (wpAny_pure (wpAny_pure (h₂ _)))
/-- what is asked of the frame -/
structure SxEnv (env : Env) (f : Str) (L fI cda cc : Addr) : Prop where
  kind : env.scope.kind = .function
  more : env.scope.more = []
  l1 : env.kindOf ("self" : Str) = some .local
  l2 : env.kindOf f = some .local
  l3 : env.kindOf ("__class__" : Str) = some .free
  l4 : env.kindOf ("super" : Str) = some .globalImplicit
  glob : env.globals = mainGlobals
  blt : env.builtins = builtinsNs
  cel : env.cells.lookup ("__class__" : Str) = some cc
  fn : env.func = some fI
  code : env.code = .ref cda
  loc : env.locals = L
theorem sx_body {env : Env} {L cda cc x t0 : Addr} {v : Value} {r1 r2 p0 p1 p2 p3 p4 p5 q1 q2 q3 q4 : Pos} {m : Str} {j : Nat} {cl ccl : Value} {cld cdd : Option Addr} {csl ccs : Array (Option Value)} {vs : Array Value} {tf : Tok} {oF : Obj} {fd : FuncData} {body : List Stmt} {m0 : Str → Option Value} {Q : Flow → Shared → Prop}
    {h : Heap} {g : Array GenState} {d : Drawn} {tk : Nat} {os : OsState} (BS : Bs B newId initId bmB) (T : SxT K file C fI f B newId initId bmB) (V : SxEnv env f L fI cda cc)
    (hP : ((prog.main.file : Str) == file) = true) (hPt : (prog.main.scope.names.lookup ("super" : Str)).isSome = false)
    (X : K.In h) (G : h.Ns mainGlobals mg) (Gb : h.Ns builtinsNs mb) (hmb : mb "super" = some (.type "super")) (hF : h.get? fI = some oF) (hFd : oF.data = .func fd) (hpar : fd.params = sxArgs f r1 r2)
    (hcel : K.lookup cc = some ⟨cl, cld, .cell (some (.ref C)), csl⟩) (hcdl : K.lookup cda = some ⟨ccl, cdd, .fields vs, ccs⟩) (hvs : vs[2]? = some (.str file tf)) (nd : (f == ("__debug__" : Str)) = false)
    (hx : h.get? x = some (HandSPX.excO C t0)) (hnx : K.lookup x = none) (hxL : x ≠ L) (hn : h.Ns L m0) (m1 : m0 ("self" : Str) = some (.ref x)) (m2 : m0 f = some v)
    (hq : ∀ h' tk' dx t1, (∀ b o, b ≠ x → h.get? b = some o → h'.get? b = some o) → h.objs.size ≤ dx → dx ≠ x → h'.get? x = some { cls := .ref C, dict := some dx, data := .fields #[.ref t1, .none, .none, .none, .bool false, .none] } →
      h'.Ns1 dx (fun y => if y = f then some v else none) → Q .next ⟨h', g, d, tk', os⟩) :
    _root_.PySem.wpAt (model prog w) A (.func body env) (execs [.Expr (.Call (.Attribute (.Call (.Name "super" p0) [] [] p1) "__init__" p2) [.Constant (.str m) j p3] [] p4) p5, .Assign [.Attribute (.Name "self" q1) f q2] (.Name f q3) q4] env) Q E ⟨h, g, d, tk, os⟩ := by
  obtain ⟨cdD, hcD, hdD⟩ := any_some T.hdC
  obtain ⟨oD, hD1, hD2⟩ : ∃ oD, h.get? C = some oD ∧ oD.data = .cls cdD := by
    unfold clsIn at hcD
    split at hcD
    · rename_i c d cd' sl ho'
      cases hcD
      exact ⟨_, X _ _ ho', rfl⟩
    · cases hcD
  have hxC : x ≠ C := fun z => by
    have y : h.get? C = some (HandSPX.excO C t0) := z ▸ hx
    rw [hD1] at y
    cases y
    cases hD2
  refine ks_wpAt_execs_cons (ks_wpAt_Expr_any ?_ (by unfold interactive; rw [V.more]; simp) rfl)
  refine mcall_at fun pl => ?_
  refine ks_wpAt_super_base V.l4 V.l3 (by decide) V.fn hF hFd (by rw [hpar]; rfl) V.code (X _ _ hcdl) rfl hvs hP hPt ?_
  refine ks_loadName_global V.kind V.l4 (loadGlobal_builtin (by rw [V.glob]; exact G) (mg_none_of X G T.supN) (by rw [V.blt]; exact Gb) hmb ⟨rfl, ?_⟩)
  refine wpAny_loadName_free V.kind V.l3 V.cel ⟨_, X _ _ hcel, rfl⟩ ?_
  refine wpAny_loadName_local (v := .ref x) V.kind V.l1 (by rw [V.loc]; exact hn) m1 ?_
  refine ks_wpAny_isType_cls hD1 hD2 ⟨rfl, ?_⟩
  refine ks_wpAny_call_super hD1 hD2 hx rfl (fun c e => by cases e) (looks_mroIn X T.own) (fun h2 hso k2 => ?_)
  have X2 : K.In h2 := X.keeps k2
  have hx2 := k2 _ _ hx
  have I2 : InstAt h2 x (HandSPX.excO C t0) C none := ⟨hx2, rfl, rfl, trivial⟩
  have hI : Looks (model prog w) h2 (isInstance (.ref x) (.type B)) true := I2.type.andThen (looks_subIn X2 T.exB)
  have hm := T.sup
  unfold ks_superIn at hm
  rw [hcD] at hm
  refine kxs_getMethod BS.kxs hso (looks_opaque X2 T.opq) (l₀ := cdD.mro) (fun A Q E s k q => wpAny_bind ((looks_clsIn X2 hcD) A _ E s k (wpAny_pure q))) rfl X2 hm hI hxC (by decide) (fun pos' => ?_)
  have k3 : ∀ b o, h2.get? b = some o → (h2.push (kxs_mw initId x)).get? b = some o := fun b o e => Heap.get?_push_of_some _ e
  have X3 : K.In (h2.push (kxs_mw initId x)) := X2.keeps k3
  have hu3 : (h2.push (kxs_mw initId x)).get? h2.objs.size = some (kxs_mw initId x) := Heap.get?_push_at rfl rfl
  show wpAny _ _ (callWith pos' (.ref h2.objs.size) [] [(false, eval (.Constant (.str m) j p3) env)] []) _ _ _
  refine kxs_callWith (i := initId) (x := x) rfl (Calls.evalArgs_plain (Calls.spliced_cons (Calls.Constant_str (pos := p3) (k := j) (Calls.spliced_nil ⟨hu3, ?_⟩))))
  refine call_mw BS X3 T.ini (k3 _ _ hx2) hu3 (by rw [sizeLine_eq]; exact (by decide : 1 ≤ 16777216)) (fun h4 t1 k4 e4 => ?_)
  have k04 : ∀ b o, b ≠ x → h.get? b = some o → h4.get? b = some o := fun b o nb e => k4 b o nb (k3 b o (k2 b o e))
  have X4 : K.In h4 := kept_in X hnx k04
  have hn4 : h4.Ns L m0 := by
    obtain ⟨oL, es, ep, hL, r⟩ := hn
    exact ⟨oL, es, ep, k04 _ _ (Ne.symm hxL) hL, r⟩
  refine ks_wpAt_execs_cons (ks_wpAt_Assign_Attr (_root_.PySem.wpAt_of_wpAny (wpAny_Name (wpAny_loadName_local V.kind V.l2 (by rw [V.loc]; exact hn4) m2 (wpAny_Name (wpAny_loadName_local (v := .ref x) V.kind V.l1 (by rw [V.loc]; exact hn4) m1 ?_) (by decide))) nd)) rfl)
  refine set_plain X4 (ox := HandSPX.excO C t1) (od := none) ⟨e4, rfl, rfl, trivial⟩ T.sa ?_
  refine osa_first BS X4 e4 T.over T.hdC T.noN (fun h5 tk5 dx k5 dn dne hx5 hn5 => ?_)
  have z : h.objs.size ≤ h4.objs.size := Nat.le_of_lt (Heap.lt_size (k4 _ _ (Nat.ne_of_gt (Heap.lt_size hx)) (k3 _ _ hso)))
  exact _root_.PySem.wpAt_of_wpAny (wpAny_execs_nil (hq h5 tk5 dx t1 (fun b o nb e => k5 b o nb (k04 b o nb e)) (Nat.le_trans z dn) dne hx5 hn5))
theorem sx_init (BS : Bs B newId initId bmB) (T : SxT K file C fI f B newId initId bmB) (hP : ((prog.main.file : Str) == file) = true) (hPt : (prog.main.scope.names.lookup ("super" : Str)).isSome = false)
    {x t0 : Addr} {v : Value} (X : K.In s.heap) (G : s.heap.Ns mainGlobals mg) (Gb : s.heap.Ns builtinsNs mb) (hmb : mb "super" = some (.type "super")) (hlim : s.heap.NoLimit) (hx : s.heap.get? x = some (HandSPX.excO C t0)) (hnx : K.lookup x = none)
    (hroom : A.depth < recursionLimit) (hq : ∀ h' tk dx, SxEnd s.heap h' x C dx f v → R (.ok (.ret .none)) { s with heap := h', toks := tk }) :
    codeAny (model prog w) A (.call (.ref fI) ⟨[.ref x, v], []⟩) R s := by
  obtain ⟨oc, od, fd, osl, cc, ho, D⟩ := T.fn
  obtain ⟨r1, r2, hpar⟩ := D.par
  obtain ⟨b, hbod, hb⟩ := D.bod
  obtain ⟨p0, p1, p2, p3, p4, p5, q1, q2, q3, q4, m, j, rfl⟩ := sxBody_is hb
  obtain ⟨cl, cld, csl, hcel⟩ := D.cel
  obtain ⟨cda, ccl, cdd, vs, ccs, tf, hcode, hcdl, hvs⟩ := D.fil
  obtain ⟨nf1, nf2, nf3, nf4⟩ := D.nme
  have l1 : (sxNames f).lookup ("self" : Str) = some NameKind.local := by simp [sxNames, List.lookup]
  have l2 : (sxNames f).lookup f = some NameKind.local := by simp [sxNames, List.lookup, nf1]
  have l3 : (sxNames f).lookup ("__class__" : Str) = some NameKind.free := by
    simp [sxNames, List.lookup, show ((("__class__" : Str)) == f) = false from by rw [BEq.comm]; exact nf2]
    decide
  have l4 : (sxNames f).lookup ("super" : Str) = some NameKind.globalImplicit := by
    simp [sxNames, List.lookup, show ((("super" : Str)) == f) = false from by rw [BEq.comm]; exact nf3]
    decide
  have hsc := D.sco
  have hcel' : ∀ y ∈ fd.scope.names, y.2 ≠ NameKind.cell := by
    intro y hy
    rw [hsc] at hy
    simp only [sxScope, sxNames, List.mem_cons, List.not_mem_nil, or_false] at hy
    rcases hy with rfl | rfl | rfl | rfl <;> (intro z; cases z)
  refine ks_codeAny_call_defAt (binds := [(("self" : Str), .ref x), (f, v)]) hroom (X _ _ ho) rfl hlim (codeRec_of X D.cod) hbod (BindsTo.of_eq (sx_binds hpar D.dfl nf1)) hcel' ?_ (fun h₁ hns hk₁ => ?_) (by rw [hsc]; rfl) (by rw [hsc]; rfl) (by rw [hsc]; rfl)
  · intro y hy
    rw [hsc]
    simp only [List.mem_cons, List.not_mem_nil, or_false] at hy
    rcases hy with rfl | rfl
    · exact l1
    · exact l2
  · have X₁ : K.In h₁ := X.keeps hk₁
    have V : SxEnv (callEnv fd s.heap.objs.size fI) f s.heap.objs.size fI cda cc := {
      kind := by show fd.scope.kind = _; rw [hsc]; rfl
      more := by show fd.scope.more = _; rw [hsc]; rfl
      l1 := by show fd.scope.names.lookup _ = _; rw [hsc]; exact l1
      l2 := by show fd.scope.names.lookup _ = _; rw [hsc]; exact l2
      l3 := by show fd.scope.names.lookup _ = _; rw [hsc]; exact l3
      l4 := by show fd.scope.names.lookup _ = _; rw [hsc]; exact l4
      glob := D.glo
      blt := D.bui
      cel := by show fd.closure.lookup _ = _; rw [D.clo]; rfl
      fn := rfl
      code := hcode
      loc := rfl }
    have hxL : x ≠ s.heap.objs.size := Nat.ne_of_lt (Heap.lt_size hx)
    have zz : s.heap.objs.size ≤ h₁.objs.size := Nat.le_of_lt hns.lt
    have nf1' : (("self" : Str) == f) = false := by rw [BEq.comm]; exact nf1
    refine sx_body (x := x) (v := v) BS T V hP hPt X₁ (G.keeps hk₁) (Gb.keeps hk₁) hmb (X₁ _ _ ho) rfl hpar hcel hcdl hvs nf4 (hk₁ _ _ hx) hnx hxL hns (by simp [List.lookup, nf1']) (by simp [List.lookup]) (fun h' tk' dx t1 k dn dne hx' hn' => ?_)
    exact hq h' tk' dx ⟨fun b o nb e => k b o nb (hk₁ b o e), ⟨t1, hx'⟩, Nat.le_trans zz dn, dne, hn'⟩

/-- a made one, as the heap behind the call has it -/
structure SxMade (h h' : Heap) (e C d : Addr) (f : Str) (v : Value) : Prop where
  keep : ∀ b o, h.get? b = some o → h'.get? b = some o
  new : h.objs.size ≤ e
  obj : ∃ t1, h'.get? e = some { cls := .ref C, dict := some d, data := .fields #[.ref t1, .none, .none, .none, .bool false, .none] }
  dbig : h.objs.size ≤ d
  dne : d ≠ e
  ns : h'.Ns1 d (fun y => if y = f then some v else none)
theorem sx_made (BS : Bs B newId initId bmB) (T : SxT K file C fI f B newId initId bmB) (hP : ((prog.main.file : Str) == file) = true) (hPt : (prog.main.scope.names.lookup ("super" : Str)).isSome = false)
    {v : Value} (X : K.In s.heap) (G : s.heap.Ns mainGlobals mg) (Gb : s.heap.Ns builtinsNs mb) (hmb : mb "super" = some (.type "super")) (hlim : s.heap.NoLimit) (hroom : A.depth + 1 < recursionLimit)
    (hq : ∀ h' tk e d, SxMade s.heap h' e C d f v → R (.ok (.ret (.ref e))) { s with heap := h', toks := tk }) : codeAny (model prog w) A (.call (.ref C) ⟨[v], []⟩) R s := by
  obtain ⟨nm, N', qn, bs, bm, hdct, sn, sub, ab, col, dd, k0, k1, k2, k3, k5, hC, hT⟩ := excInit_of X T.ini
  obtain ⟨hp, g, dr, tk, os⟩ := s
  have k : ∀ b o, hp.get? b = some o → ((hp.push (kdv_tup [v])).push (HandSPX.excO C hp.objs.size)).get? b = some o := fun b o e => Heap.get?_push_of_some _ (Heap.get?_push_of_some _ e)
  have hget : ((hp.push (kdv_tup [v])).push (HandSPX.excO C hp.objs.size)).get? (hp.objs.size + 1) = some (HandSPX.excO C hp.objs.size) := by heap_get
  have hnx : K.lookup (hp.objs.size + 1) = none := by
    cases e : K.lookup (hp.objs.size + 1) with
    | none => rfl
    | some o =>
      have z : hp.get? (hp.objs.size + 1) = some o := X _ _ e
      exact absurd (Nat.lt_of_succ_lt (Heap.lt_size z)) (Nat.lt_irrefl _)
  refine HandSPX.call_own BS.base hT hC (looks_findIn X T.iC) (fun self => bind_fn X self T.tI) (by rw [sizeLine_eq]; exact (by decide : 1 ≤ 16777216)) ?_
  refine sx_init (s := ⟨(hp.push (kdv_tup [v])).push (HandSPX.excO C hp.objs.size), g, dr, tk, os⟩) BS T hP hPt (X.keeps k) (G.keeps k) (Gb.keeps k) hmb (hlim.keeps k) hget hnx ?_ fun h' tk' dx M => ?_
  · show A.depth + 1 < recursionLimit
    exact hroom
  · have old : ∀ b o, hp.get? b = some o → h'.get? b = some o := fun b o e => M.keep b o (Nat.ne_of_lt (Nat.lt_succ_of_lt (Heap.lt_size e))) (k b o e)
    have z : hp.objs.size + 1 + 1 ≤ dx := by
      have q := M.dbig
      first
        | (simpa only [Heap.size_push] using q)
        | exact q
    exact ⟨rfl, hq h' tk' (hp.objs.size + 1) dx ⟨old, Nat.le_succ _, M.obj, Nat.le_trans (Nat.le_trans (Nat.le_succ _) (Nat.le_succ _)) z, M.dne, M.ns⟩⟩
end
end Lx
set_option Elab.async false
set_option linter.all false
set_option maxRecDepth 100000
set_option maxHeartbeats 2000000
/-! LxExcR: the rule for such a class called ahead of a raise. -/
namespace Lx
open PySem PySem.Spec PyProof.Rows L2

theorem relO_one {v : V} {u : Value} {f : Str} (r : RelV v u) (g : Str) : RelO (List.lookup g [(f, v)]) (if g = f then some u else none) := by
  by_cases h : g = f
  · subst h
    rw [if_pos rfl]
    have q : List.lookup g [(g, v)] = some v := by simp [List.lookup]
    rw [q]
    exact r
  · rw [if_neg h]
    have q : (g == f) = false := by simpa using h
    simp [List.lookup, q, RelO]
/-- the program whose text it is: its file, and no super of its own -/
structure PFile (P : Program) (file : Str) : Prop where
  file : ((P.main.file : Str) == file) = true
  top : (P.main.scope.names.lookup ("super" : Str)).isSome = false
/-- C(e) ahead of a raise: an exception of the class at C, the field f is e's value -/
def tMkX (C : Addr) (f : Str) (te : TE) : L2.St → Hp → XK → Prop := fun σ H Q => te σ H fun v H1 => ∀ d, H1 d = none → Q (.ref C) (some d) (upd H1 d (.xd [(f, v)]))
section
variable {X : Cx} {C fI : Addr} {f file : Str} {B newId initId : String} {bmB : List Value}
theorem pmk_sx {x : Str} {a : Expr} {ta : TE} {p pos : Pos} {k : Nat} (BS : Bs B newId initId bmB) (T : SxT X.K file C fI f B newId initId bmB) (PF : PFile X.prog file) (hr : Room (k + 1) X.A) (gC : X.mg x = some (.ref C)) (ha : PE X a ta) (hg : Gl X x)
    (hdb : (x == ("__debug__" : Str)) = false := by decide) (he : starEach (a :: []) X.env = (false, eval a X.env) :: starEach [] X.env := by rfl) (hpl : (backTo pos (starEach [] X.env)).any (·.1) = false := by rfl) :
    PMk X (.Call (.Name x p) [a] [] pos) (tMkX C f ta) := by
  intro pins s σ H Q I h
  refine wpAny_Call_Name_kw (ld_glob I hg gC ?_ hdb)
  have hsp : spliced (backTo pos (starEach [a] X.env)) = spliced [(false, eval a X.env)] := by rw [he]; rfl
  refine PySem.W.callWith_K (h₀ := X.base) I.ok.mod.kin T.kC ?_ he hpl
  rw [hsp]
  refine Calls.spliced_cons (thn (ha.run pins s σ H (fun v H1 => ∀ d, H1 d = none → Q (.ref C) (some d) (upd H1 d (.xd [(f, v)]))) I h) fun u s1 hh => Calls.spliced_nil ?_)
  obtain ⟨v, H1, I1, rv, q1⟩ := hh
  refine ⟨I1.kIn, ?_⟩
  show wpAny _ _ (call (.ref C) [u]) _ _ _
  obtain ⟨mb, hb1, hb2⟩ := I1.mod.blt
  have hmb : mb "super" = some (.type "super") := (hb2 _ (by decide)).trans PyProof.Rows.Boot.«super»
  have hlim := I1.nolimit
  obtain ⟨hp, g, dr, tk, os⟩ := s1
  refine wpAny_call (sx_made BS T PF.file PF.top I1.kIn (I1.mod.glob.keeps I1.bk) (hb1.keeps I1.bk) hmb hlim (by have := hr.dp; omega) fun h' tk' e d M => ?_)
  show MkP X pins σ Q (.ref e) ⟨h', g, dr, tk', os⟩
  obtain ⟨t1, hoe⟩ := M.obj
  obtain ⟨G', g1, g2⟩ := restrict h' fun b => decide (b ≠ e)
  have gk : ∀ b, b ≠ e → G'.get? b = h'.get? b := fun b hb => g1 b (decide_eq_true hb)
  have ge : G'.get? e = none := g2 e (by simp)
  have old : ∀ b o, hp.get? b = some o → G'.get? b = some o := fun b o q => (gk b (Nat.ne_of_lt (Nat.lt_of_lt_of_le (Heap.lt_size q) M.new))).trans (M.keep b o q)
  have ob : ObjOk X.prog X.w (upd H1 d (.xd [(f, v)])) G' d (.xd [(f, v)]) := ⟨_, M.ns.at (fun o q => (gk d M.dne).trans q), fun g => relO_one rv g⟩
  have J : Inv X pins σ (upd H1 d (.xd [(f, v)])) ⟨G', g, dr, tk', os⟩ := I1.laid (t' := tk') old M.dbig ob
  refine ⟨e, _, _, ⟨G', g, dr, tk', os⟩, _, .ref C, some d, rfl, J, fun b o q => ?_, ge, hoe, ⟨rfl, rfl⟩, rfl, rfl, ?_, rfl, I1.bare, raises_own T.exC T.tyC, q1 d (I1.hok.fresh M.dbig)⟩
  · by_cases hb : b = e
    · have q' : G'.get? b = some o := q
      rw [hb, ge] at q'
      cases q'
    · exact (gk b hb).symm.trans q
  · rw [upd_ne (Ne.symm M.dne)]
    exact I1.hok.fresh M.new
/-- raise C(e) -/
theorem ps_raiseX {x : Str} {a : Expr} {ta : TE} {W : WX} {p pos pos2 : Pos} {k : Nat} (hc : X.calm = true) (BS : Bs B newId initId bmB) (T : SxT X.K file C fI f B newId initId bmB) (PF : PFile X.prog file) (hr : Room (k + 1) X.A) (tk : Takes X W) (gC : X.mg x = some (.ref C)) (ha : PE X a ta) (hg : Gl X x := by rfl)
    (hdb : (x == ("__debug__" : Str)) = false := by decide) (he : starEach (a :: []) X.env = (false, eval a X.env) :: starEach [] X.env := by rfl) (hpl : (backTo pos (starEach [] X.env)).any (·.1) = false := by rfl) :
    PS X (.Raise (some (.Call (.Name x p) [a] [] pos)) none pos2) (fun _ σ H => tMkX C f ta σ H fun cls d H' => W cls d σ H') := ps_raise hc tk (pmk_sx BS T PF hr gC ha hg hdb he hpl)
end
end Lx
set_option Elab.async false
set_option linter.all false
set_option maxRecDepth 100000
set_option maxHeartbeats 2000000
/-! LxExcB: what the text says of such a class, asked of the written part by one Bool. -/
namespace Lx
open PySem PySem.W PySem.Calls

def sxScB (f : Str) (s : Scope) : Bool := decide (s.kind = .function) && (decide (s.names = sxNames f) && (!s.isGenerator && (!s.isCoroutine && s.more.isEmpty)))
theorem sxScB_ok {f : Str} {s : Scope} (h : sxScB f s = true) : s = sxScope f := by
  unfold sxScB at h
  simp only [Bool.and_eq_true, Bool.not_eq_true', decide_eq_true_eq, List.isEmpty_iff] at h
  obtain ⟨kd, nms, g, c, m⟩ := s
  obtain ⟨h1, h2, h3, h4, h5⟩ := h
  dsimp only at h1 h2 h3 h4 h5
  subst h1 h2 h3 h4 h5
  rfl
def sxBodB (f : Str) : FuncBody → Bool
  | .stmts b => sxBody f b
  | _ => false
def sxNil : Value → Bool
  | .none => true
  | _ => false
def sxCloB (K : Frag) (C : Addr) : List (Str × Addr) → Bool
  | [(n, cc)] => n == ("__class__" : Str) && (match K.lookup cc with
    | some ⟨_, _, .cell (some (.ref D)), _⟩ => D == C
    | _ => false)
  | _ => false
def sxFilB (K : Frag) (file : Str) : Value → Bool
  | .ref c => (match K.lookup c with
    | some ⟨_, _, .fields vs, _⟩ => (match (vs[2]? : Option Value) with
      | some (Value.str g _) => g == file
      | _ => false)
    | _ => false)
  | _ => false
def sxNmB (f : Str) : Bool := !(f == ("self" : Str)) && (!(f == ("__class__" : Str)) && (!(f == ("super" : Str)) && !(f == ("__debug__" : Str))))
def sxFdB (K : Frag) (file : Str) (C : Addr) (f : Str) (fd : FuncData) : Bool :=
  sxPar f fd.params && (sxBodB f fd.body && (sxScB f fd.scope && (fd.globals == mainGlobals && (fd.builtins == builtinsNs && (sxNil fd.defaults && (sxCloB K C fd.closure && (codeIn K fd.code fd.qualname && (sxFilB K file fd.code && sxNmB f))))))))
theorem sxFdB_ok {K : Frag} {file : Str} {C : Addr} {f : Str} {fd : FuncData} (h : sxFdB K file C f fd = true) : ∃ cc, SxFd K file C cc f fd := by
  unfold sxFdB at h
  simp only [Bool.and_eq_true, beq_iff_eq] at h
  obtain ⟨h1, h2, h3, h4, h5, h6, h7, h8, h9, h10⟩ := h
  obtain ⟨b, hb1, hb2⟩ : ∃ b, fd.body = .stmts b ∧ sxBody f b = true := by
    unfold sxBodB at h2
    split at h2
    · rename_i b e
      exact ⟨b, e, h2⟩
    · cases h2
  have h6' : fd.defaults = .none := by
    unfold sxNil at h6
    split at h6
    · rename_i e
      exact e
    · cases h6
  obtain ⟨cc, hc1, hc2⟩ : ∃ cc, fd.closure = [(("__class__" : Str), cc)] ∧ ∃ cl cld csl, K.lookup cc = some ⟨cl, cld, .cell (some (.ref C)), csl⟩ := by
    unfold sxCloB at h7
    split at h7
    · rename_i n cc e
      rw [Bool.and_eq_true, beq_iff_eq] at h7
      obtain ⟨rfl, h7⟩ := h7
      split at h7
      · rename_i o cl cld D csl e2
        rw [beq_iff_eq] at h7
        subst h7
        exact ⟨cc, e, _, _, _, e2⟩
      · cases h7
    · cases h7
  have h9' : ∃ cda ccl cdd vs ccs tf, fd.code = .ref cda ∧ K.lookup cda = some ⟨ccl, cdd, .fields vs, ccs⟩ ∧ vs[2]? = some (.str file tf) := by
    unfold sxFilB at h9
    split at h9
    · rename_i c e
      split at h9
      · rename_i o ccl cdd vs ccs e2
        split at h9
        · rename_i o2 g tf e3
          rw [beq_iff_eq] at h9
          subst h9
          exact ⟨c, _, _, _, _, _, e, e2, e3⟩
        · cases h9
      · cases h9
    · cases h9
  have h10' : (f == ("self" : Str)) = false ∧ (f == ("__class__" : Str)) = false ∧ (f == ("super" : Str)) = false ∧ (f == ("__debug__" : Str)) = false := by
    unfold sxNmB at h10
    simp only [Bool.and_eq_true, Bool.not_eq_true'] at h10
    exact h10
  exact ⟨cc, ⟨sxPar_is h1, ⟨b, hb1, hb2⟩, sxScB_ok h3, h4, h5, h6', hc1, hc2, h8, h9', h10'⟩⟩
def sxB (K : Frag) (file : Str) (C fI : Addr) (f : Str) (B newId initId : String) (bmB : List Value) : Bool :=
  excInitIn K C bmB newId && (excOver K C bmB && (decide (ks_superIn K C C "__init__" = some (some (.builtin initId))) && (decide (findIn K (.ref C) "__setattr__" = some (some (.builtin "object.__setattr__"))) && (decide (findIn K (.ref C) f = some none) &&
  (decide (findIn K (.ref C) "__init__" = some (some (.ref fI))) && (decide (typeIn K (.ref fI) = some (.type "function")) && (keepIn K (.ref C) && (decide (subIn K (.ref C) (.type "BaseException") = some true) && (decide (subIn K (.ref C) (.type B) = some true) &&
  (decide (typeIn K (.ref C) = some (.type "type")) && (hasDictIn K C && (decide (nsIn K cStatics "thirdparty.any" = some none) && (decide (mroIn K C (.ref C) = some true) && ((clsIn K C).isSome && (decide (nsIn K mainGlobals "super" = some none) &&
  (match K.lookup fI with | some ⟨_, _, .func fd, _⟩ => sxFdB K file C f fd | _ => false))))))))))))))))
theorem sxB_ok {K : Frag} {file : Str} {C fI : Addr} {f : Str} {B newId initId : String} {bmB : List Value} (h : sxB K file C fI f B newId initId bmB = true) : SxT K file C fI f B newId initId bmB := by
  unfold sxB at h
  simp only [Bool.and_eq_true, decide_eq_true_eq] at h
  obtain ⟨h1, h2, h3, h4, h5, h6, h7, h8, h9, h10, h11, h12, h13, h14, h15, h16, h17⟩ := h
  refine ⟨h1, h2, h3, h4, h5, h6, h7, h8, h9, h10, h11, h12, h13, h14, h15, ?_, h16⟩
  split at h17
  · rename_i o oc od fd osl e
    obtain ⟨cc, D⟩ := sxFdB_ok h17
    exact ⟨oc, od, fd, osl, cc, e, D⟩
  · cases h17
end Lx
set_option Elab.async false
set_option linter.all false
set_option maxRecDepth 100000
set_option maxHeartbeats 2000000
/-! LxKw: keyword arguments kept in a dict by the def (**ways), and taken from one by the call (**m). -/
namespace Lx
open PySem PySem.W PySem.Calls PyProof.Rows

/-- what stands in the dict for the keywords -/
inductive KwE (w : World) : List (Str × Value) → List DictEntry → Prop
  | nil : KwE w [] []
  | cons {k : Str} {v : Value} {t : Tok} {kws : List (Str × Value)} {es : List DictEntry} : KwE w kws es → KwE w ((k, v) :: kws) (⟨hashStr w k, .str k t, v⟩ :: es)
theorem KwE.snoc {w : World} : ∀ {kws : List (Str × Value)} {es : List DictEntry} {k : Str} {v : Value} {t : Tok}, KwE w kws es → KwE w (kws ++ [(k, v)]) (es ++ [⟨hashStr w k, .str k t, v⟩])
  | _, _, _, _, _, .nil => .cons .nil
  | _, _, _, _, _, .cons r => .cons r.snoc
theorem KwE.length {w : World} : ∀ {kws : List (Str × Value)} {es : List DictEntry}, KwE w kws es → es.length = kws.length
  | _, _, .nil => rfl
  | _, _, .cons r => by rw [List.length_cons, List.length_cons, r.length]
theorem KwE.keys {w : World} : ∀ {kws : List (Str × Value)} {es : List DictEntry}, KwE w kws es → ∀ e ∈ es, ∃ k t, k ∈ kws.map (·.1) ∧ e.key = .str k t ∧ e.hash = hashStr w k
  | _, _, .nil => fun e he => nomatch he
  | _, _, .cons r => fun e he => by
    rcases List.mem_cons.mp he with rfl | he
    · exact ⟨_, _, List.mem_cons_self .., rfl, rfl⟩
    · obtain ⟨k, t, h1, h2, h3⟩ := r.keys e he
      exact ⟨k, t, List.mem_cons_of_mem _ h1, h2, h3⟩
theorem key_str (k : Str) (t : Tok) : L2.keyIs (Sum.inr k) (.str k t) = true := by simp [L2.keyIs, Value.isStrOf]
theorem KwE.pairs {P : Program} {w : World} : ∀ {kws : List (Str × Value)} {es : List DictEntry}, KwE w kws es → Pairs (L2.mixKind P w) es (kws.map fun p => ((Sum.inr p.1 : L2.Key), p.2))
  | _, _, .nil => .nil
  | _, _, .cons (k := k) (t := t) r => .cons (key_str k t) rfl r.pairs
theorem KwE.absent {w : World} {kws : List (Str × Value)} {es : List DictEntry} {n : Str} (r : KwE w kws es) (hn : n ∉ kws.map (·.1)) : ∀ e ∈ es, e.key.isStr n = false := fun e he => by
  obtain ⟨k, t, h1, h2, _⟩ := r.keys e he
  rw [h2]
  show (k == n) = false
  exact beq_eq_false_iff_ne.mpr fun z => hn (z ▸ h1)
theorem KwE.noref {w : World} {kws : List (Str × Value)} {es : List DictEntry} (r : KwE w kws es) : ∀ e ∈ es, e.refKey = false := fun e he => by
  obtain ⟨k, t, h1, h2, _⟩ := r.keys e he
  unfold DictEntry.refKey
  rw [h2]
theorem putL_absent {n : Str} {h : Int} {k v : Value} : ∀ {es : List DictEntry}, (∀ e ∈ es, e.key.isStr n = false) → putL n h k v es = es ++ [⟨h, k, v⟩]
  | [], _ => rfl
  | e :: es, a => by
    unfold putL
    rw [a e (List.mem_cons_self ..), if_neg Bool.false_ne_true, putL_absent fun x hx => a x (List.mem_cons_of_mem _ hx)]
    rfl

section
variable {P : Program} {w : World} {A : Around} {E : Value → Shared → Prop}
/-- one more name -/
theorem ns_put {d : Addr} {n : Str} {v : Value} {es : List DictEntry} {m : Nat} {Q : Unit → Shared → Prop} {h : Heap} {g : Array GenState} {dr : Drawn} {t : Nat} {os : OsState} (hd : h.get? d = some (dictOf es m)) (ha : ∀ e ∈ es, e.key.isStr n = false) (hr : ∀ e ∈ es, e.refKey = false)
    (hq : Q () ⟨h.update d (Obj.putName n (hashStr w n) (.str n t) v), g, dr, t + 1, os⟩) : wpAny (model P w) A (nsSet d n v) Q E ⟨h, g, dr, t, os⟩ := by
  unfold nsSet
  refine wpAny_bind (wpAny_bind (wpAny_askSetting (wpAny_pure (wpAny_bind (wpAny_mkText (wpAny_bind (wpAny_loadPart hd ?_)))))))
  dsimp only
  have c : (!es.toArray.any (·.key.isStr n) && es.toArray.any (·.refKey)) = false := by
    have z : es.toArray.any (·.refKey) = false := by
      rw [← Array.any_toList]
      cases e : es.any (·.refKey) with
      | false => rfl
      | true =>
        obtain ⟨x, hx, hx'⟩ := List.any_eq_true.mp e
        rw [hr x hx] at hx'
        cases hx'
    rw [z, Bool.and_false]
  rw [aRefKeyMayBeTheName_at, c]
  exact wpAny_updatePart hd hq
/-- the names of a list, one behind the other -/
theorem ns_puts {d : Addr} : ∀ {rest done : List (Str × Value)} {es : List DictEntry} {m : Nat} {Q : PUnit → Shared → Prop} {h : Heap} {g : Array GenState} {dr : Drawn} {t : Nat} {os : OsState}, h.get? d = some (dictOf es m) → KwE w done es → ((done ++ rest).map (·.1)).Nodup →
    (∀ h' t' es' m', h'.get? d = some (dictOf es' m') → KwE w (done ++ rest) es' → (∀ b, b ≠ d → h'.get? b = h.get? b) → h'.objs.size = h.objs.size → Q PUnit.unit ⟨h', g, dr, t', os⟩) →
    wpAny (model P w) A (forIn rest PUnit.unit fun x _ => do nsSet d x.1 x.2; pure (ForInStep.yield PUnit.unit)) Q E ⟨h, g, dr, t, os⟩
  | [], done, es, m, Q, h, g, dr, t, os, hd, r, nd, hq => by
    rw [List.forIn_nil]
    exact wpAny_pure (hq h t es m hd (by rw [List.append_nil]; exact r) (fun _ _ => rfl) rfl)
  | (k, v) :: rest, done, es, m, Q, h, g, dr, t, os, hd, r, nd, hq => by
    rw [List.forIn_cons]
    have nk : k ∉ done.map (·.1) := fun z => by
      rw [List.map_append, List.nodup_append] at nd
      exact nd.2.2 k z k (by simp) rfl
    have ab := r.absent nk
    refine wpAny_bind (wpAny_bind (ns_put hd ab r.noref ?_))
    have hd' : (h.update d (Obj.putName k (hashStr w k) (.str k t) v)).get? d = some (dictOf (es ++ [⟨hashStr w k, .str k t, v⟩]) (putN k es m)) := by
      rw [Heap.get?_update_self _ hd (by rw [putName_dict]; rfl), putName_dict, putL_absent ab]
    refine wpAny_pure ?_
    refine ns_puts (done := done ++ [(k, v)]) hd' r.snoc (by rw [List.append_assoc]; exact nd) fun h' t' es' m' e1 e2 e3 e4 => ?_
    exact hq h' t' es' m' e1 (by rw [List.append_assoc] at e2; exact e2) (fun b hb => (e3 b hb).trans (Heap.get?_update_ne _ _ _ _ hb)) (e4.trans (Heap.size_update ..))
/-- the dict that a **ways gets -/
def kwDict (kws : List (Str × Value)) : Sem Addr := do
  let d ← alloc { cls := .type "dict", data := .dict #[] }
  forIn kws PUnit.unit fun x _ => do nsSet d x.1 x.2; pure (ForInStep.yield PUnit.unit)
  pure d
theorem kw_dict {kws : List (Str × Value)} {Q : Addr → Shared → Prop} {h : Heap} {g : Array GenState} {dr : Drawn} {t : Nat} {os : OsState} (nd : (kws.map (·.1)).Nodup)
    (hq : ∀ h' t' es m, h'.get? h.objs.size = some (dictOf es m) → KwE w kws es → (∀ b o, h.get? b = some o → h'.get? b = some o) → h'.objs.size = h.objs.size + 1 → Q h.objs.size ⟨h', g, dr, t', os⟩) :
    wpAny (model P w) A (kwDict kws) Q E ⟨h, g, dr, t, os⟩ := by
  unfold kwDict
  refine wpAny_bind (wpAny_alloc (wpAny_bind ?_))
  refine ns_puts (done := []) (es := []) (m := 0) (Heap.get?_push_at rfl rfl) .nil nd fun h' t' es m e1 e2 e3 e4 => wpAny_pure (hq h' t' es m e1 e2 (fun b o e => ?_) (e4.trans (Heap.size_push ..)))
  rw [e3 b (Nat.ne_of_lt (Heap.lt_size e))]
  exact Heap.get?_push_of_some _ e
end
end Lx
set_option Elab.async false
set_option linter.all false
set_option maxRecDepth 100000
set_option maxHeartbeats 2000000
/-! LxKwM: **m at a call. -/
namespace Lx
open PySem PySem.W PySem.Calls PyProof.Rows

theorem KwE.take {w : World} : ∀ {kws : List (Str × Value)} {es : List DictEntry} (i : Nat), KwE w kws es → KwE w (kws.take i) (es.take i)
  | _, _, 0, _ => .nil
  | _, _, _ + 1, .nil => .nil
  | _, _, i + 1, .cons r => .cons (r.take i)
theorem KwE.at_ {w : World} : ∀ {kws : List (Str × Value)} {es : List DictEntry} {i : Nat} {e : DictEntry}, KwE w kws es → es[i]? = some e → ∃ k v t, kws[i]? = some (k, v) ∧ e = ⟨hashStr w k, .str k t, v⟩
  | _, _, i, e, .nil, h => by simp at h
  | _, _, 0, e, .cons (k := k) (v := v) (t := t) r, h => ⟨k, v, t, rfl, by simpa using h.symm⟩
  | _, _, i + 1, e, .cons r, h => by
    rw [List.getElem?_cons_succ] at h
    have h' := h
    obtain ⟨k, v, t, e1, e2⟩ := r.at_ h'
    exact ⟨k, v, t, by simpa using e1, e2⟩
theorem KwE.exact {w : World} {kws : List (Str × Value)} {es : List DictEntry} (r : KwE w kws es) : (es.toArray.all fun e => isExactStrKey e.key) = true := by
  rw [← Array.all_toList]
  refine List.all_eq_true.mpr fun e he => ?_
  obtain ⟨k, t, _, h2, _⟩ := r.keys e he
  rw [h2]
  rfl
theorem KwE.find {w : World} {kws : List (Str × Value)} {es : List DictEntry} {n : Str} (r : KwE w kws es) (hn : n ∉ kws.map (·.1)) : (es.toArray.findIdx? fun e => e.key.isStr n) = none := by
  rw [List.findIdx?_toArray, List.findIdx?_eq_none_iff]
  exact fun e he => r.absent hn e he
theorem nodup_take {α : Type} {l : List α} {i : Nat} {x : α} (nd : l.Nodup) (h : l[i]? = some x) : x ∉ l.take i := fun z => by
  obtain ⟨j, hj, e⟩ := List.mem_take_iff_getElem.mp z
  obtain ⟨hi, e2⟩ := List.getElem?_eq_some_iff.mp h
  have q := (List.getElem_inj (h₀ := by omega) (h₁ := hi) nd).mp (e.trans e2.symm)
  omega

section
variable {P : Program} {w : World} {A : Around} {E : Value → Shared → Prop}
theorem put_new {d : Addr} {n : Str} {tk : Tok} {v : Value} {es : List DictEntry} {m : Nat} {kws : List (Str × Value)} {Q : Unit → Shared → Prop} {h : Heap} {g : Array GenState} {dr : Drawn} {t : Nat} {os : OsState} (hd : h.get? d = some (dictOf es m)) (r : KwE w kws es) (hn : n ∉ kws.map (·.1)) (hz : es.length ≤ sizeLine)
    (hq : ∀ h', h'.get? d = some (dictOf (es ++ [⟨hashStr w n, .str n tk, v⟩]) (m + 1)) → (∀ b, b ≠ d → h'.get? b = h.get? b) → h'.objs.size = h.objs.size → Q () ⟨h', g, dr, t, os⟩) :
    wpAny (model P w) A (dictPut d (hashStr w n) (.str n tk) v) Q E ⟨h, g, dr, t, os⟩ := by
  unfold dictPut
  refine wpAny_bind (KTD.kt_dictFind_strs hd rfl r.exact ?_)
  rw [r.find hn]
  refine wpAny_updateDictKeys hd rfl (hq _ ?_ (fun b hb => Heap.get?_update_ne _ _ _ _ hb) (Heap.size_update ..)) (by rw [List.size_toArray]; exact hz) (by simp)
  rw [Heap.get?_update_self _ hd (by rfl)]
  show some (Obj.mapDictKeys _ (dictOf es m)) = _
  unfold Obj.mapDictKeys dictOf
  simp
/-- a dict of names laid into an empty one, for a call -/
theorem merge_kw {d a : Addr} {oa : Obj} {es : List DictEntry} {m : Nat} {kws : List (Str × Value)} {Q : Unit → Shared → Prop} {h : Heap} {g : Array GenState} {dr : Drawn} {t : Nat} {os : OsState} (hd : h.get? d = some (dictOf [] 0)) (ha : h.get? a = some oa) (hc : oa.cls = .type "dict") (hda : oa.data = .dict es.toArray m)
    (r : KwE w kws es) (nd : (kws.map (·.1)).Nodup) (hz : es.length ≤ sizeLine) (hne : a ≠ d) (hs : (a == sysModules) = false)
    (hq : ∀ h' es' m', h'.get? d = some (dictOf es' m') → KwE w kws es' → (∀ b, b ≠ d → h'.get? b = h.get? b) → h'.objs.size = h.objs.size → Q () ⟨h', g, dr, t, os⟩) :
    wpAny (model P w) A (mergeMapping d (.ref a) true) Q E ⟨h, g, dr, t, os⟩ := by
  have hT : Shared.TypeIs ⟨h, g, dr, t, os⟩ (.ref a) "dict" := ⟨oa, ha, hc⟩
  unfold mergeMapping
  refine wpAny_bind (wpAny_isInstance hT PySem.F.sub_dict_dict ?_)
  extract_lets jp
  rw [if_pos rfl]
  refine wpAny_bind (wpAny_specialOf hT PySem.F.slot_dict_iter.lookup ?_)
  have e0 : (some (Value.builtin "dict.__iter__") == some (Value.builtin "dict.__iter__")) = true := by decide
  rw [e0]
  show wpAny _ _ (jp true) _ _ _
  dsimp only [jp]
  rw [hs, if_neg Bool.false_ne_true]

  refine wpAny_bind (wpAny_dictEntries hd rfl ?_)
  rw [if_pos (show (#[] : Array DictEntry).isEmpty = true from rfl)]
  refine wpAny_bind (wpAny_dictEntries ha hda ?_)
  refine wpAny_bind ?_
  refine wpAny_mono (Q := fun _ s' => s' = ⟨h, g, dr, t, os⟩) (E := E) ?loop ?_ (fun _ _ z => z)
  case loop =>
    rw [← Array.forIn_toList]
    refine wpAny_forIn_list _ (fun l _ s' => (∀ e ∈ l, e.refKey = false) ∧ s' = ⟨h, g, dr, t, os⟩) _ (fun x rest b s' I => ?_) (fun b s' I => I.2) _ _ ⟨fun e he => r.noref e he, rfl⟩
    obtain ⟨I1, rfl⟩ := I
    have q := I1 x (List.mem_cons_self ..)
    have fin : wpAny (model P w) A (pure (ForInStep.yield PUnit.unit)) (fun r s' => match r with | .yield b' => (fun l _ s' => (∀ e ∈ l, e.refKey = false) ∧ s' = (⟨h, g, dr, t, os⟩ : Shared)) rest b' s' | .done b' => s' = (⟨h, g, dr, t, os⟩ : Shared)) E ⟨h, g, dr, t, os⟩ :=
      wpAny_pure ⟨fun e he => I1 e (List.mem_cons_of_mem _ he), rfl⟩
    unfold DictEntry.refKey at q
    split
    · rename_i k e
      rw [e] at q
      cases q
    · exact fin
  rintro _ _ rfl
  refine wpAny_bind (wpAny_dictEntries ha hda ?_)
  refine wpAny_bind (wpAny_dictEpoch ha hda ?_)
  refine wpAny_bind ?_
  have sz : es.toArray.size = es.length := List.size_toArray ..
  rw [sz]
  refine wpAny_forIn_list _ (fun l _ s' => ∃ i h' es' m', l = List.range' i (es.length - i) ∧ i ≤ es.length ∧ s' = ⟨h', g, dr, t, os⟩ ∧ h'.get? d = some (dictOf es' m') ∧ KwE w (kws.take i) es' ∧ (∀ b, b ≠ d → h'.get? b = h.get? b) ∧ h'.objs.size = h.objs.size) _
    (fun x rest b s' I => ?_) (fun b s' I => ?_) _ _ ⟨0, h, [], 0, (List.range_eq_range' ..), Nat.zero_le _, rfl, hd, .nil, fun _ _ => rfl, rfl⟩
  · obtain ⟨i, h', es', m', el, hi, rfl, e1, e2, e3, e4⟩ := I
    have hlt : i < es.length := by
      rcases Nat.lt_or_ge i es.length with z | z
      · exact z
      · rw [Nat.sub_eq_zero_of_le z] at el
        simp at el
    obtain ⟨rfl, erest⟩ : x = i ∧ rest = List.range' (i + 1) (es.length - (i + 1)) := by
      have e : es.length - i = (es.length - (i + 1)) + 1 := by omega
      rw [e, List.range'_succ] at el
      injection el with z1 z2
      exact ⟨z1, z2⟩
    obtain ⟨en, hen⟩ : ∃ en, es[x]? = some en := ⟨_, List.getElem?_eq_getElem hlt⟩
    obtain ⟨k, v, tk, hk, rfl⟩ := r.at_ hen
    have ha' : h'.get? a = some oa := (e3 a hne).trans ha
    have nk : k ∉ (kws.take x).map (·.1) := by
      rw [List.map_take]
      exact nodup_take nd (by rw [List.getElem?_map, hk]; rfl)
    have hl : es'.length ≤ sizeLine := by
      rw [e2.length, List.length_take]
      have := r.length
      omega
    refine wpAny_bind (wpAny_dictEntries ha' hda ?_)
    rw [List.getElem?_toArray, hen]
    dsimp only
    refine wpAny_bind (wpAny_holding ?_)
    rw [if_pos rfl]
    refine wpAny_bind (KTD.kt_dictFind_strs e1 rfl e2.exact ?_)
    rw [e2.find nk]
    rw [if_neg (by simp)]
    refine put_new e1 e2 nk hl fun h'' f1 f2 f3 => ?_
    have ha'' : h''.get? a = some oa := (f2 a hne).trans ha'
    refine wpAny_bind (wpAny_dictEpoch ha'' hda ?_)
    rw [if_neg (by simp)]
    refine wpAny_pure ⟨x + 1, h'', _, _, erest, hlt, rfl, f1, ?_, fun b hb => (f2 b hb).trans (e3 b hb), f3.trans e4⟩
    rw [List.take_add_one, hk]
    exact e2.snoc
  · obtain ⟨i, h', es', m', el, hi, rfl, e1, e2, e3, e4⟩ := I
    have hl : i = es.length := by
      have q : (List.range' i (es.length - i)).length = 0 := by rw [← el]; rfl
      rw [List.length_range'] at q
      omega
    subst hl
    rw [r.length, List.take_length] at e2
    exact wpAny_pure (hq h' es' m' e1 e2 e3 e4)
end
end Lx
set_option Elab.async false
set_option linter.all false
set_option maxRecDepth 100000
set_option maxHeartbeats 2000000
/-! LxKwC: a call with **m, a def with **ways. -/
namespace Lx
open PySem PySem.W PySem.Calls PyProof.Rows

section
variable {P : Program} {w : World} {A : Around} {E : Value → Shared → Prop} {s : Shared}
theorem kw_in {f : Value} {d : Addr} {es : List DictEntry} {m : Nat} {kws : List (Str × Value)} {Q : List (Str × Value) → Shared → Prop} (hd : s.heap.get? d = some (dictOf es m)) (r : KwE w kws es) (hq : Q kws s) : wpAny (model P w) A (keywordsIn f d) Q E s := by
  unfold keywordsIn
  refine wpAny_bind (wpAny_dictEntries hd rfl (wpAny_bind ?_))
  rw [← Array.forIn_toList]
  refine wpAny_forIn_list _ (fun l acc s' => ∃ done rest, KwE w rest l ∧ done ++ rest = kws ∧ acc = done ∧ s' = s) _ (fun x rest b s' I => ?_) (fun b s' I => ?_) _ _ ⟨[], kws, r, rfl, rfl, rfl⟩
  · obtain ⟨done, rs, h1, h2, rfl, rfl⟩ := I
    cases h1 with
    | cons h1 =>
      rename_i k v t kws'
      exact wpAny_pure ⟨b ++ [(k, v)], kws', h1, by rw [List.append_assoc]; exact h2, rfl, rfl⟩
  · obtain ⟨done, rs, h1, h2, rfl, rfl⟩ := I
    cases h1
    rw [List.append_nil] at h2
    subst h2
    exact wpAny_pure hq
theorem evalArgs_m {M : Model} {f : Value} {args : List (Bool × Sem Value)} {kws : List (Option Str × Sem Value)} {Q : Args → Shared → Prop} (hs : args.any (·.1) = false) (hk : kws.all (·.1.isSome) = false)
    (h : wpAny M A (spliced args) (fun vs s1 => wpAny M A (mergedKeywords f kws) (fun d s2 => wpAny M A (keywordsIn f d) (fun kw s3 => Q ⟨vs, kw⟩ s3) E s2) E s1) E s) : wpAny M A (evalArgs f true args kws) Q E s := by
  have key : evalArgs f true args kws = (do
      let vs ← spliced args
      holding (vs ++ (none : Option Value).toList) (do
        let d ← mergedKeywords f kws
        let pos ← (pure vs : Sem (List Value))
        return ⟨pos, ← holding (.ref d :: pos) (keywordsIn f d)⟩)) := by
    unfold evalArgs
    rcases args with _ | ⟨⟨b, x⟩, rest⟩
    · simp [hk]
    · have hb : b = false := by
        simp only [List.any_cons, Bool.or_eq_false_iff] at hs
        exact hs.1
      subst hb
      simp [hk]
  rw [key]
  refine wpAny_bind (wpAny_mono h (fun vs s1 h1 => wpAny_holding (wpAny_bind (wpAny_mono h1 (fun d s2 h2 => wpAny_bind (wpAny_pure (wpAny_bind (wpAny_holding (wpAny_mono h2 (fun kw s3 h3 => wpAny_pure h3) fun _ _ z => z))))) fun _ _ z => z))) fun _ _ z => z)
theorem call_m {M : Model} {f : Value} {first : List Value} {pos : Pos} {Q : Value → Shared → Prop} {P : Heap → Prop} {args : List (Bool × Sem Value)} {kws : List (Option Str × Sem Value)} (hst : kws.any (·.1.isNone) = true)
    (hk : ∀ h, P h → ∃ k, (k = Keeper.frame ∨ k = Keeper.machine ∨ k = Keeper.boundFrame) ∧ Looks M h (keeperOf f) k)
    (h : wpAny M A (evalArgs f true args kws) (fun a s₁ => P s₁.heap ∧ wpAny M A (call f (first ++ a.pos) a.kw) Q E s₁) E s) : wpAny M A (callWith pos f first args kws) Q E s := by
  unfold callWith
  refine wpAny_bind (wpAny_holding (wpAny_mono h (fun a s₁ h₁ => wpAny_bind (wpAny_standAt ?_)) fun _ _ x => x))
  obtain ⟨k, hk', L⟩ := hk _ h₁.1
  simp only [hst, Bool.or_true]
  refine wpAny_bind (L.here ?_)
  have out : ∀ {t : Sem Value}, wpAny M A t Q E s₁ → wpAny M A (t >>= fun r => holding [r] point >>= fun _ => pure r) Q E s₁ :=
    fun ht => wpAny_bind (wpAny_mono ht (fun r s₂ hr => wpAny_bind (wpAny_holding (wpAny_point (wpAny_pure hr)))) fun _ _ x => x)
  rcases hk' with rfl | rfl | rfl
  · exact out (by unfold callMarked; exact Calls.wpAny_keep h₁.2)
  · exact out (wpAny_operating h₁.2)
  · exact out (wpAny_operating h₁.2)
/-- one **m and nothing else by name -/
theorem merged_one {f : Value} {x : Sem Value} {kws : List (Str × Value)} {Q : Addr → Shared → Prop} {h : Heap} {g : Array GenState} {dr : Drawn} {t : Nat} {os : OsState}
    (hx : wpAny (model P w) A x (fun v s1 => ∃ t1 a oa es m, v = .ref a ∧ s1 = ⟨h.push (dictOf [] 0), g, dr, t1, os⟩ ∧ h.get? a = some oa ∧ oa.cls = .type "dict" ∧ oa.data = .dict es.toArray m ∧ KwE w kws es ∧ (kws.map (·.1)).Nodup ∧ es.length ≤ sizeLine ∧ (a == sysModules) = false) E ⟨h.push (dictOf [] 0), g, dr, t, os⟩)
    (hq : ∀ h' t' es' m', h'.get? h.objs.size = some (dictOf es' m') → KwE w kws es' → (∀ b o, h.get? b = some o → h'.get? b = some o) → Q h.objs.size ⟨h', g, dr, t', os⟩) :
    wpAny (model P w) A (mergedKeywords f [(none, x)]) Q E ⟨h, g, dr, t, os⟩ := by
  unfold mergedKeywords
  refine wpAny_bind (wpAny_alloc (wpAny_bind (wpAny_holding ?_)))
  extract_lets merge group g0
  have hg : group [] = pure () := rfl
  refine wpAny_bind ?_
  rw [List.forIn_cons]
  refine wpAny_bind ?_
  dsimp only
  rw [show group g0 = pure () from rfl]
  refine wpAny_bind (wpAny_pure (wpAny_bind (wpAny_mono hx (fun v s1 h1 => ?_) fun _ _ z => z)))
  obtain ⟨t1, a, oa, es, m, rfl, rfl, ha, hc, hda, r, nd, hz, hs⟩ := h1
  refine wpAny_bind (wpAny_onRaise ?_)
  show wpAny _ _ (merge (.ref a)) _ _ _
  have lt := Heap.lt_size ha
  refine wpAny_holding (wpAny_tryCatch (wpAny_onRaise ?_))
  refine merge_kw (Heap.get?_push_at rfl rfl) (Heap.get?_push_of_some _ ha) hc hda r nd hz (Nat.ne_of_lt lt) hs fun h' es' m' e1 e2 e3 e4 => ?_
  refine wpAny_pure (wpAny_pure ?_)
  rw [show group g0 = pure () from rfl]
  refine wpAny_pure (wpAny_pure (hq h' t1 es' m' e1 e2 fun b o e => ?_))
  rw [e3 b (Nat.ne_of_lt (Heap.lt_size e))]
  exact Heap.get?_push_of_some _ e
end

/-! ### in the calculus -/
open L2
/-- the keywords of a call, and what the machine has for them -/
def KwR : List (Str × V) → List (Str × Value) → Prop := Paired fun (p : Str × V) (q : Str × Value) => p.1 = q.1 ∧ RelV p.2 q.2
/-- names as a dict's keys -/
abbrev kwK (kvs : List (Str × V)) : List (Key × V) := kvs.map fun p => ((Sum.inr p.1 : Key), p.2)
theorem KwR.names : ∀ {kvs : List (Str × V)} {kws : List (Str × Value)}, KwR kvs kws → kvs.map (·.1) = kws.map (·.1)
  | _, _, .nil => rfl
  | _, _, .cons h r => by rw [List.map_cons, List.map_cons, h.1, KwR.names r]
theorem KwR.kv : ∀ {kvs : List (Str × V)} {kws : List (Str × Value)}, KwR kvs kws → KV (kwK kvs) (kws.map fun p => ((Sum.inr p.1 : Key), p.2))
  | _, _, .nil => .nil
  | _, _, .cons h r => .cons ⟨congrArg (fun z : Str => (Sum.inr z : Key)) h.1, h.2⟩ (KwR.kv r)
theorem inr_nodup {kws : List (Str × Value)} (nd : (kws.map (·.1)).Nodup) : ((kws.map fun p => ((Sum.inr p.1 : Key), p.2)).map (·.1)).Nodup := by
  rw [List.map_map]
  have e : (kws.map ((fun q : Key × Value => q.1) ∘ fun p => ((Sum.inr p.1 : Key), p.2))) = (kws.map (·.1)).map (Sum.inr : Str → Key) := by
    rw [List.map_map]
    rfl
  rw [e]
  exact List.Pairwise.map (Sum.inr : Str → Key) (fun a b h z => h (Sum.inr.inj z)) nd
theorem kw_ok {P : Program} {w : World} {H : Hp} {h : Heap} {d : Addr} {es : List DictEntry} {m : Nat} {kvs : List (Str × V)} {kws : List (Str × Value)} (hd : h.get? d = some (dictOf es m)) (r : KwE w kws es) (rk : KwR kvs kws) (nd : (kws.map (·.1)).Nodup) (hz : kvs.length ≤ sizeLine) (hb : sysModules < d) :
    ObjOk P w H h d (.dK (kwK kvs)) := by
  refine ⟨by rw [List.length_map]; exact hz, beq_eq_false_iff_ne.mpr (Nat.ne_of_gt hb), kws.map fun p => ((Sum.inr p.1 : Key), p.2), rk.kv, _, es.toArray, m, hd, ⟨rfl, rfl, rfl⟩, rfl, ?_, ?_, inr_nodup nd⟩
  · intro e he
    obtain ⟨k, t, _, h2, h3⟩ := r.keys e (by simpa using he)
    exact ⟨Sum.inr k, by rw [h2]; exact key_str k t, h3⟩
  · exact r.pairs
/-- what a tracked dict of names is -/
theorem kw_of {P : Program} {w : World} : ∀ {kvs : List (Str × V)} {es : List DictEntry} {vs : List (Key × Value)}, (∀ e ∈ es, ∃ k : Key, keyIs k e.key = true ∧ e.hash = keyH w k) → Pairs (mixKind P w) es vs → KV (kwK kvs) vs → ∃ kws, KwR kvs kws ∧ KwE w kws es := by
  intro kvs
  induction kvs with
  | nil =>
    intro es vs _ hp hr
    cases hr
    cases hp
    exact ⟨[], .nil, .nil⟩
  | cons p kvs ih =>
    intro es vs hk hp hr
    obtain ⟨k, v⟩ := p
    cases hr with
    | cons h4 h5 =>
      cases hp with
      | cons h1 h2 h3 =>
        rename_i q vs' e es'
        obtain ⟨k', u⟩ := q
        obtain ⟨kws, r1, r2⟩ := ih (fun e he => hk e (List.mem_cons_of_mem _ he)) h3 h5
        obtain ⟨e1, e2⟩ := h4
        have e1' : k' = (Sum.inr k : Key) := e1.symm
        subst e1'
        have h1' : Value.isStrOf k e.key = true := h1
        obtain ⟨t, ht⟩ := Value.isStrOf_shape h1'
        obtain ⟨k2, hk2, hh⟩ := hk e (List.mem_cons_self ..)
        obtain rfl : k2 = (Sum.inr k : Key) := (mixKind P w).inj e.key k2 (Sum.inr k) hk2 h1
        have e3 : e.val = u := h2
        obtain ⟨hs, ky, vl⟩ := e
        dsimp only at ht hh e3
        subst ht hh e3
        exact ⟨(k, vl) :: kws, .cons ⟨rfl, e2⟩ r1, .cons r2⟩
theorem kw_nodup : ∀ {kvs : List (Str × V)} {vs : List (Key × Value)}, KV (kwK kvs) vs → (vs.map (·.1)).Nodup → (kvs.map (·.1)).Nodup := fun {kvs vs} r nd => by
  have e : vs.map (·.1) = (kvs.map (·.1)).map (Sum.inr : Str → Key) := by
    clear nd
    induction kvs generalizing vs with
    | nil =>
      cases r
      rfl
    | cons p kvs ih =>
      cases r with
      | cons h r => rw [List.map_cons, List.map_cons, List.map_cons, ← h.1, ih r]
  rw [e] at nd
  exact List.Pairwise.of_map (Sum.inr : Str → Key) (fun a b h z => h (congrArg _ z)) nd
end Lx
set_option Elab.async false
set_option linter.all false
set_option maxRecDepth 100000
set_option maxHeartbeats 2000000
/-! LxKwF: the promise of a def with **ways, and calls of it. -/
namespace Lx
open PySem PySem.W PySem.Calls PyProof.Rows L2 StX

/-- a promise told of the positional values and of those by name -/
abbrev SpW := List V → List (Str × V) → Hp → VK → XK → Prop
def FnW (P : Program) (w : World) (K : Frag) (mg : Str → Option Value) (base : Heap) (CX : CXT) (k : Nat) (f : Addr) (sp : SpW) : Prop :=
  ∀ (A : Around) (outer : List Env) (s : Shared) (H : Hp) (us : List Value) (vs : List V) (kws : List (Str × Value)) (kvs : List (Str × V)) (Q : VK) (E : XK), Room k A → Env0 P w K mg base A outer s H → Vals vs us → KwR kvs kws → (kws.map (·.1)).Nodup → sp vs kvs H Q E →
    codeAny (model P w) A (.call (.ref f) ⟨us, kws⟩) (CR CX outer P w H s Q E) s
theorem FnW.mono {P : Program} {w : World} {K : Frag} {mg : Str → Option Value} {base : Heap} {CX : CXT} {j k : Nat} {f : Addr} {sp : SpW} (F : FnW P w K mg base CX j f sp) (h : j ≤ k) : FnW P w K mg base CX k f sp := fun A outer s H us vs kws kvs Q E hr => F A outer s H us vs kws kvs Q E (hr.mono h)
section
variable {P : Program} {w : World} {K : Frag} {mg : Str → Option Value} {base : Heap} {A : Around} {outer : List Env} {s : Shared} {H : Hp}
theorem env0_new {s2 : Shared} {d : Addr} {u : HO} (e0 : Env0 P w K mg base A outer s H) (kp : ∀ b x, s.heap.get? b = some x → s2.heap.get? b = some x) (hd : s.heap.objs.size ≤ d) (hz : s.heap.objs.size ≤ s2.heap.objs.size) (hg : AllBare s2.gens) (new : ObjOk P w (upd H d u) s2.heap d u) :
    Env0 P w K mg base A outer s2 (upd H d u) := by
  refine ⟨e0.frames, e0.mod, fun b x e => ⟨kp b x (e0.bs b x e).1, ?_⟩, Nat.le_trans e0.bsz hz, Heap.FunFrames.of_keeps (fun b x e _ => ⟨x, kp b x e, rfl⟩) e0.funs, fun b hb => ?_, e0.hok.laid kp hd new, hg⟩
  · rw [upd_ne (Nat.ne_of_lt (Nat.lt_of_lt_of_le (Heap.lt_size (e0.bs b x e).1) hd))]
    exact (e0.bs b x e).2
  · obtain ⟨_, x, hx, _⟩ := e0.funs.mem hb
    rw [upd_ne (Nat.ne_of_lt (Nat.lt_of_lt_of_le (Heap.lt_size hx) hd))]
    exact e0.frf b hb
end
section
variable {CX : CXT} {P : Program} {w : World} {K : Frag} {mg : Str → Option Value} {base : Heap} {k : Nat} {f : Addr} {name qual : Str} {params : Arguments} {body : List Stmt} {scope : Scope} {dV kV doc pm cdv ct oc : Value} {an od : Option Addr}
  {osl : Array (Option Value)} {N ps : List Str} {sp : Sp}
/-- how the def binds: ws the named parameters' values, rest what the dict gets -/
def KwBind (P : Program) (w : World) (K : Frag) (fd : FuncData) (ps : List Str) (pd : Str) (G : List V → List (Str × V) → List V → List (Str × V) → Prop) : Prop :=
  ∀ (vs : List V) (us : List Value) (kvs : List (Str × V)) (kws : List (Str × Value)) (ws : List V) (rest : List (Str × V)), G vs kvs ws rest → Vals vs us → KwR kvs kws → (kws.map (·.1)).Nodup → rest.length ≤ sizeLine →
    ∃ xs rs, Vals ws xs ∧ KwR rest rs ∧ (rs.map (·.1)).Nodup ∧ ws.length = ps.length ∧ ∀ (A' : Around) (Ex : Value → Shared → Prop) (Q : List (Str × Value) → Shared → Prop) (s : Shared), K.In s.heap →
      wpAny (model P w) A' (kwDict rs) (fun d s' => Q (ps.zip xs ++ [(pd, .ref d)]) s') Ex s → wpAny (model P w) A' (bindArgs fd ⟨us, kws⟩) Q Ex s
theorem fn_kw {pd : Str} {G : List V → List (Str × V) → List V → List (Str × V) → Prop} (lk : K.lookup f = some ⟨oc, od, .func (fnOf name qual params body scope dV kV doc pm an cdv ct), osl⟩) (hcd : codeIn K cdv qual = true) (S : FnScope N (ps ++ [pd]) scope) (hCX : CXUp CX)
    (hb : KwBind P w K (fnOf name qual params body scope dV kV doc pm an cdv ct) ps pd G)
    (hbody : ∀ (A : Around) (outer : List Env) (s : Shared) (H : Hp) (vs : List V) (Q : VK) (E : XK), Room k (A.deeper (envOfC qual scope s.heap.objs.size f cdv)) → sp vs H Q E →
      ∃ t, PSs (cxOf CX P w K mg base N qual scope f cdv A outer s H E) body t ∧ t { nx := fun _ H' => Q .non H', rt := Q } (start N vs) H) :
    FnW P w K mg base CX (k + 1) f (fun vs kvs H Q E => ∃ ws rest, G vs kvs ws rest ∧ rest.length ≤ sizeLine ∧ ∀ d, H d = none → sp (ws ++ [V.ref d]) (upd H d (.dK (kwK rest))) Q E) := by
  intro A outer s H us vs kws kvs Q E hr e0 r rk nd hsp
  obtain ⟨ws, rest, hG, hz, hq⟩ := hsp
  obtain ⟨xs, rs, r1, r2, nd2, hl, hbind⟩ := hb vs us kvs kws ws rest hG r rk nd hz
  have KX : K.In s.heap := e0.mod.kin.keeps fun b o e => (e0.bs b o e).1
  refine run_bnd lk hcd S hr e0 (G := fun ys H2 => ∃ d, H d = none ∧ ys = ws ++ [V.ref d] ∧ H2 = upd H d (.dK (kwK rest))) (fun A' Ex Q' h => ?_) fun s2 H2 ys ⟨d, hd, ex, eH⟩ hr' => ?_
  · refine hbind A' Ex Q' s KX ?_
    have big := env0_big e0
    have bare := e0.bare
    obtain ⟨hp, g, dr, tk, os⟩ := s
    refine kw_dict nd2 fun h' t' es m e1 e2 e3 e4 => ?_
    have hn : H hp.objs.size = none := e0.hok.fresh (Nat.le_refl _)
    have new : ObjOk P w (upd H hp.objs.size (.dK (kwK rest))) h' hp.objs.size (.dK (kwK rest)) := kw_ok e1 e2 r2 nd2 hz big
    have e5 : Env0 P w K mg base A outer ⟨h', g, dr, t', os⟩ (upd H hp.objs.size (.dK (kwK rest))) := env0_new e0 e3 (Nat.le_refl _) (by show hp.objs.size ≤ h'.objs.size; rw [e4]; exact Nat.le_succ _) bare new
    have un : Un (frs outer) [] H (upd H hp.objs.size (.dK (kwK rest))) hp h' := Un.laid e3 (Nat.le_refl _) hn
    have z := h ⟨h', g, dr, t', os⟩ _ (ws ++ [V.ref hp.objs.size]) (xs ++ [Value.ref hp.objs.size]) e5 un rfl (fun e s' => hCX outer _ H _ _ E e s' un e3 rfl) (r1.append (.cons rfl .nil)) (by rw [List.length_append, List.length_append, hl] <;> rfl) ⟨_, hn, rfl, rfl⟩
    rw [List.zip_append (by rw [← r1.length, hl])] at z
    exact z
  · subst ex eH
    exact hbody A outer s2 _ _ Q E hr' (hq d hd)
end
end Lx
namespace Lx
open PySem PySem.Spec PyProof.Rows L2 StX
section
variable {X : Cx} {pins : List (Addr × Obj)} {σ : L2.St} {H : Hp} {s : Shared}
/-- a class that is called by a name -/
def CalP (X : Cx) (x : Str) (C : Addr) (g : L2.St → Prop) : Prop :=
  ∀ (pins : List (Addr × Obj)) (s : Shared) (σ : L2.St) (H : Hp) (p : Pos) (Q : Value → Shared → Prop) (E : Value → Shared → Prop), Inv X pins σ H s → g σ → Q (.ref C) s → wpAny (model X.prog X.w) X.A (eval (.Name x p) X.env) Q E s
theorem ld_slot {i : Nat} {x : Str} {p : Pos} {v : V} {Q : Value → Shared → Prop} {E : Value → Shared → Prop} (I : Inv X pins σ H s) (hN : X.N[i]? = some x) (hv : Vis X.env.scope x) (e : σ[i]? = some (some v)) (h : ∀ u, RelV v u → Q u s)
    (hd : (x == ("__debug__" : Str)) = false := by decide) (hcd : (x == ("__classdict__" : Str)) = false := by decide) : wpAny (model X.prog X.w) X.A (eval (.Name x p) X.env) Q E s := by
  obtain ⟨m, hn, hl⟩ := I.loc
  obtain ⟨u, r, l⟩ := hl i x v hN e hv
  rcases l with ⟨hk, hm⟩ | ⟨hk, c, hc, hcell⟩
  · exact wpAny_Name (wpAny_loadName_local I.ok.kind hk hn hm (h u r)) hd
  · rcases hk with hk | hk
    · exact wpAny_Name (wpAny_loadName_cell I.ok.kind hk hc hcell (h u r)) hd
    · exact wpAny_Name (wpAny_loadName_free I.ok.kind hk hc hcell (h u r) hcd) hd
theorem cal_glob {x : Str} {C : Addr} (hg : Gl X x) (hm : X.mg x = some (.ref C)) (hdb : (x == ("__debug__" : Str)) = false := by decide) : CalP X x C (fun _ => True) := fun pins s σ H p Q E I _ h => ld_glob I hg hm h hdb
theorem cal_slot {i : Nat} {x : Str} {C : Addr} (hN : X.N[i]? = some x) (hv : Vis X.env.scope x) (hd : (x == ("__debug__" : Str)) = false := by decide) (hcd : (x == ("__classdict__" : Str)) = false := by decide) : CalP X x C (fun σ => σ[i]? = some (some (.ref C))) :=
  fun pins s σ H p Q E I e h => ld_slot I hN hv e (fun u r => by
    obtain rfl : u = Value.ref C := r
    exact h) hd hcd
theorem kwR_zip : ∀ {ks : List Str} {zs : List V} {ws : List Value}, Vals zs ws → KwR (ks.zip zs) (ks.zip ws)
  | [], _, _, _ => .nil
  | _ :: _, _, _, .nil => .nil
  | _ :: _, _, _, .cons h r => .cons ⟨rfl, h⟩ (kwR_zip r)
theorem zip_nodup {α : Type} : ∀ {ks : List Str} {ws : List α}, ks.Nodup → ((ks.zip ws).map (·.1)).Nodup
  | [], _, _ => .nil
  | _ :: _, [], _ => .nil
  | k :: ks, w :: ws, nd => by
    have h := List.nodup_cons.mp nd
    refine List.nodup_cons.mpr ⟨fun z => h.1 ?_, zip_nodup h.2⟩
    obtain ⟨p, hp, e⟩ := List.mem_map.mp z
    have q := (List.of_mem_zip hp).1
    rw [show p.1 = k from e] at q
    exact q
end
/-- C(e, .., k = v, ..) -/
def tMakeW (C : Addr) (g : L2.St → Prop) (ks : List Str) (sp : SpW) (E : XK) (t tk : TA) : TE := fun σ H Q => g σ ∧ t σ H fun vs H1 => tk σ H1 fun zs H2 =>
  ∀ x dx, H2 x = none → H2 dx = none → dx ≠ x → sp (.ref x :: vs) (ks.zip zs) (upd (upd H2 dx (.own x)) x (.ins C dx [])) (fun v H3 => v = .non ∧ Q (.ref x) H3) E
/-- C(e, .., **m), m in slot i -/
def tMakeM (C : Addr) (g : L2.St → Prop) (i : Nat) (sp : SpW) (E : XK) (t : TA) : TE := fun σ H Q => g σ ∧ t σ H fun vs H1 => ∃ a kvs, σ[i]? = some (some (.ref a)) ∧ Rd H1 a (.dK (kwK kvs)) ∧
  ∀ x dx, H1 x = none → H1 dx = none → dx ≠ x → sp (.ref x :: vs) kvs (upd (upd H1 dx (.own x)) x (.ins C dx [])) (fun v H3 => v = .non ∧ Q (.ref x) H3) E
section
variable {X : Cx} {CX : CXT} {k : Nat} {f C : Addr} {g : L2.St → Prop} {ks : List Str} {sp : SpW} {E : XK} {x : Str} {p pos : Pos} {e : Expr} {es : List Expr} {kws : List Keyword} {t tk : TA}
theorem run_makeW {pins : List (Addr × Obj)} {σ : L2.St} {H : Hp} {s : Shared} {Q : VK} {us : List Value} {vs : List V} {kw : List (Str × Value)} {kvs : List (Str × V)} (M : Mk X.K C f) (F : FnW X.prog X.w X.K X.mg X.base CX k f sp) (hr : Room (k + 1) X.A) (hx : Passes CX X E) (I : Inv X pins σ H s) (r : Vals vs us) (rk : KwR kvs kw) (nd : (kw.map (·.1)).Nodup)
    (h : ∀ x dx, H x = none → H dx = none → dx ≠ x → sp (.ref x :: vs) kvs (upd (upd H dx (.own x)) x (.ins C dx [])) (fun v H2 => v = .non ∧ Q (.ref x) H2) E) :
    wpAny (model X.prog X.w) X.A (call (.ref C) us kw) (EP X pins σ Q) X.xe s := by
  have hq := h (s.heap.objs.size + 1) s.heap.objs.size (I.hok.fresh (Nat.le_succ _)) (I.hok.fresh (Nat.le_refl _)) (Nat.ne_of_lt (Nat.lt_succ_self _))
  have I2 := Inv.made (C := C) I
  have r1 : Vals (V.ref (s.heap.objs.size + 1) :: vs) (Value.ref (s.heap.objs.size + 1) :: us) := .cons rfl r
  refine wpAny_call (make_map (f := f) I.kIn M.makes M.init (beq_iff_eq.mp M.fn) (codeAny_mono (F _ X.stack _ _ (Value.ref (s.heap.objs.size + 1) :: us) _ kw kvs _ E (hr.make C us kw) (I2.env0.make C us kw) r1 rk nd hq) fun r s' hq' => ?_))
  cases r with
  | error e => exact hx pins σ _ _ e s' I2 hq'
  | ok fl =>
    cases fl with
    | ret u =>
      obtain ⟨v, H', I3, rv, ev, q3⟩ := I2.after hq'
      subst ev
      exact ⟨rv, ⟨V.ref (s.heap.objs.size + 1), H', I3, rfl, q3⟩⟩
    | next => exact False.elim hq'
    | brk => exact False.elim hq'
    | cont => exact False.elim hq'
theorem pe_makeW (cal : CalP X x C g) (M : Mk X.K C f) (F : FnW X.prog X.w X.K X.mg X.base CX k f sp) (hr : Room (k + 1) X.A) (hx : Passes CX X E)
    (ha : PA X (e :: es) t) (hkw : PK X kws tk) (nd : ks.Nodup := by decide) (hall : (backToKw pos (keywordEach kws X.env)).all (·.1.isSome) = true := by rfl) (hks : (backToKw pos (keywordEach kws X.env)).filterMap (·.1) = ks := by rfl)
    (he : starEach (e :: es) X.env = (false, eval e X.env) :: starEach es X.env := by rfl)
    (hpl : ((backTo pos (starEach (e :: es) X.env)).any (·.1) || (backToKw pos (keywordEach kws X.env)).any (·.1.isNone)) = false := by rfl) :
    PE X (.Call (.Name x p) (e :: es) kws pos) (tMakeW C g ks sp E t tk) := by
  refine ⟨fun pins s σ H Q I ⟨hg, h⟩ => ?_⟩
  refine wpAny_Call_Name_kw (cal pins s σ H p _ _ I hg ?_)
  refine PySem.W.callWith_KW (h₀ := X.base) I.ok.mod.kin M.kp hall (thn (ha.run pos pins s σ H _ I h) fun us s1 ⟨vs, H1, I1, r, q⟩ => ?_) hpl he
  refine thn (hkw.run pos pins s1 σ H1 _ I1 q) fun ws s2 ⟨zs, H2, I2, rz, q2⟩ => ⟨I2.kIn, ?_⟩
  rw [hks]
  exact run_makeW M F hr hx I2 r (kwR_zip rz) (zip_nodup nd) q2
theorem pe_makeW0 (cal : CalP X x C g) (M : Mk X.K C f) (F : FnW X.prog X.w X.K X.mg X.base CX k f sp) (hr : Room (k + 1) X.A) (hx : Passes CX X E)
    (hkw : PK X kws tk) (nd : ks.Nodup := by decide) (hall : (backToKw pos (keywordEach kws X.env)).all (·.1.isSome) = true := by rfl) (hks : (backToKw pos (keywordEach kws X.env)).filterMap (·.1) = ks := by rfl)
    (hpl : ((backTo pos (starEach [] X.env)).any (·.1) || (backToKw pos (keywordEach kws X.env)).any (·.1.isNone)) = false := by rfl) :
    PE X (.Call (.Name x p) [] kws pos) (tMakeW C g ks sp E tNil tk) := by
  refine ⟨fun pins s σ H Q I ⟨hg, h⟩ => ?_⟩
  refine wpAny_Call_Name_kw (cal pins s σ H p _ _ I hg ?_)
  refine PySem.W.callWith_KW0 (h₀ := X.base) I.ok.mod.kin M.kp hall ?_ hpl
  refine thn (hkw.run pos pins s σ H _ I h) fun ws s2 ⟨zs, H2, I2, rz, q2⟩ => ⟨I2.kIn, ?_⟩
  rw [hks]
  exact run_makeW M F hr hx I2 .nil (kwR_zip rz) (zip_nodup nd) q2
theorem pe_makeM {i : Nat} {n : Str} {pn kp : Pos} (cal : CalP X x C g) (M : Mk X.K C f) (F : FnW X.prog X.w X.K X.mg X.base CX k f sp) (hr : Room (k + 1) X.A) (hx : Passes CX X E) (ha : PA X (e :: es) t) (hN : X.N[i]? = some n) (hv : Vis X.env.scope n)
    (hd : (n == ("__debug__" : Str)) = false := by decide) (hcd : (n == ("__classdict__" : Str)) = false := by decide) (he : starEach (e :: es) X.env = (false, eval e X.env) :: starEach es X.env := by rfl) (hpl : (backTo pos (starEach (e :: es) X.env)).any (·.1) = false := by rfl) :
    PE X (.Call (.Name x p) (e :: es) [⟨none, .Name n pn, kp⟩] pos) (tMakeM C g i sp E t) := by
  refine ⟨fun pins s σ H Q I ⟨hg, h⟩ => ?_⟩
  refine wpAny_Call_Name_kw (cal pins s σ H p _ _ I hg ?_)
  show wpAny _ _ (callWith pos (.ref C) [] (backTo pos (starEach (e :: es) X.env)) [(none, (do let v ← eval (.Name n pn) X.env; standAt pos; pure v))]) _ _ _
  refine call_m rfl (PySem.W.keeps_K M.kp) (evalArgs_m hpl rfl (thn (ha.run pos pins s σ H _ I h) fun us s1 ⟨vs, H1, I1, r, a, kvs, ea, hda, q⟩ => ?_))
  obtain ⟨hp, gg, dr, tt, os⟩ := s1
  have ok := hda.ok I1.hok
  obtain ⟨hz, hs, kk, rkv, o, esA, ep, ho, ⟨hc, _, _⟩, hdat, hkeys, hpairs, hnd⟩ := ok
  have hkeys' : ∀ e ∈ esA.toList, ∃ k : Key, keyIs k e.key = true ∧ e.hash = keyH X.w k := fun e he => hkeys e (by simpa using he)
  obtain ⟨kw, rk, rE⟩ := kw_of hkeys' hpairs rkv
  have ndv := kw_nodup rkv hnd
  have nd : (kw.map (·.1)).Nodup := by rw [← rk.names]; exact ndv
  have len : esA.toList.length ≤ sizeLine := by
    have z1 := rE.length
    have z2 := rk.length
    rw [List.length_map] at hz
    omega
  have I2 : Inv X pins σ H1 ⟨hp.push (PySem.W.dictOf [] 0), gg, dr, tt, os⟩ := I1.kept (t' := tt) fun b o e => Heap.get?_push_of_some _ e
  refine merged_one (kws := kw) (wpAny_bind (ld_slot I2 hN hv ea (fun u ru => wpAny_bind (wpAny_standAt (wpAny_pure ?_))) hd hcd)) fun h' t' es' m' e1 e2 e3 => ?_
  · obtain rfl : u = Value.ref a := ru
    exact ⟨tt, a, o, esA.toList, ep, rfl, rfl, ho, hc, by rw [hdat], rE, nd, len, hs⟩
  · have I3 : Inv X pins σ H1 ⟨h', gg, dr, t', os⟩ := I1.kept (t' := t') e3
    refine kw_in e1 e2 ⟨I3.kIn, ?_⟩
    exact run_makeW M F hr hx I3 r rk nd q
end
end Lx
set_option Elab.async false
set_option linter.all false
set_option maxRecDepth 100000
set_option maxHeartbeats 2000000
/-! LxKwB: what a def with **ways binds. -/
namespace Lx
open PySem PySem.W PySem.Calls PyProof.Rows

theorem forIn_skip {α β : Type} (f : α → β × List α → Sem (ForInStep (β × List α))) : ∀ (l : List α) (b : β) (acc : List α), (∀ x ∈ l, ∀ st, f x st = pure (ForInStep.yield (st.1, st.2 ++ [x]))) → forIn l (b, acc) f = pure (b, acc ++ l)
  | [], b, acc, _ => by rw [List.forIn_nil, List.append_nil]
  | x :: l, b, acc, h => by
    rw [List.forIn_cons, h x (List.mem_cons_self ..), pure_bind]
    show forIn l (b, acc ++ [x]) f = _
    rw [forIn_skip f l b _ fun y hy => h y (List.mem_cons_of_mem _ hy), List.append_assoc]
    rfl
def kwPars2 (p1 p2 pd : Str) (r1 r2 r3 : Pos) (ds : List Expr) : Arguments := { posonlyargs := [], args := [{ arg := p1, annotation := none, pos := r1 }, { arg := p2, annotation := none, pos := r2 }], vararg := none, kwonlyargs := [], kw_defaults := [], kwarg := some { arg := pd, annotation := none, pos := r3 }, defaults := ds }
theorem bind2_pos {fd : FuncData} {p1 p2 pd : Str} {r1 r2 r3 : Pos} {ds : List Expr} {u v d0 : Value} {kws : List (Str × Value)} (hp : fd.params = kwPars2 p1 p2 pd r1 r2 r3 ds) (hn : (p2 == p1) = false) (hk : ∀ q ∈ kws, q.1 ≠ p1 ∧ q.1 ≠ p2) (hz : kws.length ≤ sizeLine) :
    ∃ k, bindArgs fd ⟨[u, v], kws⟩ = seqItems? fd.defaults >>= k ∧ k (some #[d0]) = kwDict kws >>= fun d => pure [(p1, u), (p2, v), (pd, .ref d)] := by
  obtain ⟨nm, q, params, body, scope, gl, cl, dfl, kwd, doc, pm, an, cd, ct, bl⟩ := fd
  dsimp only at hp
  subst hp
  unfold bindArgs
  dsimp only [kwPars2]
  rw [forIn_skip (l := kws), pure_bind]
  · refine ⟨_, rfl, ?_⟩
    have hz' : ¬ (sizeLine + 1 < kws.length) := by omega
    simp [List.lookup, hn, hz', kwDict]
  · intro x hx st
    obtain ⟨h1, h2⟩ := hk x hx
    simp [h1, h2]
theorem bind2_dfl {fd : FuncData} {p1 p2 pd : Str} {r1 r2 r3 : Pos} {ds : List Expr} {u d0 : Value} {kws : List (Str × Value)} (hp : fd.params = kwPars2 p1 p2 pd r1 r2 r3 ds) (hn : (p2 == p1) = false) (hk : ∀ q ∈ kws, q.1 ≠ p1 ∧ q.1 ≠ p2) (hz : kws.length ≤ sizeLine) :
    ∃ k, bindArgs fd ⟨[u], kws⟩ = seqItems? fd.defaults >>= k ∧ k (some #[d0]) = kwDict kws >>= fun d => pure [(p1, u), (p2, d0), (pd, .ref d)] := by
  obtain ⟨nm, q, params, body, scope, gl, cl, dfl, kwd, doc, pm, an, cd, ct, bl⟩ := fd
  dsimp only at hp
  subst hp
  unfold bindArgs
  dsimp only [kwPars2]
  rw [forIn_skip (l := kws), pure_bind]
  · refine ⟨_, rfl, ?_⟩
    have hz' : ¬ (sizeLine + 1 < kws.length) := by omega
    simp [List.lookup, hn, hz', kwDict]
  · intro x hx st
    obtain ⟨h1, h2⟩ := hk x hx
    simp [h1, h2]
theorem bind2_nam {fd : FuncData} {p1 p2 pd : Str} {r1 r2 r3 : Pos} {ds : List Expr} {u v d0 : Value} {kws : List (Str × Value)} (hp : fd.params = kwPars2 p1 p2 pd r1 r2 r3 ds) (hn : (p2 == p1) = false) (hk : ∀ q ∈ kws, q.1 ≠ p1 ∧ q.1 ≠ p2) (hz : kws.length ≤ sizeLine) :
    ∃ k, bindArgs fd ⟨[u], (p2, v) :: kws⟩ = seqItems? fd.defaults >>= k ∧ k (some #[d0]) = kwDict kws >>= fun d => pure [(p1, u), (p2, v), (pd, .ref d)] := by
  obtain ⟨nm, q, params, body, scope, gl, cl, dfl, kwd, doc, pm, an, cd, ct, bl⟩ := fd
  dsimp only at hp
  subst hp
  unfold bindArgs
  dsimp only [kwPars2]
  rw [List.forIn_cons]
  simp only [List.map_cons, List.map_nil, List.nil_append, List.zip_cons_cons, List.zip_nil_right, List.contains_cons, beq_self_eq_true, Bool.true_or, Bool.or_true, Bool.or_false, if_true, List.lookup, hn, Option.isSome_none, Bool.false_eq_true, if_false, pure_bind, List.cons_append, List.nil_append]
  rw [forIn_skip (l := kws), pure_bind]
  · refine ⟨_, rfl, ?_⟩
    have hz' : ¬ (sizeLine + 1 < kws.length) := by omega
    simp [List.lookup, hn, hz', kwDict]
  · intro x hx st
    obtain ⟨h1, h2⟩ := hk x hx
    simp [h1, h2]
end Lx
namespace Lx
open PySem PySem.W PySem.Calls PyProof.Rows L2
/-- what two parameters (the second with a default) and **pd get -/
def G2 (p1 p2 : Str) (dv : V) (vs : List V) (kvs : List (Str × V)) (ws : List V) (rest : List (Str × V)) : Prop :=
  (∀ q ∈ rest, q.1 ≠ p1 ∧ q.1 ≠ p2) ∧ ((∃ x, vs = [x] ∧ ws = [x, dv] ∧ kvs = rest) ∨ (∃ x b, vs = [x, b] ∧ ws = [x, b] ∧ kvs = rest) ∨ ∃ x b, vs = [x] ∧ ws = [x, b] ∧ kvs = (p2, b) :: rest)
theorem kw_names {kvs : List (Str × V)} {kws : List (Str × Value)} {p1 p2 : Str} (r : KwR kvs kws) (h : ∀ q ∈ kvs, q.1 ≠ p1 ∧ q.1 ≠ p2) : ∀ q ∈ kws, q.1 ≠ p1 ∧ q.1 ≠ p2 := fun q hq => by
  have z : q.1 ∈ kvs.map (·.1) := by
    rw [r.names]
    exact List.mem_map.mpr ⟨q, hq, rfl⟩
  obtain ⟨q', hq', e⟩ := List.mem_map.mp z
  rw [← e]
  exact h q' hq'
theorem kwbind2 {P : Program} {w : World} {K : Frag} {fd : FuncData} {p1 p2 pd : Str} {r1 r2 r3 : Pos} {ds : List Expr} {T : Addr} {o : Obj} {d0 : Value} {n : Nat} {dv : V} (hp : fd.params = kwPars2 p1 p2 pd r1 r2 r3 ds) (hn : (p2 == p1) = false) (hd : fd.defaults = .ref T) (lT : K.lookup T = some o) (oT : o.data = .seq #[d0] n) (rT : RelV dv d0) :
    KwBind P w K fd [p1, p2] pd (G2 p1 p2 dv) := by
  have fin : ∀ {us : List Value} {kws rs : List (Str × Value)} {xs : List Value} {A' : Around} {Ex : Value → Shared → Prop} {Q : List (Str × Value) → Shared → Prop} {s : Shared}, K.In s.heap →
      (∃ k, bindArgs fd ⟨us, kws⟩ = seqItems? fd.defaults >>= k ∧ k (some #[d0]) = kwDict rs >>= fun d => pure ([p1, p2].zip xs ++ [(pd, .ref d)])) →
      wpAny (model P w) A' (kwDict rs) (fun d s' => Q ([p1, p2].zip xs ++ [(pd, .ref d)]) s') Ex s → wpAny (model P w) A' (bindArgs fd ⟨us, kws⟩) Q Ex s := by
    intro us kws rs xs A' Ex Q s X ⟨k, e1, e2⟩ h
    rw [e1, hd]
    refine wpAny_bind (wpAny_seqItems (X _ _ lT) oT ?_)
    rw [e2]
    exact wpAny_bind (wpAny_mono h (fun d s' h' => wpAny_pure h') fun _ _ z => z)
  intro vs us kvs kws ws rest hG r rk nd hz
  obtain ⟨hk, hG⟩ := hG
  have hlen : ∀ {rs : List (Str × Value)}, KwR rest rs → rs.length ≤ sizeLine := fun r => by rw [← r.length]; exact hz
  rcases hG with ⟨x, rfl, rfl, rfl⟩ | ⟨x, b, rfl, rfl, rfl⟩ | ⟨x, b, rfl, rfl, rfl⟩
  · cases r with
    | cons ru rn =>
      cases rn
      exact ⟨[_, d0], kws, .cons ru (.cons rT .nil), rk, nd, rfl, fun A' Ex Q s X h => fin X (bind2_dfl hp hn (kw_names rk hk) (hlen rk)) h⟩
  · cases r with
    | cons ru rn =>
      cases rn with
      | cons rb rn =>
        cases rn
        exact ⟨[_, _], kws, .cons ru (.cons rb .nil), rk, nd, rfl, fun A' Ex Q s X h => fin X (bind2_pos hp hn (kw_names rk hk) (hlen rk)) h⟩
  · cases r with
    | cons ru rn =>
      cases rn
      cases rk with
      | cons hb rk =>
        rename_i q rs
        obtain ⟨qn, qv⟩ := q
        obtain ⟨e1, e2⟩ := hb
        have e1' : p2 = qn := e1
        subst e1'
        rw [List.map_cons, List.nodup_cons] at nd
        exact ⟨[_, qv], rs, .cons ru (.cons e2 .nil), rk, nd.2, rfl, fun A' Ex Q s X h => fin X (bind2_nam hp hn (kw_names rk hk) (hlen rk)) h⟩
end Lx
namespace Lx
open PySem PySem.W PySem.Calls PyProof.Rows L2 StX
/-- a def of the form (p1, p2 = .., **pd) -/
theorem okW2 {CX : CXT} {P : Program} {w : World} {K : Frag} {mg : Str → Option Value} {base : Heap} {k : Nat} {f : Addr} {fd : FuncData} {x qual : Str} {params : Arguments} {body : List Stmt} {scope : Scope} {N : List Str} {p1 p2 pd : Str} {dv : V} {sp : Sp} {r1 r2 r3 : Pos} {ds : List Expr}
    (F : FunD K x qual params body scope [dv] [] f fd) (hp : params = kwPars2 p1 p2 pd r1 r2 r3 ds) (hn : (p2 == p1) = false) (S : FnScope N [p1, p2, pd] scope) (hCX : CXUp CX)
    (hbody : ∀ (cdv : Value) (A : Around) (outer : List Env) (s : Shared) (H : Hp) (vs : List V) (Q : VK) (E : XK), Room k (A.deeper (envOfC qual scope s.heap.objs.size f cdv)) → sp vs H Q E →
      ∃ t, PSs (cxOf CX P w K mg base N qual scope f cdv A outer s H E) body t ∧ t { nx := fun _ H' => Q .non H', rt := Q } (start N vs) H) :
    FnW P w K mg base CX (k + 1) f (fun vs kvs H Q E => ∃ ws rest, G2 p1 p2 dv vs kvs ws rest ∧ rest.length ≤ sizeLine ∧ ∀ d, H d = none → sp (ws ++ [V.ref d]) (upd H d (.dK (kwK rest))) Q E) := by
  obtain ⟨oc, od, dV, kV, doc, pm, an, cdv, ct, osl, rfl, lk, hcd, hD, _⟩ := F.ex
  rcases hD with ⟨e, _⟩ | ⟨_, T, o, its, m, rfl, lT, oT, rT⟩
  · cases e
  · cases rT with
    | cons rd rn =>
      cases rn
      exact fn_kw (ps := [p1, p2]) lk hcd S hCX (kwbind2 hp hn rfl lT oT rd) fun A outer s H vs Q E hr hsp => hbody cdv A outer s H vs Q E hr hsp
end Lx
set_option Elab.async false
set_option linter.all false
set_option maxRecDepth 100000
set_option maxHeartbeats 2000000
/-! LxMore: in over tuples of data, dicts of texts compared, tuples of the text. -/
namespace Lx
open PySem PySem.Spec PyProof.Rows L2
section
variable {X : Cx}
/-- x in t, t a tuple, data of any depth -/
def rInT (K : PySem.W.Frag) (neg : Bool) : R2 := fun x y H Q => ∃ d ds, Dp K H x d ∧ Dp K H y (.tuple ds) ∧ SeqAt.shaped d = true ∧ SeqAt.shaped (.tuple ds) = true ∧ Q (.bl (if neg then !ds.any fun z => PyData.eqv z d else ds.any fun z => PyData.eqv z d)) H
theorem op_inT (hu : X.A.units + 65 < cLine) : OpR X (compareOp .In) (rInT X.K false) := by
  intro pins s σ H x y v u Q I rx ry h
  obtain ⟨d, ds, hd, he, sd, se, q⟩ := h
  obtain ⟨as, r1⟩ := Dp.reads I d x v hd rx
  obtain ⟨bs, r2⟩ := Dp.reads I (.tuple ds) y u he ry
  exact SeqAt.in_tuple_reads r2 r1 (SeqAt.canLay_of_shaped se) (SeqAt.canLay_of_shaped sd) (room_in_shaped sd hu) ⟨.bl _, H, I, rfl, q⟩
theorem op_notInT (hu : X.A.units + 65 < cLine) : OpR X (compareOp .NotIn) (rInT X.K true) := by
  intro pins s σ H x y v u Q I rx ry h
  obtain ⟨d, ds, hd, he, sd, se, q⟩ := h
  obtain ⟨as, r1⟩ := Dp.reads I d x v hd rx
  obtain ⟨bs, r2⟩ := Dp.reads I (.tuple ds) y u he ry
  exact SeqAt.notIn_tuple_reads r2 r1 (SeqAt.canLay_of_shaped se) (SeqAt.canLay_of_shaped sd) (room_in_shaped sd hu) ⟨.bl _, H, I, rfl, q⟩
/-- two dicts whose values are texts, the keys of the first all in the second -/
def rEqDS : R2 := fun x y H Q => ∃ a b ks ls, x = .ref a ∧ y = .ref b ∧ H a = some (.dK ks) ∧ H b = some (.dK ls) ∧ ks.length = ls.length ∧ (∀ p ∈ ks, ∃ s t : Str, p.2 = .str s ∧ valV ls p.1 = some (.str t)) ∧
  ∀ r : Bool, (r = true ↔ ∀ p ∈ ks, valV ls p.1 = some p.2) → Q (.bl r) H
theorem hitsS {A : Around} {s : Shared} {κ : Type} [DecidableEq κ] {kvs : List (κ × V)} {vb : List (κ × Value)} (rb : KV kvs vb) : ∀ {ks : List (κ × V)} {va : List (κ × Value)}, KV ks va → (∀ p ∈ ks, ∃ s t : Str, p.2 = .str s ∧ valV kvs p.1 = some (.str t)) →
    ∃ r, PySem.W.KeqHits A s vb va r ∧ (r = true ↔ ∀ p ∈ ks, valV kvs p.1 = some p.2) := by
  intro ks va ra
  unfold KV at ra
  induction ra with
  | nil => exact fun _ => ⟨true, .nil, by simp⟩
  | @cons p q ps qs h t ih =>
    intro hp
    obtain ⟨h1, h2⟩ := h
    obtain ⟨r, hr, hiff⟩ := ih fun p' hm => hp p' (List.mem_cons_of_mem _ hm)
    obtain ⟨x, y, e1, e2⟩ := hp p List.mem_cons_self
    have rr : RelO (some (V.str y)) (valueAt vb p.1) := by rw [← e2]; exact rb.val p.1
    obtain ⟨z, hz, rz⟩ := rr.some_of
    obtain ⟨k, v⟩ := q
    have h1' : p.1 = k := h1
    rw [h1'] at hz
    have h2' : RelV p.2 v := h2
    rw [e1] at h2'
    obtain ⟨t1, rfl⟩ := h2'
    obtain ⟨t2, rfl⟩ := rz
    refine ⟨(x == y) && r, .hit hz (SeqAt.EqAt.str_str x t1 y t2) hr, ?_⟩
    rw [Bool.and_eq_true, beq_iff_eq, hiff]
    constructor
    · rintro ⟨rfl, h⟩ p' hp'
      rcases List.mem_cons.mp hp' with rfl | hp'
      · rw [e2, e1]
      · exact h p' hp'
    · intro h
      refine ⟨?_, fun p' hp' => h p' (List.mem_cons_of_mem _ hp')⟩
      have q := h p List.mem_cons_self
      rw [e2, e1] at q
      injection q with q
      injection q with q
      exact q.symm
theorem op_eqDS (hu : X.A.units < cLine) : OpR X (compareOp .Eq) rEqDS := by
  intro pins s σ H x y v u Q I rx ry h
  obtain ⟨a, b, ks, ls, rfl, rfl, ea, eb, hlen, hp, q⟩ := h
  obtain rfl : v = Value.ref a := rx
  obtain rfl : u = Value.ref b := ry
  obtain ⟨_, ya, va, ra, da⟩ := (show ObjOk X.prog X.w H s.heap a (.dK ks) from I.hok a _ ea)
  obtain ⟨_, yb, vb, rb, db⟩ := (show ObjOk X.prog X.w H s.heap b (.dK ls) from I.hok b _ eb)
  have hl : va.length = vb.length := by rw [← ra.length, ← rb.length]; exact hlen
  obtain ⟨r, hr, hiff⟩ := hitsS (A := X.A.in1) (s := s) rb ra hp
  exact PySem.W.keq_eq (knd := mixKind X.prog X.w) (r := r) ya yb da db hu (fun _ => hr) (fin_bl I (q r hiff) (by simp [hl]))
end
/-! ### tuples of texts that the program's text lays -/
def KTup (K : PySem.W.Frag) (a : Addr) (ss : List Str) : Prop := ∀ H : Hp, SqT K H a (ss.map V.str)
def strsB : List Value → List Str → Bool
  | [], [] => true
  | .str x _ :: us, y :: ys => x == y && strsB us ys
  | _, _ => false
theorem strsB_ok : ∀ {us : List Value} {ss : List Str}, strsB us ss = true → Vals (ss.map V.str) us
  | [], [], _ => .nil
  | .str x t :: us, y :: ys, h => by
    unfold strsB at h
    rw [Bool.and_eq_true, beq_iff_eq] at h
    obtain ⟨rfl, h⟩ := h
    exact .cons ⟨t, rfl⟩ (strsB_ok h)
theorem strsB_len : ∀ {us : List Value} {ss : List Str}, strsB us ss = true → us.length = ss.length := fun h => by
  have q := (strsB_ok h).length
  rw [List.length_map] at q
  exact q.symm
def ktupB (K : PySem.W.Frag) (a : Addr) (ss : List Str) : Bool := (match K.lookup a with
  | some ⟨.type t, _, .seq its _, _⟩ => t == "tuple" && strsB its.toList ss
  | _ => false) && decide (ss.length ≤ 1000)
theorem ktupB_ok {K : PySem.W.Frag} {a : Addr} {ss : List Str} (h : ktupB K a ss = true) : KTup K a ss := by
  unfold ktupB at h
  rw [Bool.and_eq_true, decide_eq_true_eq] at h
  obtain ⟨h, hl⟩ := h
  split at h
  · rename_i o t od its n sl e
    rw [Bool.and_eq_true, beq_iff_eq] at h
    obtain ⟨rfl, h⟩ := h
    have q := strsB_len h
    refine fun H => .inr ⟨_, its, n, e, rfl, rfl, ?_, strsB_ok h⟩
    rw [← Array.length_toList, q, sizeLine_eq]
    omega
  · cases h
end Lx
namespace Lx
open PySem PySem.Spec L2
theorem walk_zipT {K : PySem.W.Frag} {a b : Addr} {xs ys : List V} {n : Nat} (hn : n = min xs.length ys.length) : Walk (RZ.ItzT K a b) n (fun H => SqT K H a xs ∧ SqT K H b ys) (YPair (fun i => xs[i]?) (fun i => ys[i]?)) := by
  subst hn
  refine ⟨fun i _ hi q => ?_, fun _ q => ⟨xs, ys, q.1, q.2, by omega⟩, fun i H v H' _ q y => ?_⟩
  · have h1 : i < xs.length := by omega
    have h2 : i < ys.length := by omega
    exact ⟨xs, ys, xs[i], ys[i], q.1, q.2, List.getElem?_eq_getElem h1, List.getElem?_eq_getElem h2⟩
  · obtain ⟨T, x, z, h1, h2, h3, h4, h5⟩ := y
    exact ⟨T, x, z, h1, h2, h3, h4 xs q.1, h5 ys q.2⟩
theorem get_str {ss : List Str} {i : Nat} {y : V} (h : (ss.map V.str)[i]? = some y) : ∃ s, ss[i]? = some s ∧ y = .str s := by
  rw [List.getElem?_map] at h
  cases e : ss[i]? with
  | none =>
    rw [e] at h
    cases h
  | some s =>
    rw [e] at h
    exact ⟨s, rfl, (Option.some.inj h).symm⟩
theorem if_false_of {c : Bool} {A B : Prop} (hc : c = false) (h : B) : if c = true then A else B := by
  rw [hc, if_neg Bool.false_ne_true]
  exact h
theorem if_true_of {c : Bool} {A B : Prop} (hc : c = true) (h : A) : if c = true then A else B := by
  rw [hc, if_pos rfl]
  exact h
theorem inV_str (x : Str) (ss : List Str) : inV (.str x) (ss.map V.str) = decide (x ∈ ss) := by
  unfold inV
  induction ss with
  | nil => rfl
  | cons m r ih =>
    rw [List.map_cons, List.any_cons, ih]
    have e : eqV (.str m) (.str x) = decide (x = m) := by
      show (m == x) = _
      by_cases h : x = m
      · subst h
        simp
      · rw [decide_eq_false h]
        exact beq_eq_false_iff_ne.mpr (Ne.symm h)
    rw [e]
    by_cases h : x = m <;> simp [h]
theorem flat_strs (ss : List Str) : (ss.map V.str).all flatV = true := by
  rw [List.all_map]
  exact List.all_eq_true.mpr fun _ _ => rfl
theorem putK_app {κ : Type} [DecidableEq κ] {kvs : List (κ × V)} {k : κ} {v : V} (h : k ∉ kvs.map (·.1)) : putK kvs k v = kvs ++ [(k, v)] := by
  unfold putK
  have e : (kvs.any fun kv => decide (kv.1 = k)) = false := by
    cases q : kvs.any fun kv => decide (kv.1 = k) with
    | false => rfl
    | true =>
      obtain ⟨p, hp, e⟩ := List.any_eq_true.mp q
      exact absurd (List.mem_map.mpr ⟨p, hp, of_decide_eq_true e⟩) h
  rw [e, if_neg Bool.false_ne_true]
/-- dicts from texts to texts -/
abbrev strD (kvs : List (Str × Str)) : List (Str × V) := kvs.map fun p => (p.1, V.str p.2)
theorem valV_strD (kvs : List (Str × Str)) (l : Str) : valV (kwK (strD kvs)) (Sum.inr l) = (kvs.lookup l).map V.str := by
  induction kvs with
  | nil => rfl
  | cons p r ih =>
    obtain ⟨k, v⟩ := p
    by_cases h : l = k
    · subst h
      show valV (((Sum.inr l : Key), V.str v) :: _) _ = _
      rw [valV_pos rfl]
      simp [List.lookup]
    · show valV (((Sum.inr k : Key), V.str v) :: kwK (strD r)) _ = _
      rw [valV_neg (fun z => h (Sum.inr.inj z).symm), ih]
      have q : (l == k) = false := beq_eq_false_iff_ne.mpr h
      simp [List.lookup, q]
end Lx
namespace Lx
open PySem PySem.Spec L2
theorem lookup_zip {α : Type} : ∀ {ks : List Str} {ms : List α} {i : Nat} {k : Str} {m : α}, ks.Nodup → ks[i]? = some k → ms[i]? = some m → (ks.zip ms).lookup k = some m
  | [], _, i, _, _, _, h, _ => by simp at h
  | _ :: _, [], i, _, _, _, _, h => by simp at h
  | k0 :: ks, m0 :: ms, 0, k, m, _, h1, h2 => by
    have e1 : k0 = k := Option.some.inj h1
    have e2 : m0 = m := Option.some.inj h2
    subst e1 e2
    simp [List.lookup]
  | k0 :: ks, m0 :: ms, i + 1, k, m, nd, h1, h2 => by
    rw [List.getElem?_cons_succ] at h1 h2
    have nd' := List.nodup_cons.mp nd
    have ne : (k == k0) = false := beq_eq_false_iff_ne.mpr fun z => nd'.1 (z ▸ List.mem_of_getElem? h1)
    have q := lookup_zip nd'.2 h1 h2
    simp [List.lookup, ne, q]
end Lx
namespace Lx
open PySem PySem.Spec PyProof.Rows L2
section
variable {X : Cx}
/-- x = {k: v for ..}, x a local name -/
theorem ps_setDc {i : Nat} {y : Str} {py : Pos} {kx vx tg iter : Expr} {ifs : List Expr} {scope : Scope} {own : List (Str × Nat)} {pos spos : Pos} {wi : TI} {g : TG} {tt : TT} {tk tv : TE} (hc : X.calm = true) (hN : X.N.Nodup) (hy : X.N[i]? = some y) (hyl : X.env.scope.names.lookup y = some .local)
    (hsw : swapsWith (.DictComp kx vx [⟨tg, iter, ifs, 0⟩] scope pos) (some (.Name y py)) spos.line X.env = pure true) (hi : PI X tg iter wi) (ok : BlkOk X.N X.env.scope scope own)
    (hg : ∀ (s : Shared) (H : Hp) (C : Addr) (cl : List (Str × Addr)) (fp : List Addr), PG (X.blk s H scope (compEnvC scope cl C X.env) fp) tg g)
    (ht : ∀ (s : Shared) (H : Hp) (C : Addr) (cl : List (Str × Addr)) (fp : List Addr), PTs (X.blk s H scope (compEnvC scope cl C X.env) fp) ifs tt)
    (hk : ∀ (s : Shared) (H : Hp) (C : Addr) (cl : List (Str × Addr)) (fp : List Addr), PE (X.blk s H scope (compEnvC scope cl C X.env) fp) kx tk)
    (he : ∀ (s : Shared) (H : Hp) (C : Addr) (cl : List (Str × Addr)) (fp : List Addr), PE (X.blk s H scope (compEnvC scope cl C X.env) fp) vx tv) (hs : ∀ x, foldedSetIterable iter X.env x = pure x := by intro _; rfl) :
    PS X (.Assign [.Name y py] (.DictComp kx vx [⟨tg, iter, ifs, 0⟩] scope pos) spos) (tAsg (tDc wi g tt tk tv (own.map (·.2))) (gName i)) := by
  refine ⟨fun pins s σ H D I h => ?_⟩
  rw [exec_Assign_Name_used _ _ _ _ hsw]
  refine wpAny_bind (wpAny_standAt (wpAny_bind ?_))
  show wpAny _ X.A (do let _ ← comprehension (.DictComp kx vx [⟨tg, iter, ifs, 0⟩] scope pos) scope X.env (firstIterPos [⟨tg, iter, ifs, 0⟩] pos) newDict false (eval iter X.env) (some (assign (.Name y py) X.env))) _ _ s
  have h : tDc wi g tt tk tv (own.map (·.2)) σ H (fun x H1 => gName i x σ H1 D.nx) := h
  refine wpAny_bind (thn (dc_core (Qf := fun _ s' => SP X pins D .next s') hc hN I hi ok hg ht hk he hs h fun L C s' m H' I' q hn f => ?_) fun _ s' hq => wpAny_pure (wpAny_pure hq))
  show wpAny _ _ (assign (.Name y py) X.env (.ref L)) _ _ _
  refine wpAny_assign_Name (store_ok2 (v := V.ref L) I' hN hy (.inl hyl) rfl (fun s2 I2 ⟨a, sb, ha⟩ => ?_) (.inr hyl))
  obtain ⟨f0, f1, f2, f3, f4, f5⟩ := f
  have away : C ≠ a := by
    rcases ha with z | z
    · rw [z]
      exact f1
    · exact fun e => f4 y a z e.symm
  exact ⟨m, hn.sameBut sb away, fun h3 sb3 => ⟨_, H', I2.turned (t' := s2.toks) (fun b o hb e => (sb3.2 b hb).trans e) f0 f1 f3 f4 f5, q⟩⟩
theorem swd_true {kx vx : Expr} {gs : List Comprehension} {scope : Scope} {pos py : Pos} {y : Str} {l : Nat} {env : Env} (hk : env.scope.kind = .function) (hy : env.scope.names.lookup y = some .local) (hl : (py.line == pos.line) = true)
    (ha : (scope.names.any fun (n, k) => n == y && (k == .local || k == .cell)) = false) : swapsWith (.DictComp kx vx gs scope pos) (some (.Name y py)) l env = pure true := by
  have ky : env.kindOf y = some .local := hy
  have hb : env.blockKind = .function := by
    unfold Env.blockKind
    rw [hk]
    rfl
  unfold swapsWith
  simp only [hb, ky, ha, Expr.pos, hl]
  rfl
end
end Lx
namespace Lx
open PySem PySem.Spec L2
theorem get_ref {rs : List Addr} {i : Nat} {y : V} (h : (rs.map V.ref)[i]? = some y) : ∃ r, rs[i]? = some r ∧ y = .ref r := by
  rw [List.getElem?_map] at h
  cases e : rs[i]? with
  | none =>
    rw [e] at h
    cases h
  | some r =>
    rw [e] at h
    exact ⟨r, rfl, (Option.some.inj h).symm⟩
/-- a dict of texts filled in the keys' order -/
theorem putK_zip {ks ms : List Str} {i : Nat} {k m : Str} (nd : ks.Nodup) (h1 : ks[i]? = some k) (h2 : ms[i]? = some m) : putK (kwK (strD ((ks.zip ms).take i))) (Sum.inr k) (.str m) = kwK (strD ((ks.zip ms).take (i + 1))) := by
  have hz : (ks.zip ms)[i]? = some (k, m) := List.getElem?_zip_eq_some.mpr ⟨h1, h2⟩
  rw [putK_app, List.take_add_one, hz]
  · simp
  · intro z
    obtain ⟨q, hq, e⟩ := List.mem_map.mp z
    obtain ⟨q2, hq2, rfl⟩ := List.mem_map.mp hq
    obtain ⟨q3, hq3, rfl⟩ := List.mem_map.mp hq2
    have e' : q3.1 = k := Sum.inr.inj e
    obtain ⟨j, hj, e3⟩ := List.mem_take_iff_getElem.mp hq3
    have hjl : j < (ks.zip ms).length := by omega
    have g3 : (ks.zip ms)[j]? = some q3 := by rw [List.getElem?_eq_getElem hjl, e3]
    have g4 := (List.getElem?_zip_eq_some.mp (show (ks.zip ms)[j]? = some (q3.1, q3.2) from g3)).1
    rw [e'] at g4
    obtain ⟨l1, u1⟩ := List.getElem?_eq_some_iff.mp g4
    obtain ⟨l2, u2⟩ := List.getElem?_eq_some_iff.mp h1
    have := (List.getElem_inj (h₀ := l1) (h₁ := l2) nd).mp (u1.trans u2.symm)
    omega
end Lx
set_option Elab.async false
set_option linter.all false
set_option maxRecDepth 100000
set_option maxHeartbeats 2000000
/-! LxTry: a try with several clauses, each with a name. -/
namespace Lx
open PySem PySem.Spec PyProof.Rows L2
/-- the ends of a clause: behind it its name is gone -/
abbrev unname (i : Nat) (D : Ends) : Ends := { nx := fun σ' H' => D.nx (σ'.set i none) H', rt := D.rt, bk := fun σ' H' => D.bk (σ'.set i none) H', ct := fun σ' H' => D.ct (σ'.set i none) H' }
abbrev Clause := Value × Nat × (Addr → Value → Option Addr → TS)
/-- what the clauses want of the body's exception -/
def wNamed (K : PySem.W.Frag) (out : WX) (D : Ends) : List Clause → WX
  | [] => out
  | (c, i, ts) :: r => fun cls d σ H => ∃ b, PySem.W.exmOne K cls c = some b ∧ (b = true → ∀ a, H a = none → ts a cls d (unname i D) (σ.set i (some (.ref a))) H) ∧ (b = false → wNamed K out D r cls d σ H)
inductive Clauses (X : Cx) : List ExceptHandler → List Clause → Prop
  | nil : Clauses X [] []
  | cons {x n : Str} {c : Value} {i : Nat} {ts : Addr → Value → Option Addr → TS} {st : Stmt} {sts : List Stmt} {p1 p2 : Pos} {hs : List ExceptHandler} {l : List Clause} (named : Names X x c) (slot : X.N[i]? = some n) (loc : X.env.kindOf n = some .local)
      (run : ∀ (a : Addr) (oe : Obj) (cls : Value) (d : Option Addr) (pn : List (Addr × Obj)), Zc cls d oe → (∃ vs, oe.data = .fields vs) → PSs (X.suite a ((a, oe) :: pn)) (st :: sts) (ts a cls d)) (more : Clauses X hs l) :
      Clauses X (.ExceptHandler (some (.Name x p1)) (some n) (st :: sts) p2 :: hs) ((c, i, ts) :: l)
section
variable {X : Cx} {body : List Stmt} {c0 : ExceptHandler} {cs : List ExceptHandler} {l : List Clause} {pos : Pos} {tb : WX → TS} {out : WX}
theorem ps_try_named (hs : X.stack = X.env :: X.outer) (hf : X.env.frame = some X.env.locals) (nd : X.N.Nodup) (tk : Takes X out)
    (hb : ∀ (W : WX) (pn : List (Addr × Obj)) (xe : Value → Shared → Prop), Takes (X.tr pn xe) W → PassesOwn (model X.prog X.w) X.A X.env xe → PSs (X.tr pn xe) body (tb W))
    (cl : Clauses X (c0 :: cs) l) : PS X (.Try body (c0 :: cs) [] [] pos) (fun D σ H => tb (wNamed X.K out D l) D σ H) := by
  refine ⟨fun pins s σ H D I h => ?_⟩
  have ok := I.ok
  have frs_ : X.A.frames = some (X.env :: X.outer) := ok.frames.trans (congrArg some hs)
  refine wpAny_Try_except ?_
  let caught : Value → Shared → Prop := fun e s₁ => wpAny (model X.prog X.w) X.A (noteFrame e X.env) (fun _ s₂ => wpAny (model X.prog X.w) X.A (setFlight e none) (fun _ s₃ =>
    wpAny (model X.prog X.w) X.A (handleBy e X.env (c0 :: cs)) (SP X pins D) X.xe s₃) X.xe s₂) X.xe s₁
  have runs := (hb (wNamed X.K out D l) (X.pn ++ pins) caught (fun u s' fly => ?_) PassesOwn.looking).run [] s σ H D (I.toTry _) h
  · refine wpAny_mono runs (fun f s1 done => ?_) fun e s1 he => he
    cases f with
    | ret u =>
      obtain ⟨v, σ', H', J', r, q⟩ := done
      exact ⟨v, σ', H', J'.ofTry ok, r, q⟩
    | next =>
      obtain ⟨σ', H', J', q⟩ := done
      exact wpAny_execs_nil ⟨σ', H', J'.ofTry ok, q⟩
    | brk =>
      obtain ⟨σ', H', J', q⟩ := done
      exact ⟨σ', H', J'.ofTry ok, q⟩
    | cont =>
      obtain ⟨σ', H', J', q⟩ := done
      exact ⟨σ', H', J'.ofTry ok, q⟩
  · obtain ⟨a, B, sI, pins', σ', H', cls, d, rfl, J', nb, up, sky, na, os, ag, w⟩ := fly
    have J : Inv X pins σ' H' sI := J'.ofTry ok
    show wpAny (model X.prog X.w) X.A (noteFrame (.ref a) X.env) _ _ _
    refine Sky.land Zc.steady frs_ hf (show Sky B (X.env :: X.outer) a (Zc cls d) X.env.locals s'.heap by rw [← hs]; exact sky) fun h3 fl3 up3 => ?_
    have J3 : Inv X pins σ' H' { s' with heap := h3 } := J.landed nb fl3.1 (up.trans up3) os ag
    obtain ⟨oe3, vs3, he3, hz3, hd3⟩ := fl3.there
    have free : a ∉ frs (X.env :: X.outer) := fun hm => by
      obtain ⟨_, o', e', hnf⟩ := (fl3.2.2.1).mem hm
      rw [he3] at e'
      cases e'
      exact hnf _ hd3
    have nL : a ≠ X.env.locals := fun z => free (List.mem_filterMap.mpr ⟨X.env, List.mem_cons_self, by rw [hf, z]⟩)
    have nF : a ∉ X.fs := fun hm => by
      obtain ⟨e, he, q⟩ := List.mem_filterMap.mp hm
      exact free (List.mem_filterMap.mpr ⟨e, List.mem_cons_of_mem _ he, q⟩)
    have S3 := J3.suite he3 hd3 na nL nF
    have each : ∀ {hs' : List ExceptHandler} {l' : List Clause}, Clauses X hs' l' → wNamed X.K out D l' cls d σ' H' → wpAny (model X.prog X.w) X.A (handleBy (.ref a) X.env hs') (SP X pins D) X.xe { s' with heap := h3 } := by
      intro hs' l' hk
      induction hk with
      | nil =>
        intro w
        refine wpAny_handleBy_nil ?_
        obtain ⟨_, _, _, oe, vs, T, oT, ts', he, hz, hd, h1, hr⟩ := id fl3
        unfold PySem.passOn
        refine wpAny_bind (wpAny_field he hd h1 ?_)
        rw [if_neg (show ¬ ((Value.ref T == Value.none) = true) from by simp)]
        have fly : wpAny (model X.prog X.w) X.A (setFlight (.ref a) X.env.frame) (fun _ s4 => wpAny (model X.prog X.w) X.A (throw (.ref a) : Sem Flow) (SP X pins D) X.xe s4) X.xe { s' with heap := h3 } := by
          rw [hf]
          refine HandSPX.setFlight_upZ fl3 fun h4 hh4 up4 => wpAny_throw (tk _ _ ?_)
          exact ⟨a, B, sI, pins, σ', H', cls, d, rfl, J, nb, (up.trans up3).trans up4, .inr (.inr (by rw [hs]; exact hh4)), na, os, ag, w⟩
        first
          | exact wpAny_bind (wpAny_pure (wpAny_bind fly))
          | exact wpAny_bind fly
      | @cons x n c i ts st sts p1 p2 hs2 l2 named slot loc run more ih =>
        intro w
        obtain ⟨b, hb1, hyes, hno⟩ := w
        refine wpAny_handleBy_cons (codeAny_handlers_test ?_) (by intro q; cases q)
        have LT : PySem.W.Looks (model X.prog X.w) h3 (typeOf (.ref a)) cls := fun A Q E s k q => wpAny_typeOf_ref (k _ _ he3) (by rw [hz3.1]; exact q)
        have LM := PySem.W.exm_one (M := model X.prog X.w) (J3.kIn) LT hb1
        have asks : ∀ {Q : Value → Shared → Prop} {E : Value → Shared → Prop}, Q c { s' with heap := h3 } → wpAny (model X.prog X.w) (X.A.mark (some (.ref a))) (eval (.Name x p1) X.env) Q E { s' with heap := h3 } := fun {Q E} q => by
          obtain ⟨hg, hdbg, hm | ⟨hm, hv, hnn⟩⟩ := named
          · exact ld_glob (X := X.suite a ((a, oe3) :: (X.pn ++ pins))) S3 hg hm q hdbg
          · exact ld_blt (X := X.suite a ((a, oe3) :: (X.pn ++ pins))) S3 hg hm hv q hnn hdbg
        refine asks (LM.here ?_)
        cases b with
        | false =>
          show wpAny _ X.A (handleBy (.ref a) X.env hs2) _ _ _
          exact ih (hno rfl)
        | true =>
          refine codeAny_handlers_suite_as ?_
          refine HandSPX.lands_againZ fl3 fun h4 fl4 up4 => ?_
          have J4 : Inv X pins σ' H' { s' with heap := h4 } := J.landed nb fl4.1 ((up.trans up3).trans up4) os ag
          obtain ⟨oe4, vs4, he4, hz4, hd4⟩ := fl4.there
          refine store_ok (X := X.suite a ((a, oe4) :: (X.pn ++ pins))) (v := .ref a) (J4.suite he4 hd4 na nL nF) nd slot (.inl loc) rfl (fun s5 S5 => ?_) (.inr loc)
          refine wpAny_mono ((run a oe4 cls d (X.pn ++ pins) hz4 ⟨_, hd4⟩).run [] s5 _ H' _ S5 (hyes rfl a na)) (fun f s6 done => ?_) (fun _ _ z => False.elim z)
          have lets : ∀ {σ6 : L2.St} {H6 : Hp} {Q : Shared → Prop}, Inv (X.suite a ((a, oe4) :: (X.pn ++ pins))) [] σ6 H6 s6 → (∀ s7, Inv X pins (σ6.set i none) H6 s7 → Q s7) →
              wpAny (model X.prog X.w) X.A (do bindName X.env n .none; unbindBehindTheSuite X.env n p2) (fun _ s7 => Q s7) X.xe s6 := fun {σ6 H6 Q} S6 hq => gone_ok (S6.unsuite ok) nd slot loc hq
          cases f with
          | ret u =>
            obtain ⟨v6, σ6, H6, S6, r6, q6⟩ := done
            exact lets S6 fun s7 J7 => ⟨_, _, _, J7, r6, q6⟩
          | next =>
            obtain ⟨σ6, H6, S6, q6⟩ := done
            exact lets S6 fun s7 J7 => ⟨_, _, J7, q6⟩
          | brk =>
            obtain ⟨σ6, H6, S6, q6⟩ := done
            exact lets S6 fun s7 J7 => ⟨_, _, J7, q6⟩
          | cont =>
            obtain ⟨σ6, H6, S6, q6⟩ := done
            exact lets S6 fun s7 J7 => ⟨_, _, J7, q6⟩
    exact each cl w
end
end Lx
set_option Elab.async false
set_option linter.all false
set_option maxRecDepth 100000
set_option maxHeartbeats 2000000
/-! LxKwX: methods called with keywords; calls below a try, whose exception the try may want. -/
namespace Lx
open PySem PySem.Spec PyProof.Rows L2
section
variable {P : Program} {w : World} {K : PySem.W.Frag} {mg : Str → Option Value} {base : Heap} {CX : CXT} {k : Nat} {f : Addr} {fd : FuncData} {ps : List Str} {sp : Sp}
/-- the promise of a def told of values by name: n by position, the further parameters by the names ks -/
def byName (n : Nat) (ks : List Str) (sp : Sp) : SpW := fun vs kvs H Q E => vs.length = n ∧ kvs.map (·.1) = ks ∧ sp (vs ++ kvs.map (·.2)) H Q E
theorem kwR_split : ∀ {kvs : List (Str × V)} {kws : List (Str × Value)}, KwR kvs kws → Vals (kvs.map (·.2)) (kws.map (·.2))
  | _, _, .nil => .nil
  | _, _, .cons h r => .cons h.2 (kwR_split r)
theorem zip_unzip {α : Type} : ∀ kws : List (Str × α), (kws.map (·.1)).zip (kws.map (·.2)) = kws
  | [] => rfl
  | (k, v) :: r => by rw [List.map_cons, List.map_cons, List.zip_cons_cons, zip_unzip r]
theorem FnOk.byName (F : FnOk P w K mg base CX k f fd ps sp) (n : Nat) (ks : List Str)
    (hb : ∀ (s : Shared) (us ws : List Value), K.In s.heap → us.length = n → ws.length = ks.length → BindsTo s fd ⟨us, ks.zip ws⟩ (ps.zip (us ++ ws))) : FnW P w K mg base CX k f (Lx.byName n ks sp) := by
  intro A outer s H us vs kws kvs Q E hr e0 r rk nd ⟨h1, h2, h3⟩
  have KX : K.In s.heap := e0.mod.kin.keeps fun b o e => (e0.bs b o e).1
  have e1 : kws.map (·.1) = ks := by rw [← rk.names]; exact h2
  have b := hb s us (kws.map (·.2)) KX (by rw [← r.length]; exact h1) (by rw [← e1, List.length_map, List.length_map])
  rw [← e1, zip_unzip] at b
  exact F.run A outer s H ⟨us, kws⟩ _ _ Q E hr e0 b (r.append (kwR_split rk)) h3
theorem Fun.bindsW {x qual : Str} {st : Stmt} {n : Nat} {ks : List Str} (F : Fun K x qual st f fd)
    (h : ∀ (kV doc pm : Value) (an : Option Addr) (cdv ct : Value) (us ws : List Value), us.length = n → ws.length = ks.length → bindArgs (PySem.W.fnOf x qual (defArgs st) (defBody st) (defScope st) .none kV doc pm an cdv ct) ⟨us, ks.zip ws⟩ = pure (ps.zip (us ++ ws))) :
    ∀ (s : Shared) (us ws : List Value), K.In s.heap → us.length = n → ws.length = ks.length → BindsTo s fd ⟨us, ks.zip ws⟩ (ps.zip (us ++ ws)) := by
  obtain ⟨oc, od, kV, doc, pm, an, cdv, ct, osl, rfl, lk, hcd⟩ := F.ex
  exact fun s us ws _ l1 l2 => .of_eq (h kV doc pm an cdv ct us ws l1 l2)
end
/-- o.m(e, .., k = v, ..) -/
def tMethW (C : Addr) (m : Str) (ks : List Str) (sp : SpW) (E : L2.St → XK) (ta : TE) (t tk : TA) : TE := fun σ H Q => ta σ H fun x H1 => ∃ a dx fs, x = .ref a ∧ H1 a = some (.ins C dx fs) ∧ fs.lookup m = none ∧
  t σ H1 fun vs H2 => tk σ H2 fun zs H3 => sp (.ref a :: vs) (ks.zip zs) H3 Q (E σ)
/-- .. without keywords, told at the slots -/
def tMethE (C : Addr) (m : Str) (sp : Sp) (E : L2.St → XK) (ta : TE) (t : TA) : TE := fun σ H Q => ta σ H fun x H1 => ∃ a dx fs, x = .ref a ∧ H1 a = some (.ins C dx fs) ∧ fs.lookup m = none ∧
  t σ H1 fun vs H2 => sp (.ref a :: vs) H2 Q (E σ)
section
variable {X : Cx} {CX : CXT} {k : Nat} {f C : Addr} {fd : FuncData} {ps ks : List Str} {sp : Sp} {spw : SpW} {E : L2.St → XK} {m : Str} {o e : Expr} {es : List Expr} {kws : List Keyword} {apos pos : Pos} {ta : TE} {t tk : TA}
theorem run_fnW {pins : List (Addr × Obj)} {σ : L2.St} {H : Hp} {s : Shared} {Q : VK} {us : List Value} {vs : List V} {kw : List (Str × Value)} {kvs : List (Str × V)} (F : FnW X.prog X.w X.K X.mg X.base CX k f spw) (hr : Room k X.A) (hx : PassesAt CX X σ (E σ)) (I : Inv X pins σ H s) (r : Vals vs us) (rk : KwR kvs kw) (nd : (kw.map (·.1)).Nodup)
    (h : spw vs kvs H Q (E σ)) : wpAny (model X.prog X.w) X.A (call (.ref f) us kw) (EP X pins σ Q) X.xe s := by
  refine wpAny_call (codeAny_mono (F X.A X.stack s H us vs kw kvs Q (E σ) hr I.env0 r rk nd h) fun z s' hq => ?_)
  cases z with
  | error e => exact hx pins H s e s' I hq
  | ok fl =>
    cases fl with
    | ret u => exact I.after hq
    | next => exact False.elim hq
    | brk => exact False.elim hq
    | cont => exact False.elim hq
theorem pe_methW {pl : Sem Bool} (he : PE X o ta) (c : Cls X.K C) (hm : Meth X.K C m f) (F : FnW X.prog X.w X.K X.mg X.base CX k f spw) (hr : Room k X.A) (hx : ∀ σ, PassesAt CX X σ (E σ)) (ha : PA X (e :: es) t) (hkw : PK X kws tk)
    (nd : ks.Nodup := by decide) (hall : (backToKw pos (keywordEach kws X.env)).all (·.1.isSome) = true := by rfl) (hks : (backToKw pos (keywordEach kws X.env)).filterMap (·.1) = ks := by rfl)
    (hst : starEach (e :: es) X.env = (false, eval e X.env) :: starEach es X.env := by rfl) (hpl : ((backTo pos (starEach (e :: es) X.env)).any (·.1) || (backToKw pos (keywordEach kws X.env)).any (·.1.isNone)) = false := by rfl)
    (ht : eval (.Call (.Attribute o m apos) (e :: es) kws pos) X.env = (do
      let ov ← eval o X.env
      standAt apos.atName
      let (f, first) ← holding [ov] (getMethod ov m pl)
      callWith pos f first (backTo pos (starEach (e :: es) X.env)) (backToKw pos (keywordEach kws X.env))) := by rfl) :
    PE X (.Call (.Attribute o m apos) (e :: es) kws pos) (tMethW C m ks spw E ta t tk) := by
  refine ⟨fun pins s σ H Q I h => ?_⟩
  refine PySem.W.methodCall_KW (pl := pl) (thn (he.run pins s σ H _ I h) fun u s1 ⟨x, H1, I1, rx, a, dx, fs, ex, ea, l, q⟩ => ?_) ht
  subst ex
  obtain rfl : u = Value.ref a := rx
  refine getmeth_ok I1 ea c hm l ?_
  refine PySem.W.callWith_KW (first := [.ref a]) (h₀ := X.base) I.ok.mod.kin hm.kp hall (thn (ha.run pos pins s1 σ H1 _ I1 q) fun us s2 ⟨vs, H2, I2, r, q2⟩ => ?_) hpl hst
  refine thn (hkw.run pos pins s2 σ H2 _ I2 q2) fun ws s3 ⟨zs, H3, I3, rz, q3⟩ => ⟨I3.kIn, ?_⟩
  rw [hks]
  exact run_fnW (us := .ref a :: us) (vs := .ref a :: vs) F hr (hx σ) I3 (.cons rfl r) (kwR_zip rz) (zip_nodup nd) q3
theorem pe_methW0 {pl : Sem Bool} (he : PE X o ta) (c : Cls X.K C) (hm : Meth X.K C m f) (F : FnW X.prog X.w X.K X.mg X.base CX k f spw) (hr : Room k X.A) (hx : ∀ σ, PassesAt CX X σ (E σ)) (hkw : PK X kws tk)
    (nd : ks.Nodup := by decide) (hall : (backToKw pos (keywordEach kws X.env)).all (·.1.isSome) = true := by rfl) (hks : (backToKw pos (keywordEach kws X.env)).filterMap (·.1) = ks := by rfl)
    (hpl : ((backTo pos (starEach [] X.env)).any (·.1) || (backToKw pos (keywordEach kws X.env)).any (·.1.isNone)) = false := by rfl)
    (ht : eval (.Call (.Attribute o m apos) [] kws pos) X.env = (do
      let ov ← eval o X.env
      standAt apos.atName
      let (f, first) ← holding [ov] (getMethod ov m pl)
      callWith pos f first (backTo pos (starEach [] X.env)) (backToKw pos (keywordEach kws X.env))) := by rfl) :
    PE X (.Call (.Attribute o m apos) [] kws pos) (tMethW C m ks spw E ta tNil tk) := by
  refine ⟨fun pins s σ H Q I h => ?_⟩
  refine PySem.W.methodCall_KW (pl := pl) (thn (he.run pins s σ H _ I h) fun u s1 ⟨x, H1, I1, rx, a, dx, fs, ex, ea, l, q⟩ => ?_) ht
  subst ex
  obtain rfl : u = Value.ref a := rx
  refine getmeth_ok I1 ea c hm l ?_
  refine PySem.W.callWith_KW0 (first := [.ref a]) (h₀ := X.base) I.ok.mod.kin hm.kp hall ?_ hpl
  refine thn (hkw.run pos pins s1 σ H1 _ I1 q) fun ws s3 ⟨zs, H3, I3, rz, q3⟩ => ⟨I3.kIn, ?_⟩
  rw [hks]
  exact run_fnW (us := [.ref a]) (vs := [.ref a]) F hr (hx σ) I3 (.cons rfl .nil) (kwR_zip rz) (zip_nodup nd) q3
theorem pe_methE {pl : Sem Bool} (he : PE X o ta) (c : Cls X.K C) (hm : Meth X.K C m f) (F : FnOk X.prog X.w X.K X.mg X.base CX k f fd ps sp) (hr : Room k X.A) (hb : Binds X.K fd ps []) (hx : ∀ σ, PassesAt CX X σ (E σ)) (ha : PA X (e :: es) t)
    (hst : starEach (e :: es) X.env = (false, eval e X.env) :: starEach es X.env := by rfl) (hpl : (backTo pos (starEach es X.env)).any (·.1) = false := by rfl)
    (ht : eval (.Call (.Attribute o m apos) (e :: es) [] pos) X.env = (do
      let ov ← eval o X.env
      standAt apos.atName
      let (f, first) ← holding [ov] (getMethod ov m pl)
      callWith pos f first (backTo pos (starEach (e :: es) X.env)) (backToKw pos (keywordEach [] X.env))) := by rfl) :
    PE X (.Call (.Attribute o m apos) (e :: es) [] pos) (tMethE C m sp E ta t) := by
  refine ⟨fun pins s σ H Q I h => ?_⟩
  refine PySem.W.methodCall_KW (pl := pl) (thn (he.run pins s σ H _ I h) fun u s1 ⟨x, H1, I1, rx, a, dx, fs, ex, ea, l, q⟩ => ?_) ht
  subst ex
  obtain rfl : u = Value.ref a := rx
  refine getmeth_ok I1 ea c hm l ?_
  refine PySem.W.callWith_K (first := [.ref a]) (h₀ := X.base) I.ok.mod.kin hm.kp (thn (ha.run pos pins s1 σ H1 _ I1 q) fun us s2 ⟨vs, H2, I2, r, q2⟩ => ⟨I2.kIn, ?_⟩) hst hpl
  exact run_fnS (us := .ref a :: us) (vs := .ref a :: vs) F hr hb (hx σ) I2 (.cons rfl r) q2
/-- nothing is let out -/
theorem passE0 {X : Cx} (σ : L2.St) : PassesAt (L2.CX X.prog X.w) X σ ((fun _ => E0 : L2.St → XK) σ) := fun pins H s e s' I c => passL pins σ H s e s' I c
theorem passN0 {X : Cx} {E : L2.St → XK} (σ : L2.St) : PassesAt CX0 X σ (E σ) := fun _ _ _ _ _ _ z => z.elim
end
end Lx
set_option Elab.async false
set_option linter.all false
set_option maxRecDepth 100000
set_option maxHeartbeats 4000000
/-! LxZip: zip of any number of lists and tuples. -/
namespace Lx
open PySem PySem.Spec PyProof.Rows

/-- an iterator, what it goes through, is that a tuple -/
abbrev ZE := Addr × Addr × Bool
def ZIt (h : Heap) (e : ZE) (k : Nat) : Prop := match e with
  | (i, l, true) => h.IsTupleIter i l k
  | (i, l, false) => h.IsListIter i l k
def ZSq (h : Heap) (e : ZE) (xs : Array Value) : Prop := match e with
  | (_, l, true) => h.IsTuple l xs
  | (_, l, false) => h.IsList l xs
theorem ZIt.at {h h' : Heap} {e : ZE} {k : Nat} (x : ZIt h e k) (hk : ∀ o, h.get? e.1 = some o → h'.get? e.1 = some o) : ZIt h' e k := by
  obtain ⟨i, l, t⟩ := e
  cases t with
  | true =>
    obtain ⟨o, ho, r⟩ := x
    exact ⟨o, hk o ho, r⟩
  | false =>
    obtain ⟨o, ho, r⟩ := x
    exact ⟨o, hk o ho, r⟩
theorem ZSq.at {h h' : Heap} {e : ZE} {xs : Array Value} (x : ZSq h e xs) (hk : ∀ o, h.get? e.2.1 = some o → h'.get? e.2.1 = some o) : ZSq h' e xs := by
  obtain ⟨i, l, t⟩ := e
  cases t with
  | true =>
    obtain ⟨o, ho, r⟩ := x
    exact ⟨o, hk o ho, r⟩
  | false =>
    obtain ⟨o, ho, r⟩ := x
    exact ⟨o, hk o ho, r⟩
section
variable {prog : Program} {w : World} {A : Around} {E : Value → Shared → Prop} {s : Shared}
theorem next_item {e : ZE} {k : Nat} {xs : Array Value} {x : Value} {Q : Value → Shared → Prop} (hi : ZIt s.heap e k) (hs : ZSq s.heap e xs) (hx : xs[k]? = some x)
    (hQ : ∀ h', ZIt h' e (k + 1) → Heap.SameBut e.1 s.heap h' → Q x { s with heap := h' }) : wpAny (model prog w) A (Builtin.SmallTypes.nextOf (.ref e.1)) Q E s := by
  obtain ⟨i, l, t⟩ := e
  cases t with
  | true => exact RZ.nextOf_tuple_item hi hs hx hQ
  | false => exact wpAny_nextOf_list_item hi hs hx hQ
theorem next_end {e : ZE} {k : Nat} {xs : Array Value} {Q : Value → Shared → Prop} (hh : A.handled = none) (hi : ZIt s.heap e k) (hs : ZSq s.heap e xs) (hx : xs[k]? = none)
    (hE : ∀ h' u, Heap.ExtBut e.1 s.heap h' → (∃ o, h'.get? u = some o ∧ o.cls = .type "StopIteration") → E (.ref u) { s with heap := h' }) : wpAny (model prog w) A (Builtin.SmallTypes.nextOf (.ref e.1)) Q E s := by
  obtain ⟨i, l, t⟩ := e
  cases t with
  | true => exact RZ.nextOf_tuple_end hh hi hs hx hE
  | false => exact wpAny_nextOf_list_end hh hi hs hx hE
end
/-- a zip object at z: its iterators' tuple at TI, the tuple that it keeps at TO -/
structure ZN (h : Heap) (z TI TO : Addr) (es : List ZE) (f0 : Value) (ar : List Value) : Prop where
  obj : IsZip h z TI TO f0
  its : h.get? TI = some { cls := .type "tuple", data := .seq (es.map fun e => Value.ref e.1).toArray }
  kept : h.get? TO = some { cls := .type "tuple", data := .seq ar.toArray }
  len : ar.length = es.length
theorem mapSeq_tup (f : Array Value → Array Value) (X : Array Value) (hf : (f X).size = X.size) : some (Obj.mapSeq f { cls := .type "tuple", data := .seq X }) = some ({ cls := .type "tuple", data := .seq (f X) } : Obj) := by simp [Obj.mapSeq, hf]
structure ZApart (z TI TO : Addr) (es : List ZE) : Prop where
  nd : (z :: TI :: TO :: es.map (·.1)).Nodup
  seq : ∀ e ∈ es, e.2.1 ∉ z :: TI :: TO :: es.map (·.1)
theorem zat {es : List ZE} {j : Nat} {e : ZE} (h : es[j]? = some e) : e ∈ es := List.mem_of_getElem? h
section
variable {prog : Program} {w : World} {A : Around} {E : Value → Shared → Prop} {s : Shared}
theorem zipN_next {z TI TO : Addr} {es : List ZE} {k : Nat} {ar : List Value} {xs : List (Array Value)} {Q : Value → Shared → Prop} (hh : A.handled = none) (D : ZApart z TI TO es) (Z : ZN s.heap z TI TO es .none ar) (hi : ∀ e ∈ es, ZIt s.heap e k) (hne : es ≠ []) (hlen : es.length ≤ 1000)
    (hx : xs.length = es.length) (hs : ∀ (j : Nat) (e : ZE) (x : Array Value), es[j]? = some e → xs[j]? = some x → ZSq s.heap e x)
    (hQ : ∀ (vs : List Value) (h' : Heap), vs.length = es.length → (∀ (j : Nat) (x : Array Value), xs[j]? = some x → x[k]? = vs[j]?) → ZN h' z TI TO es (rawInt s.heap.objs.size) vs → (∀ e ∈ es, ZIt h' e (k + 1)) → h'.get? s.heap.objs.size = some { cls := .type "tuple", data := .seq vs.toArray } →
      h'.objs.size = s.heap.objs.size + 1 → (∀ c o, c ∉ z :: TO :: es.map (·.1) → s.heap.get? c = some o → h'.get? c = some o) → Q (.ref s.heap.objs.size) { s with heap := h' })
    (hE : ∀ h' u, (∃ (j : Nat) (x : Array Value), xs[j]? = some x ∧ x[k]? = none) → (∀ c o, c ∉ z :: TO :: es.map (·.1) → s.heap.get? c = some o → h'.get? c = some o) → (∃ o, h'.get? u = some o ∧ o.cls = .type "StopIteration") → E (.ref u) { s with heap := h' }) :
    wpAny (model prog w) A (Builtin.«zip.__next__» ⟨[.ref z], []⟩) (fun fin s' => ∃ v, fin = .done (.ret v) ∧ Q v s') E s := by
  have hz := Z.obj
  show wpAny _ _ (field (.ref z) 2 >>= _) _ _ _
  refine wpAny_bind (wpAny_field hz rfl (x := .bool false) rfl ?_)
  show wpAny _ _ (field (.ref z) 3 >>= _) _ _ _
  refine wpAny_bind (wpAny_field hz rfl (x := .ref TI) rfl ?_)
  refine wpAny_bind (wpAny_seqItems Z.its rfl ?_)
  have e1 : (es.map fun e => Value.ref e.1).toArray.isEmpty = false := by
    rw [List.isEmpty_toArray]
    cases es with
    | nil => exact absurd rfl hne
    | cons _ _ => rfl
  dsimp only
  rw [e1, if_neg Bool.false_ne_true]
  refine wpAny_bind ?_
  unfold Builtin.SmallTypes.ownedTupleIsFree
  refine wpAny_bind (wpAny_field hz rfl (x := .none) rfl (wpAny_pure ?_))
  rw [if_pos rfl]
  refine wpAny_bind (wpAny_rule ?_)
  refine wpAny_bind (wpAny_field hz rfl (x := .ref TO) rfl ?_)
  refine wpAny_bind (wpAny_setField_rec hz (by simp) fun h₁ hz₁ hs₁ => ?_)
  replace hz₁ : IsZip h₁ z TI TO .ellipsis := hz₁
  refine wpAny_bind ?_
  have nd := D.nd
  have dz : ∀ {e : ZE}, e ∈ es → e.1 ≠ z ∧ e.1 ≠ TI ∧ e.1 ≠ TO := fun {e} he => by
    have q : e.1 ∈ es.map (·.1) := List.mem_map.mpr ⟨e, he, rfl⟩
    simp only [List.nodup_cons, List.mem_cons, not_or] at nd
    exact ⟨fun y => nd.1.2.2 (y ▸ q), fun y => nd.2.1.2 (y ▸ q), fun y => nd.2.2.1 (y ▸ q)⟩
  have dd : TI ≠ z ∧ TO ≠ z ∧ TI ≠ TO := by
    simp only [List.nodup_cons, List.mem_cons, not_or] at nd
    exact ⟨Ne.symm nd.1.1, Ne.symm nd.1.2.1, nd.2.1.1⟩
  have di : ∀ {m j : Nat} {e e' : ZE}, es[m]? = some e → es[j]? = some e' → m ≠ j → e.1 ≠ e'.1 := fun {m j e e'} hm hj hmj y => by
    simp only [List.nodup_cons] at nd
    have h1 : (es.map (·.1))[m]? = some e.1 := by rw [List.getElem?_map, hm]; rfl
    have h2 : (es.map (·.1))[j]? = some e.1 := by rw [List.getElem?_map, hj, y]; rfl
    obtain ⟨l1, g1⟩ := List.getElem?_eq_some_iff.mp h1
    obtain ⟨l2, g2⟩ := List.getElem?_eq_some_iff.mp h2
    exact hmj ((List.getElem_inj (h₀ := l1) (h₁ := l2) nd.2.2.2).mp (g1.trans g2.symm))
  have hTO₁ : h₁.get? TO = some { cls := .type "tuple", data := .seq ar.toArray } := hs₁.extBut _ _ dd.2.1 Z.kept
  refine wpAny_forIn_list _ (fun rest b s' => ∃ (j : Nat) (h : Heap) (vs : List Value), rest = ((es.map fun e => Value.ref e.1).drop j).zipIdx j ∧ b = (none, ()) ∧ s' = { s with heap := h } ∧ IsZip h z TI TO .ellipsis ∧ vs.length = j ∧
      h.get? TO = some { cls := .type "tuple", data := .seq (vs ++ ar.drop j).toArray } ∧ (∀ (m : Nat) (x : Array Value), m < j → xs[m]? = some x → x[k]? = vs[m]?) ∧ (∀ (m : Nat) (e : ZE), es[m]? = some e → ZIt h e (if m < j then k + 1 else k)) ∧
      (∀ c o, c ∉ z :: TO :: es.map (·.1) → s.heap.get? c = some o → h.get? c = some o) ∧ h.objs.size = s.heap.objs.size ∧ j ≤ es.length) _ (fun x rest b s' I => ?_) (fun b s' I => ?_) _ _
    ⟨0, h₁, [], rfl, rfl, rfl, hz₁, rfl, hTO₁, fun m x hm => absurd hm (Nat.not_lt_zero _), fun m e hm => (hi e (zat hm)).at fun o q => hs₁.extBut _ _ (dz (zat hm)).1 q, fun c o hc q => hs₁.extBut _ _ (fun y => hc (y ▸ List.mem_cons_self ..)) q, hs₁.1, Nat.zero_le _⟩
  · obtain ⟨j, h, vs, er, rfl, rfl, i1, i2, i3, i4, i5, i6, i7, i8⟩ := I
    obtain ⟨e, hj⟩ : ∃ e, es[j]? = some e := by
      cases q : es[j]? with
      | some e => exact ⟨e, rfl⟩
      | none =>
        have l : es.length ≤ j := List.getElem?_eq_none_iff.mp q
        rw [List.drop_eq_nil_of_le (by rw [List.length_map]; exact l)] at er
        cases er
    have hjl : j < es.length := (List.getElem?_eq_some_iff.mp hj).1
    have hdrop : (es.map fun e => Value.ref e.1).drop j = Value.ref e.1 :: (es.map fun e => Value.ref e.1).drop (j + 1) := by
      have q : (es.map fun e => Value.ref e.1)[j]? = some (Value.ref e.1) := by rw [List.getElem?_map, hj]; rfl
      obtain ⟨l1, g1⟩ := List.getElem?_eq_some_iff.mp q
      rw [List.drop_eq_getElem_cons l1, g1]
    rw [hdrop, List.zipIdx_cons] at er
    obtain ⟨rfl, rfl⟩ := List.cons.inj er
    obtain ⟨ya, hya⟩ : ∃ ya, xs[j]? = some ya := ⟨_, List.getElem?_eq_getElem (show j < xs.length by omega)⟩
    have he := zat hj
    obtain ⟨n1, n2, n3⟩ := dz he
    have hsq : ZSq h e ya := (hs j e ya hj hya).at fun o q => i6 _ o (fun y => D.seq e he (by
      rcases List.mem_cons.mp y with y | y
      · rw [y]
        exact List.mem_cons_self ..
      · rcases List.mem_cons.mp y with y | y
        · rw [y]
          exact List.mem_cons_of_mem _ (List.mem_cons_of_mem _ (List.mem_cons_self ..))
        · exact List.mem_cons_of_mem _ (List.mem_cons_of_mem _ (List.mem_cons_of_mem _ y)))) q
    have hit : ZIt h e k := by
      have q := i5 j e hj
      rw [if_neg (Nat.lt_irrefl _)] at q
      exact q
    refine wpAny_bind (wpAny_onRaise ?_)
    show wpAny _ _ (Builtin.SmallTypes.nextOf (.ref e.1) >>= _) _ _ _
    cases hk : ya[k]? with
    | none =>
      refine wpAny_bind (next_end (s := { s with heap := h }) hh hit hsq hk fun h₂ u hs₂ hu => ?_)
      obtain ⟨ou, hou, hcu⟩ := hu
      have hz₂ : IsZip h₂ z TI TO .ellipsis := hs₂ _ _ n1.symm i1
      have huz : u ≠ z := fun y => by
        subst y
        rw [hz₂] at hou
        cases hou
        simp at hcu
      refine wpAny_setField_rec hz₂ (by simp) fun h₃ _ hs₃ => hE h₃ u ⟨j, ya, hya, hk⟩ (fun c o hc q => hs₃.extBut _ _ (fun y => hc (y ▸ List.mem_cons_self ..)) (hs₂ _ _ (fun y => hc (by
        rw [y]
        exact List.mem_cons_of_mem _ (List.mem_cons_of_mem _ (List.mem_map.mpr ⟨e, he, rfl⟩)))) (i6 c o hc q))) ⟨ou, hs₃.extBut _ _ huz hou, hcu⟩
    | some v =>
      refine wpAny_bind (next_item (s := { s with heap := h }) hit hsq hk fun h₂ hit₂ hs₂ => wpAny_pure ?_)
      have hTO₂ : h₂.get? TO = some { cls := .type "tuple", data := .seq (vs ++ ar.drop j).toArray } := hs₂.extBut _ _ n3.symm i3
      have hal : j < ar.length := by rw [Z.len]; exact hjl
      have hlen2 : (vs ++ ar.drop j).length = es.length := by
        rw [List.length_append, List.length_drop, i2, Z.len]
        omega
      refine wpAny_bind (wpAny_seqItems hTO₂ rfl ?_)
      refine wpAny_bind (wpAny_updateSeq hTO₂ rfl ?_ (by rw [List.size_toArray, hlen2, sizeLine_eq]; omega) (by simp only [Array.size_setIfInBounds, List.size_toArray, hlen2, sizeLine_eq]; omega))
      refine wpAny_bind (wpAny_letGo (wpAny_pure ?_))
      have hup : (h₂.update TO (Obj.mapSeq fun a => a.setIfInBounds j v)).get? TO = some { cls := .type "tuple", data := .seq (vs ++ [v] ++ ar.drop (j + 1)).toArray } := by
        rw [Heap.get?_update_self _ hTO₂ rfl]
        have e : (vs ++ ar.drop j).toArray.setIfInBounds j v = (vs ++ [v] ++ ar.drop (j + 1)).toArray := by
          rw [List.setIfInBounds_toArray]
          congr 1
          have e2 : (vs ++ ar.drop j).set j v = vs ++ (ar.drop j).set 0 v := by
            have q := List.set_append_right (s := vs) (t := ar.drop j) j v (by omega)
            rw [q, i2, Nat.sub_self]
          rw [e2, List.drop_eq_getElem_cons hal, List.set_cons_zero, List.append_assoc]
          rfl
        rw [mapSeq_tup _ _ (Array.size_setIfInBounds ..), e]
      have ko : ∀ c o, c ≠ TO → c ≠ e.1 → h.get? c = some o → (h₂.update TO (Obj.mapSeq fun a => a.setIfInBounds j v)).get? c = some o := fun c o c1 c2 q => (Heap.get?_update_ne _ _ _ _ c1).trans (hs₂.extBut _ _ c2 q)
      refine ⟨j + 1, _, vs ++ [v], rfl, rfl, rfl, ko _ _ dd.2.1.symm n1.symm i1, by rw [List.length_append, i2]; rfl, hup, fun m x hm hx' => ?_, fun m e' hm => ?_, fun c o hc q => ?_, ?_, hjl⟩
      · rcases Nat.lt_or_ge m j with c | c
        · rw [List.getElem?_append_left (by omega)]
          exact i4 m x c hx'
        · obtain rfl : m = j := by omega
          rw [hya] at hx'
          cases hx'
          rw [hk, List.getElem?_append_right (by omega), i2, Nat.sub_self]
          rfl
      · by_cases c : m = j
        · subst c
          rw [hj] at hm
          cases hm
          rw [if_pos (Nat.lt_succ_self _)]
          exact hit₂.at fun o q => (Heap.get?_update_ne _ _ _ _ n3).trans q
        · have q := i5 m e' hm
          have c2 : (m < j + 1) ↔ m < j := by omega
          simp only [c2]
          exact q.at fun o q => ko _ _ (dz (zat hm)).2.2 (di hm hj c) q
      · refine ko c o (fun y => hc ?_) (fun y => hc ?_) (i6 c o hc q)
        · rw [y]
          exact List.mem_cons_of_mem _ (List.mem_cons_self ..)
        · rw [y]
          exact List.mem_cons_of_mem _ (List.mem_cons_of_mem _ (List.mem_map.mpr ⟨e, he, rfl⟩))
      · exact (Heap.size_update ..).trans (hs₂.1.trans i7)
  · obtain ⟨j, h, vs, er, rfl, rfl, i1, i2, i3, i4, i5, i6, i7, i8⟩ := I
    have hjn : j = es.length := by
      rcases Nat.lt_or_ge j es.length with c | c
      · have q := congrArg List.length er
        rw [List.length_zipIdx, List.length_drop, List.length_map] at q
        have q' : 0 = es.length - j := q
        omega
      · omega
    subst hjn
    rw [List.drop_eq_nil_of_le (Nat.le_of_eq Z.len), List.append_nil] at i3
    dsimp only
    refine wpAny_bind (wpAny_seqItems i3 rfl ?_)
    refine wpAny_bind (wpAny_newTuple ?_ (by rw [List.toList_toArray, i2, sizeLine_eq]; omega))
    rw [List.toList_toArray]
    refine wpAny_bind ?_
    unfold Builtin.SmallTypes.ownedTupleHandOut
    have hz₆ : IsZip (h.push { cls := .type "tuple", data := .seq vs.toArray }) z TI TO .ellipsis := Heap.get?_push_of_some _ i1
    refine wpAny_bind (wpAny_setField_rec (s := { s with heap := h.push { cls := .type "tuple", data := .seq vs.toArray } }) hz₆ (by simp) fun h₇ hz₇ hs₇ => ?_)
    replace hz₇ : IsZip h₇ z TI TO (rawInt h.objs.size) := hz₇
    refine wpAny_setField_rec hz₇ (by simp) fun h₈ hz₈ hs₈ => ?_
    replace hz₈ : IsZip h₈ z TI TO (rawInt h.objs.size) := hz₈
    have up : ∀ c o, c ≠ z → h.get? c = some o → h₈.get? c = some o := fun c o c1 q => hs₈.extBut _ _ c1 (hs₇.extBut _ _ c1 (Heap.get?_push_of_some _ q))
    have hzlt : z < h.objs.size := Heap.lt_size i1
    have hT₈ : h₈.get? h.objs.size = some { cls := .type "tuple", data := .seq vs.toArray } := hs₈.extBut _ _ (Nat.ne_of_gt hzlt) (hs₇.extBut _ _ (Nat.ne_of_gt hzlt) (Heap.get?_push_size _ rfl))
    have hz8 : h₈.objs.size = h.objs.size + 1 := by rw [hs₈.1, hs₇.1, Heap.size_push]
    rw [i7] at hz₈ hT₈ hz8
    refine wpAny_pure ⟨_, rfl, ?_⟩
    show Q (.ref h.objs.size) _
    rw [i7]
    have hTI : h.get? TI = some { cls := .type "tuple", data := .seq (es.map fun e => Value.ref e.1).toArray } := i6 _ _ (fun y => by
      rcases List.mem_cons.mp y with y | y
      · exact dd.1 y
      · rcases List.mem_cons.mp y with y | y
        · exact dd.2.2 y
        · obtain ⟨e, he, q⟩ := List.mem_map.mp y
          exact (dz he).2.1 q) Z.its
    exact hQ vs h₈ i2 (fun m x hx' => i4 m x (by rw [← hx]; exact (List.getElem?_eq_some_iff.mp hx').1) hx') ⟨hz₈, up _ _ dd.1 hTI, up _ _ dd.2.1 i3, i2⟩ (fun e he => by
      obtain ⟨m, hm⟩ := List.mem_iff_getElem?.mp he
      have q := i5 m e hm
      rw [if_pos (List.getElem?_eq_some_iff.mp hm).1] at q
      exact q.at fun o r => up _ o (dz he).1 r) hT₈ hz8 fun c o hc q => up c o (fun y => hc (y ▸ List.mem_cons_self ..)) (i6 c o hc q)
end
end Lx
namespace Lx
open PySem PySem.Spec PyProof.Rows
def mkE (b : Nat) : List (Addr × Bool) → List ZE
  | [] => []
  | (l, t) :: r => (b, l, t) :: mkE (b + 1) r
theorem mkE_len : ∀ (ls : List (Addr × Bool)) (b : Nat), (mkE b ls).length = ls.length
  | [], _ => rfl
  | (_, _) :: r, b => by
    show (mkE (b + 1) r).length + 1 = r.length + 1
    rw [mkE_len r]
theorem mkE_seqs : ∀ (ls : List (Addr × Bool)) (b : Nat), (mkE b ls).map (·.2) = ls
  | [], _ => rfl
  | (_, _) :: r, b => by
    show (_ :: (mkE (b + 1) r).map (·.2)) = _
    rw [mkE_seqs r]
theorem mkE_its : ∀ (ls : List (Addr × Bool)) (b : Nat), (mkE b ls).map (·.1) = List.range' b ls.length
  | [], _ => rfl
  | (_, _) :: r, b => by
    show (b :: (mkE (b + 1) r).map (·.1)) = _
    rw [mkE_its r, List.length_cons, List.range'_succ]
section
variable {prog : Program} {w : World} {A : Around} {E : Value → Shared → Prop} {g : Array GenState} {d : Drawn} {tk : Nat} {os : OsState}
theorem iter_any {l : Addr} {t : Bool} {xs : Array Value} {h : Heap} {Q : Value → Shared → Prop} (hs : ZSq h (0, l, t) xs)
    (hQ : ∀ h', ZIt h' (h.objs.size, l, t) 0 → h'.objs.size = h.objs.size + 1 → (∀ c o, h.get? c = some o → h'.get? c = some o) → Q (.ref h.objs.size) ⟨h', g, d, tk, os⟩) : wpAny (model prog w) A (pyIter (.ref l)) Q E ⟨h, g, d, tk, os⟩ := by
  cases t with
  | true => exact wpAny_pyIter_tuple (s := ⟨h, g, d, tk, os⟩) hs (hQ _ ⟨_, Heap.get?_push_size _ rfl, rfl, rfl⟩ (Heap.size_push ..) fun c o q => Heap.get?_push_of_some _ q)
  | false => exact wpAny_pyIter_list (s := ⟨h, g, d, tk, os⟩) hs (hQ _ ⟨_, Heap.get?_push_size _ rfl, rfl, rfl⟩ (Heap.size_push ..) fun c o q => Heap.get?_push_of_some _ q)
theorem iter_all : ∀ {ls : List (Addr × Bool)} {acc : Array Value} {h : Heap} {Q : Array Value → Shared → Prop}, (∀ p ∈ ls, ∃ xs, ZSq h (0, p) xs) →
    (∀ h', (∀ e ∈ mkE h.objs.size ls, ZIt h' e 0) → h'.objs.size = h.objs.size + ls.length → (∀ c o, h.get? c = some o → h'.get? c = some o) → Q (acc ++ ((mkE h.objs.size ls).map fun e => Value.ref e.1).toArray) ⟨h', g, d, tk, os⟩) →
    wpAny (model prog w) A (forIn (ls.map fun p => Value.ref p.1) acc fun x its => do let v ← holding its.toList (pyIter x); pure (ForInStep.yield (its.push v))) Q E ⟨h, g, d, tk, os⟩
  | [], acc, h, Q, _, hq => by
    show wpAny _ _ (forIn [] acc _) _ _ _
    rw [List.forIn_nil]
    have q := hq h (fun e he => nomatch he) rfl (fun _ _ e => e)
    simp only [mkE, List.map_nil, Array.append_empty] at q
    exact wpAny_pure q
  | (l, t) :: r, acc, h, Q, hs, hq => by
    show wpAny _ _ (forIn (Value.ref l :: r.map fun p => Value.ref p.1) acc _) _ _ _
    rw [List.forIn_cons]
    obtain ⟨xs, hx⟩ := hs (l, t) (List.mem_cons_self ..)
    refine wpAny_bind (wpAny_bind (wpAny_holding (iter_any hx fun h1 i1 i2 i3 => wpAny_pure ?_)))
    refine iter_all (fun p hp => ?_) fun h' j1 j2 j3 => ?_
    · obtain ⟨ys, hy⟩ := hs p (List.mem_cons_of_mem _ hp)
      exact ⟨ys, hy.at fun o q => i3 _ _ q⟩
    · have q := hq h' (fun e he => ?_) ?_ (fun c o e => j3 _ _ (i3 _ _ e))
      · rw [i2]
        have e : acc.push (Value.ref h.objs.size) ++ ((mkE (h.objs.size + 1) r).map fun e => Value.ref e.1).toArray = acc ++ ((mkE h.objs.size ((l, t) :: r)).map fun e => Value.ref e.1).toArray := by
          show _ = acc ++ (Value.ref h.objs.size :: (mkE (h.objs.size + 1) r).map fun e => Value.ref e.1).toArray
          simp
        rw [e]
        exact q
      · rcases List.mem_cons.mp (show e ∈ (h.objs.size, l, t) :: mkE (h.objs.size + 1) r from he) with y | y
        · subst y
          exact i1.at fun o q => j3 _ _ q
        · exact j1 e (by rw [i2]; exact y)
      · rw [j2, i2, List.length_cons]
        omega
/-- zip is made -/
theorem zip_made {ls : List (Addr × Bool)} {h : Heap} {Q : Value → Shared → Prop} (hs : ∀ p ∈ ls, ∃ xs, ZSq h (0, p) xs) (hl : ls.length ≤ 1000)
    (hQ : ∀ h', ZN h' (h.objs.size + ls.length + 2) (h.objs.size + ls.length) (h.objs.size + ls.length + 1) (mkE h.objs.size ls) .none (List.replicate ls.length .none) → (∀ e ∈ mkE h.objs.size ls, ZIt h' e 0) → h'.objs.size = h.objs.size + ls.length + 3 →
      (∀ c o, h.get? c = some o → h'.get? c = some o) → Q (.ref (h.objs.size + ls.length + 2)) ⟨h', g, d, tk, os⟩) :
    wpAny (model prog w) A (Builtin.«zip.__new__» ⟨.type "zip" :: ls.map fun p => Value.ref p.1, []⟩) (fun fin s' => ∃ v, fin = .done (.ret v) ∧ Q v s') E ⟨h, g, d, tk, os⟩ := by
  have hsub := sub_zip
  have hc : Builtin.SmallTypes.newClass "zip" ⟨Value.type "zip" :: ls.map fun p => Value.ref p.1, []⟩ = pure (Value.type "zip", ls.map fun p => Value.ref p.1) := by
    have ht : isType (Value.type "zip") = pure true := rfl
    unfold Builtin.SmallTypes.newClass
    simp [hsub, ht]
  unfold Builtin.«zip.__new__»
  refine wpAny_bind (wpAny_of_eq hc ?_)
  dsimp only
  rw [if_neg (by decide)]
  unfold Builtin.SmallTypes.iterAll
  refine wpAny_bind (wpAny_bind (iter_all hs fun h1 i1 i2 i3 => wpAny_pure ?_))
  have e1 : (#[] ++ ((mkE h.objs.size ls).map fun e : ZE => Value.ref e.1).toArray).toList = (mkE h.objs.size ls).map fun e : ZE => Value.ref e.1 := by simp
  have e2 : ((mkE h.objs.size ls).map fun e : ZE => Value.ref e.1).map (fun _ => Value.none) = List.replicate ls.length Value.none := by
    rw [List.map_map, List.eq_replicate_iff]
    refine ⟨by rw [List.length_map, mkE_len], fun b hb => ?_⟩
    obtain ⟨_, _, q⟩ := List.mem_map.mp hb
    exact q.symm
  rw [e1, e2]
  refine wpAny_bind (wpAny_newTuple (wpAny_bind (wpAny_newTuple ?_ (by rw [List.length_replicate, sizeLine_eq]; omega))) (by rw [List.length_map, mkE_len, sizeLine_eq]; omega))
  refine wpAny_bind ?_
  unfold Builtin.SmallTypes.newRecord
  refine wpAny_newObj_type (wpAny_pure ⟨_, rfl, ?_⟩) (by show 5 ≤ sizeLine + 2; rw [sizeLine_eq]; omega)
  let h2 : Heap := h1.push { cls := .type "tuple", data := .seq ((mkE h.objs.size ls).map fun e => Value.ref e.1).toArray }
  let h3 : Heap := h2.push { cls := .type "tuple", data := .seq (List.replicate ls.length Value.none).toArray }
  have z2 : h2.objs.size = h.objs.size + ls.length + 1 := by rw [Heap.size_push, i2]
  have z3 : h3.objs.size = h.objs.size + ls.length + 2 := by rw [Heap.size_push, z2]
  show Q (.ref h3.objs.size) ⟨h3.push { cls := .type "zip", data := .fields #[.none, .bool false, .bool false, .ref h1.objs.size, .ref h2.objs.size] }, g, d, tk, os⟩
  have k2 : ∀ c o, h1.get? c = some o → h2.get? c = some o := fun c o q => Heap.get?_push_of_some _ q
  have k3 : ∀ c o, h2.get? c = some o → h3.get? c = some o := fun c o q => Heap.get?_push_of_some _ q
  rw [z3]
  refine hQ _ ⟨?_, ?_, ?_, ?_⟩ (fun e he => (i1 e he).at fun o q => Heap.get?_push_of_some _ (k3 _ _ (k2 _ _ q))) (by rw [Heap.size_push, z3]) (fun c o q => Heap.get?_push_of_some _ (k3 _ _ (k2 _ _ (i3 _ _ q))))
  · have q := Heap.get?_push_size h3 (o := { cls := .type "zip", data := .fields #[.none, .bool false, .bool false, .ref h1.objs.size, .ref h2.objs.size] }) rfl
    rw [z3] at q
    refine q.trans ?_
    rw [i2, z2]
  · have q := Heap.get?_push_size h1 (o := { cls := .type "tuple", data := .seq ((mkE h.objs.size ls).map fun e => Value.ref e.1).toArray }) rfl
    rw [i2] at q
    exact Heap.get?_push_of_some _ (k3 _ _ q)
  · have q := Heap.get?_push_size h2 (o := { cls := .type "tuple", data := .seq (List.replicate ls.length Value.none).toArray }) rfl
    rw [z2] at q
    exact Heap.get?_push_of_some _ q
  · rw [List.length_replicate, mkE_len]
end
end Lx
set_option Elab.async false
set_option linter.all false
set_option maxRecDepth 100000
set_option maxHeartbeats 4000000
/-! LxZipN: zip of two or three lists and tuples, as an iterable of the calculus. -/
namespace Lx
open PySem PySem.Spec PyProof.Rows
section
variable {prog : Program} {w : World} {A : Around} {E : Value → Shared → Prop} {s : Shared}
theorem pyNext_zipN {z TI TO : Addr} {es : List ZE} {k : Nat} {ar : List Value} {xs : List (Array Value)} {Q : Option Value → Shared → Prop} (hh : A.handled = none) (D : ZApart z TI TO es) (Z : ZN s.heap z TI TO es .none ar) (hi : ∀ e ∈ es, ZIt s.heap e k) (hne : es ≠ []) (hlen : es.length ≤ 1000)
    (hx : xs.length = es.length) (hs : ∀ (j : Nat) (e : ZE) (x : Array Value), es[j]? = some e → xs[j]? = some x → ZSq s.heap e x)
    (hQ : ∀ (vs : List Value) (h' : Heap), vs.length = es.length → (∀ (j : Nat) (x : Array Value), xs[j]? = some x → x[k]? = vs[j]?) → ZN h' z TI TO es (rawInt s.heap.objs.size) vs → (∀ e ∈ es, ZIt h' e (k + 1)) → h'.get? s.heap.objs.size = some { cls := .type "tuple", data := .seq vs.toArray } →
      h'.objs.size = s.heap.objs.size + 1 → (∀ c o, c ∉ z :: TO :: es.map (·.1) → s.heap.get? c = some o → h'.get? c = some o) → Q (some (.ref s.heap.objs.size)) { s with heap := h' })
    (hE : ∀ h', (∃ (j : Nat) (x : Array Value), xs[j]? = some x ∧ x[k]? = none) → (∀ c o, c ∉ z :: TO :: es.map (·.1) → s.heap.get? c = some o → h'.get? c = some o) → Q none { s with heap := h' }) :
    wpAny (model prog w) A (pyNext (.ref z)) Q E s := by
  have hT : s.TypeIs (.ref z) "zip" := ⟨_, Z.obj, rfl⟩
  unfold pyNext
  refine wpAny_bind (wpAny_attempt (wpAny_callSpecial?_slot (name := Str.ofString "__next__") hT F.slot_zip_next
    (wpAny_call_entry F.slot_zip_next hT F.entry_zip_next (zipN_next hh D Z hi hne hlen hx hs (fun vs h' a1 a2 a3 a4 a5 a6 a7 => wpAny_pure (hQ vs h' a1 a2 a3 a4 a5 a6 a7)) fun h' u hj hk hu => ?_) (F.args_zip_next_1 _))))
  obtain ⟨o, ho, hc⟩ := hu
  refine wpAny_bind (wpAny_isInstance (T := "StopIteration") (b := true) ⟨o, ho, hc⟩ isSubtype_stop ?_)
  exact wpAny_pure (hE _ hj hk)
end
theorem typeCall_zip_3 (a b c : Value) : checkTypeCall "zip" ⟨[a, b, c], []⟩ = pure () := by kernel_rfl
theorem newCall_zip_3 (a b c : Value) : checkBuiltinCall "zip.__new__" ⟨[.type "zip", a, b, c], []⟩ = pure () := by kernel_rfl
theorem args_init_4 (a b c d : Value) : argsOk "object.__init__" ⟨[a, b, c, d], []⟩ := by unfold argsOk; kernel_rfl
theorem zip_meets (ls : List (Addr × Bool)) : Meets (Builtin.«zip.__new__» ⟨.type "zip" :: ls.map fun p => Value.ref p.1, []⟩) (fun _ R s => (∀ p ∈ ls, ∃ xs, ZSq s.heap (0, p) xs) ∧ ls.length ≤ 1000 ∧
    ∀ h', ZN h' (s.heap.objs.size + ls.length + 2) (s.heap.objs.size + ls.length) (s.heap.objs.size + ls.length + 1) (mkE s.heap.objs.size ls) .none (List.replicate ls.length .none) → (∀ e ∈ mkE s.heap.objs.size ls, ZIt h' e 0) → h'.objs.size = s.heap.objs.size + ls.length + 3 →
      (∀ c o, s.heap.get? c = some o → h'.get? c = some o) → R (.ok (.ret (.ref (s.heap.objs.size + ls.length + 2)))) { s with heap := h' }) :=
  .of_wp fun prog w A R s h => by
    obtain ⟨h1, h2, h3⟩ := h
    obtain ⟨hp, g, d, tk, os⟩ := s
    refine wpAny_mono (zip_made h1 h2 h3) (fun fin s' ⟨v, e, q⟩ => ⟨_, e, q⟩) fun _ _ z => z
/-- n things to zip that the library takes -/
def ZipOk (args : List Value) : Prop := checkTypeCall "zip" ⟨args, []⟩ = pure () ∧ checkBuiltinCall "zip.__new__" ⟨.type "zip" :: args, []⟩ = pure () ∧ ∀ obj, argsOk "object.__init__" ⟨obj :: args, []⟩
theorem zipOk2 (a b : Value) : ZipOk [a, b] := ⟨F.typeCall_zip_2 _ _, F.newCall_zip_2 _ _, fun obj => F.args_object_init_3 obj _ _⟩
theorem zipOk3 (a b c : Value) : ZipOk [a, b, c] := ⟨typeCall_zip_3 _ _ _, newCall_zip_3 _ _ _, fun obj => args_init_4 obj _ _ _⟩
section
variable {prog : Program} {w : World} {A : Around} {E : Value → Shared → Prop} {s : Shared}
theorem call_zipN {ls : List (Addr × Bool)} {Q : Value → Shared → Prop} (ok : ZipOk (ls.map fun p => Value.ref p.1)) (hs : ∀ p ∈ ls, ∃ xs, ZSq s.heap (0, p) xs) (hl : ls.length ≤ 1000)
    (hQ : ∀ h', ZN h' (s.heap.objs.size + ls.length + 2) (s.heap.objs.size + ls.length) (s.heap.objs.size + ls.length + 1) (mkE s.heap.objs.size ls) .none (List.replicate ls.length .none) → (∀ e ∈ mkE s.heap.objs.size ls, ZIt h' e 0) → h'.objs.size = s.heap.objs.size + ls.length + 3 →
      (∀ c o, s.heap.get? c = some o → h'.get? c = some o) → Q (.ref (s.heap.objs.size + ls.length + 2)) { s with heap := h' }) :
    wpAny (model prog w) A (call (.type "zip") (ls.map fun p => Value.ref p.1)) Q E s :=
  callType_new F.called_zip (by decide) ok.1 ok.2.1 ok.2.2 F.entry_zip_new (zip_meets ls) ⟨hs, hl, fun h' a1 a2 a3 a4 => ⟨⟨_, a1.obj, rfl⟩, hQ h' a1 a2 a3 a4⟩⟩
end
theorem in_range {a b n : Nat} (h : a ∈ List.range' b n) : b ≤ a ∧ a < b + n := List.mem_range'_1.mp h
theorem zapart {base : Nat} {ls : List (Addr × Bool)} (h : ∀ p ∈ ls, p.1 < base) : ZApart (base + ls.length + 2) (base + ls.length) (base + ls.length + 1) (mkE base ls) where
  nd := by
    have e : (mkE base ls).map (·.1) = List.range' base ls.length := mkE_its ls base
    rw [e]
    have q : ∀ a : Nat, a ∈ List.range' base ls.length → a < base + ls.length := fun a h => (in_range h).2
    have key : ((base + ls.length + 2) :: (base + ls.length) :: (base + ls.length + 1) :: List.range' base ls.length : List Nat).Nodup := by
      refine List.nodup_cons.mpr ⟨fun y => ?_, List.nodup_cons.mpr ⟨fun y => ?_, List.nodup_cons.mpr ⟨fun y => ?_, List.nodup_range'⟩⟩⟩
      · rcases List.mem_cons.mp y with y | y
        · omega
        rcases List.mem_cons.mp y with y | y
        · omega
        have := q _ y
        omega
      · rcases List.mem_cons.mp y with y | y
        · omega
        have := q _ y
        omega
      · have := q _ y
        omega
    exact key
  seq := fun e he y => by
    have qs : e.2 ∈ ls := by
      rw [← mkE_seqs ls base]
      exact List.mem_map.mpr ⟨e, he, rfl⟩
    have l : (e.2.1 : Nat) < base := h _ qs
    have e2 : (mkE base ls).map (·.1) = List.range' base ls.length := mkE_its ls base
    rw [e2] at y
    have key : ∀ n : Nat, n < base → n ∉ ((base + ls.length + 2) :: (base + ls.length) :: (base + ls.length + 1) :: List.range' base ls.length : List Nat) := fun n l y => by
      rcases List.mem_cons.mp y with y | y
      · omega
      rcases List.mem_cons.mp y with y | y
      · omega
      rcases List.mem_cons.mp y with y | y
      · omega
      have := (in_range y).1
      omega
    exact key _ l y
end Lx
namespace Lx
open PySem PySem.Spec PyProof.Rows L2
/-- a list or a tuple -/
def SqA (K : PySem.W.Frag) (H : Hp) (p : Addr × Bool) (xs : List V) : Prop := match p with
  | (l, true) => SqT K H l xs
  | (l, false) => SqL K H l xs
theorem pick {α β : Type} {R : α → β → Prop} : ∀ (l : List α), (∀ a ∈ l, ∃ b, R a b) → ∃ m : List β, m.length = l.length ∧ ∀ (j : Nat) (a : α) (b : β), l[j]? = some a → m[j]? = some b → R a b
  | [], _ => ⟨[], rfl, fun j a b h => by simp at h⟩
  | a :: l, h => by
    obtain ⟨b, hb⟩ := h a (List.mem_cons_self ..)
    obtain ⟨m, h1, h2⟩ := pick l fun x hx => h x (List.mem_cons_of_mem _ hx)
    refine ⟨b :: m, by rw [List.length_cons, List.length_cons, h1], fun j x y hj hm => ?_⟩
    cases j with
    | zero =>
      rw [List.getElem?_cons_zero] at hj hm
      cases hj
      cases hm
      exact hb
    | succ j =>
      rw [List.getElem?_cons_succ] at hj hm
      exact h2 j x y hj hm
theorem pickV : ∀ {P : Nat → V → Prop} (us : List Value), (∀ (j : Nat) (u : Value), us[j]? = some u → ∃ v, L2.RelV v u ∧ P j v) → ∃ vs : List V, Vals vs us ∧ ∀ (j : Nat) (v : V), vs[j]? = some v → P j v
  | _, [], _ => ⟨[], .nil, fun j v h => by simp at h⟩
  | P, u :: us, h => by
    obtain ⟨v, r, p⟩ := h 0 u rfl
    obtain ⟨vs, r2, p2⟩ := pickV (P := fun j => P (j + 1)) us fun j u' hj => h (j + 1) u' (by rw [List.getElem?_cons_succ]; exact hj)
    refine ⟨v :: vs, .cons r r2, fun j y hj => ?_⟩
    cases j with
    | zero =>
      rw [List.getElem?_cons_zero] at hj
      cases hj
      exact p
    | succ j =>
      rw [List.getElem?_cons_succ] at hj
      exact p2 j y hj
section
variable {X : Cx} {pins : List (Addr × Obj)} {σ : L2.St} {H : Hp} {s : Shared}
theorem sqA_at (I : Inv X pins σ H s) {p : Addr × Bool} {xs : List V} (h : SqA X.K H p xs) (i : Addr) : ∃ its : List Value, Vals xs its ∧ ZSq s.heap (i, p) its.toArray ∧ p.1 < s.heap.objs.size := by
  obtain ⟨l, t⟩ := p
  cases t with
  | true =>
    obtain ⟨its, rv, q, _⟩ := I.tuple h
    obtain ⟨o, ho, _⟩ := id q
    exact ⟨its, rv, q, Heap.lt_size ho⟩
  | false =>
    obtain ⟨its, rv, q, _⟩ := I.list h
    exact ⟨its, rv, q.isList, q.lt⟩
theorem sqA_inj (I : Inv X pins σ H s) {p : Addr × Bool} {xs ys : List V} (h : SqA X.K H p xs) (h' : SqA X.K H p ys) : xs = ys := by
  obtain ⟨l, t⟩ := p
  cases t with
  | true => exact I.tuple_inj h h'
  | false => exact I.list_inj h h'
end
/-- the things as they stand at each turn, their items in a new tuple -/
def ItN (K : PySem.W.Frag) (ls : List (Addr × Bool)) : It :=
  ⟨fun i H => ∀ p ∈ ls, ∃ xs x, SqA K H p xs ∧ xs[i]? = some x,
    fun i H v H' => ∃ T vs, v = .ref T ∧ H T = none ∧ H' = upd H T (.tup vs) ∧ vs.length = ls.length ∧ ∀ (j : Nat) (p : Addr × Bool) (xs : List V), ls[j]? = some p → SqA K H p xs → xs[i]? = vs[j]?,
    fun i H => (∀ p ∈ ls, ∃ xs, SqA K H p xs) ∧ ∃ p ∈ ls, ∃ xs, SqA K H p xs ∧ xs.length ≤ i⟩
theorem rel_at {xs : List V} {us : List Value} (r : Vals xs us) (i : Nat) : (xs[i]? = none ∧ us[i]? = none) ∨ ∃ x u, xs[i]? = some x ∧ us[i]? = some u ∧ L2.RelV x u := by
  cases e : xs[i]? with
  | none =>
    refine .inl ⟨rfl, ?_⟩
    rw [List.getElem?_eq_none_iff] at e ⊢
    rw [← r.length]
    exact e
  | some x =>
    obtain ⟨u, hu, ru⟩ := r.get e
    exact .inr ⟨x, u, rfl, hu, ru⟩
end Lx
namespace Lx
open PySem PySem.Spec PyProof.Rows L2
theorem turn_zipN {P : Program} {w : World} {K : PySem.W.Frag} {elts : List Expr} {kk : Nat} {tpos : Pos} {ls : List (Addr × Bool)} {es : List ZE} {z TI TO : Addr} (D : ZApart z TI TO es) (hes : es.map (·.2) = ls) (hne : ls ≠ []) (hlen : ls.length ≤ 1000) :
    Turn P w K (.Tuple elts kk tpos) (ItN K ls) (z :: TI :: TO :: es.map (·.1)) z (fun i h => (∃ ar, ZN h z TI TO es .none ar) ∧ ∀ e ∈ es, ZIt h e i) where
  mem := List.mem_cons_self ..
  obj := fun i h st c hc => by
    obtain ⟨⟨ar, Z⟩, hi⟩ := st
    rcases List.mem_cons.mp hc with y | hc
    · subst y
      exact ⟨_, Z.obj, fun v q => nomatch q⟩
    rcases List.mem_cons.mp hc with y | hc
    · subst y
      exact ⟨_, Z.its, fun v q => nomatch q⟩
    rcases List.mem_cons.mp hc with y | hc
    · subst y
      exact ⟨_, Z.kept, fun v q => nomatch q⟩
    obtain ⟨e, he, rfl⟩ := List.mem_map.mp hc
    have q := hi e he
    obtain ⟨i', l, t⟩ := e
    cases t with
    | true =>
      obtain ⟨o, ho, _, hd⟩ := q
      exact ⟨o, ho, fun v y => by rw [hd] at y; cases y⟩
    | false =>
      obtain ⟨o, ho, _, hd⟩ := q
      exact ⟨o, ho, fun v y => by rw [hd] at y; cases y⟩
  keep := fun i h h' st k => by
    obtain ⟨⟨ar, Z⟩, hi⟩ := st
    exact ⟨⟨ar, k _ (by simp) _ Z.obj, k _ (by simp) _ Z.its, k _ (by simp) _ Z.kept, Z.len⟩, fun e he => (hi e he).at fun o q => k _ (List.mem_cons_of_mem _ (List.mem_cons_of_mem _ (List.mem_cons_of_mem _ (List.mem_map.mpr ⟨e, he, rfl⟩)))) o q⟩
  item := by
    intro X hP hw hK hc i pins s σ H E I hf st hg
    subst hP hw hK
    obtain ⟨⟨ar, Z⟩, hi⟩ := st
    have hel : es.length = ls.length := by rw [← hes, List.length_map]
    have has : ∀ e ∈ es, ∃ x : Array Value, ZSq s.heap e x ∧ ∃ xs v, SqA X.K H e.2 xs ∧ Vals xs x.toList ∧ xs[i]? = some v := fun e he => by
      obtain ⟨xs, v, q, hv⟩ := hg e.2 (by rw [← hes]; exact List.mem_map.mpr ⟨e, he, rfl⟩)
      obtain ⟨its, rv, zs, _⟩ := sqA_at I q e.1
      exact ⟨its.toArray, zs, xs, v, q, by simpa using rv, hv⟩
    obtain ⟨xs, xl, hx⟩ := pick es has
    have hne' : es ≠ [] := fun y => hne (by rw [← hes, y]; rfl)
    refine pyNext_zipN (I.ok.hd hc) D Z hi hne' (by rw [hel]; exact hlen) xl (fun j e x h1 h2 => (hx j e x h1 h2).1) (fun vs h' v1 v2 Z' i' hT hsz hk => ?_) (fun h' hj hk => ?_)
    · refine ⟨_, rfl, wpAny_letOwnedTupleGo_zip (s := { s with heap := h' }) Z'.obj fun h'' z'' sb => ?_⟩
      have hzl : z < s.heap.objs.size := Heap.lt_size Z.obj
      have hT2 : h''.get? s.heap.objs.size = some { cls := .type "tuple", data := .seq vs.toArray } := (sb.2 _ (Nat.ne_of_gt hzl)).trans hT
      have each : ∀ (j : Nat) (u : Value), vs[j]? = some u → ∃ v, L2.RelV v u ∧ ∀ (p : Addr × Bool) (ys : List V), ls[j]? = some p → SqA X.K H p ys → ys[i]? = some v := fun j u hu => by
        have hjl : j < es.length := by
          rw [← v1]
          exact (List.getElem?_eq_some_iff.mp hu).1
        have hje := List.getElem?_eq_getElem hjl
        obtain ⟨x, hjx⟩ : ∃ x, xs[j]? = some x := ⟨_, List.getElem?_eq_getElem (show j < xs.length by rw [xl]; exact hjl)⟩
        obtain ⟨_, zs, v, q, rv, hv⟩ := hx j _ x hje hjx
        have e1 := v2 j x hjx
        rw [hu] at e1
        rcases rel_at rv i with ⟨a1, _⟩ | ⟨v', u', a1, a2, a3⟩
        · rw [hv] at a1
          cases a1
        · rw [Array.getElem?_toList, e1] at a2
          cases a2
          refine ⟨v', a3, fun p ys hp hq => ?_⟩
          have ep : p = (es[j]).2 := by
            rw [← hes, List.getElem?_map, hje] at hp
            exact (Option.some.inj hp).symm
          subst ep
          rw [sqA_inj I hq q]
          exact a1
      obtain ⟨vv, rvv, hvv⟩ := pickV vs each
      have vl : vv.length = ls.length := by rw [rvv.length, v1, hel]
      have new : ObjOk X.prog X.w (upd H s.heap.objs.size (.tup vv)) h'' s.heap.objs.size (.tup vv) :=
        ⟨by rw [vl, sizeLine_eq]; omega, vs, rvv, ⟨_, hT2, rfl, _, rfl⟩⟩
      have I1 : Inv X pins σ (upd H s.heap.objs.size (.tup vv)) { s with heap := h'' } :=
        I.turnedNew (t' := s.toks) (ch := z :: TI :: TO :: es.map (·.1)) (fun c o hb q => (sb.2 c (fun y => hb (y ▸ List.mem_cons_self ..))).trans (hk c o (fun y => hb (by
          rcases List.mem_cons.mp y with y | y
          · exact y ▸ List.mem_cons_self ..
          · exact List.mem_cons_of_mem _ (List.mem_cons_of_mem _ y))) q)) hf (Nat.le_refl _) new
      have nz : ∀ c, c ∈ TI :: TO :: es.map (·.1) → c ≠ z := fun c hcm y => by
        have q := (List.nodup_cons.mp D.nd).1
        rw [y] at hcm
        exact q hcm
      refine ⟨.ref s.heap.objs.size, _, I1, rfl, ⟨_, vv, rfl, I.hok.fresh (Nat.le_refl _), rfl, vl, fun j p ys hp hq => ?_⟩, ⟨⟨vs, z'', ?_, ?_, Z'.len⟩, fun e he => (i' e he).at fun o q => (sb.2 _ (nz _ (List.mem_cons_of_mem _ (List.mem_cons_of_mem _ (List.mem_map.mpr ⟨e, he, rfl⟩))))).trans q⟩, fun c hcm => ?_⟩
      · have hjl : j < vv.length := by
          rw [vl]
          exact (List.getElem?_eq_some_iff.mp hp).1
        have q := hvv j _ (List.getElem?_eq_getElem hjl) p ys hp hq
        rw [q]
        exact (List.getElem?_eq_getElem hjl).symm
      · exact (sb.2 _ (nz _ (by simp))).trans Z'.its
      · exact (sb.2 _ (nz _ (by simp))).trans Z'.kept
      · have hn := (hf c hcm).1
        have hlt : c ≠ s.heap.objs.size := fun y => by
          rcases List.mem_cons.mp hcm with y2 | y2
          · rw [y2] at y
            exact absurd hzl (by rw [y]; exact Nat.lt_irrefl _)
          rcases List.mem_cons.mp y2 with y3 | y3
          · have l := Heap.lt_size Z.its
            rw [← y3, y] at l
            exact absurd l (Nat.lt_irrefl _)
          rcases List.mem_cons.mp y3 with y4 | y4
          · have l := Heap.lt_size Z.kept
            rw [← y4, y] at l
            exact absurd l (Nat.lt_irrefl _)
          obtain ⟨e, he, q⟩ := List.mem_map.mp y4
          have l : e.1 < s.heap.objs.size := by
            have q2 := hi e he
            obtain ⟨i2, l2, t2⟩ := e
            cases t2 with
            | true =>
              obtain ⟨o, ho, _⟩ := q2
              exact Heap.lt_size ho
            | false =>
              obtain ⟨o, ho, _⟩ := q2
              exact Heap.lt_size ho
          rw [show e.1 = c from q, y] at l
          exact absurd l (Nat.lt_irrefl _)
        rw [upd_ne hlt]
        exact hn
    · obtain ⟨j, x, hj, hn⟩ := hj
      have hjl : j < es.length := by
        rw [← xl]
        exact (List.getElem?_eq_some_iff.mp hj).1
      obtain ⟨_, zs, v, q, rv, hv⟩ := hx j _ x (List.getElem?_eq_getElem hjl) hj
      rcases rel_at rv i with ⟨a1, _⟩ | ⟨v', u', a1, a2, a3⟩
      · rw [hv] at a1
        cases a1
      · rw [Array.getElem?_toList, hn] at a2
        cases a2
  done := by
    intro X hP hw hK hc i pins s σ H E I hf st hg
    subst hP hw hK
    obtain ⟨⟨ar, Z⟩, hi⟩ := st
    have hel : es.length = ls.length := by rw [← hes, List.length_map]
    obtain ⟨hg, p, hp, ys, hq, hy⟩ := hg
    have has : ∀ e ∈ es, ∃ x : Array Value, ZSq s.heap e x ∧ ∃ xs, SqA X.K H e.2 xs ∧ Vals xs x.toList := fun e he => by
      obtain ⟨xs, q⟩ := hg e.2 (by rw [← hes]; exact List.mem_map.mpr ⟨e, he, rfl⟩)
      obtain ⟨its, rv, zs, _⟩ := sqA_at I q e.1
      exact ⟨its.toArray, zs, xs, q, by simpa using rv⟩
    obtain ⟨xs, xl, hx⟩ := pick es has
    have hne' : es ≠ [] := fun y => hne (by rw [← hes, y]; rfl)
    refine pyNext_zipN (I.ok.hd hc) D Z hi hne' (by rw [hel]; exact hlen) xl (fun j e x h1 h2 => (hx j e x h1 h2).1) (fun vs h' v1 v2 Z' i' hT hsz hk => ?_) (fun h' hj hk => ⟨rfl, I.turnedL (t' := s.toks) (ch := z :: TI :: TO :: es.map (·.1)) (fun c o hb q => hk c o (fun y => hb (by
      rcases List.mem_cons.mp y with y | y
      · exact y ▸ List.mem_cons_self ..
      · exact List.mem_cons_of_mem _ (List.mem_cons_of_mem _ y))) q) hf⟩)
    rw [← hes] at hp
    obtain ⟨e, he, rfl⟩ := List.mem_map.mp hp
    obtain ⟨j, hj⟩ := List.mem_iff_getElem?.mp he
    have hjl := (List.getElem?_eq_some_iff.mp hj).1
    obtain ⟨x, hjx⟩ : ∃ x, xs[j]? = some x := ⟨_, List.getElem?_eq_getElem (show j < xs.length by rw [xl]; exact hjl)⟩
    obtain ⟨_, zs, q, rv⟩ := hx j e x hj hjx
    rw [sqA_inj I hq q] at hy
    have n1 : x[i]? = none := by
      rw [← Array.getElem?_toList, List.getElem?_eq_none_iff, ← rv.length]
      exact hy
    have e1 := v2 j x hjx
    rw [n1, eq_comm, List.getElem?_eq_none_iff, v1] at e1
    exact absurd hjl (Nat.not_lt.mpr e1)
  self := fun A i s Q E st h => by
    obtain ⟨⟨ar, Z⟩, _⟩ := st
    exact wpAny_pyIter_zip Z.obj h
/-- zip(..) of two or three -/
def iZipN (K : PySem.W.Frag) (ta : TA) : TI := fun σ H R => ta σ H fun vs H1 => ∃ ls : List (Addr × Bool), vs = ls.map (fun p => V.ref p.1) ∧ (ls.length = 2 ∨ ls.length = 3) ∧ (∀ p ∈ ls, ∃ xs, SqA K H1 p xs) ∧ R (ItN K ls) H1
theorem vals_refs : ∀ {ls : List (Addr × Bool)} {us : List Value}, Vals (ls.map fun p => V.ref p.1) us → us = ls.map fun p => Value.ref p.1
  | [], _, .nil => rfl
  | _ :: _, _, .cons r rr => by
    rw [vals_refs rr]
    exact congrArg (· :: _) r
section
variable {X : Cx} {e : Expr} {es : List Expr} {ta : TA} {p pos tpos : Pos} {elts : List Expr} {kk : Nat}
theorem pi_zipN (hg : Gl X "zip") (hm : X.mg "zip" = none) (ha : PA X (e :: es) ta)
    (hs : starEach (e :: es) X.env = (false, eval e X.env) :: starEach es X.env := by rfl) (hpl : (backTo pos (starEach es X.env)).any (·.1) = false := by rfl) :
    PI X (.Tuple elts kk tpos) (.Call (.Name "zip" p) (e :: es) [] pos) (iZipN X.K ta) := by
  refine ⟨fun pins s σ H R I h => ?_⟩
  refine Call_ (ld_blt I hg hm PyProof.Rows.boot_zip (PyProof.Rows.callWith_type1 (thn (ha.run pos pins s σ H _ I h) fun us s1 ⟨vs, H1, I1, r1, q1⟩ => ?_) hs hpl))
  obtain ⟨ls, rfl, hl, hq, q⟩ := q1
  obtain rfl := vals_refs r1
  have ok : ZipOk (ls.map fun p => Value.ref p.1) := by
    rcases hl with hl | hl
    · match ls, hl with
      | [a, b], _ => exact zipOk2 _ _
    · match ls, hl with
      | [a, b, c], _ => exact zipOk3 _ _ _
  have hl1 : ls.length ≤ 1000 := by omega
  refine call_zipN ok (fun p hp => ?_) hl1 fun h' Z hi hsz hk => wpAny_pyIter_zip Z.obj ?_
  · obtain ⟨xs, hx⟩ := hq p hp
    obtain ⟨its, _, zs, _⟩ := sqA_at I1 hx 0
    exact ⟨_, zs⟩
  · have I2 : Inv X pins σ H1 { s1 with heap := h' } := I1.kept (t' := s1.toks) hk
    have below : ∀ p ∈ ls, p.1 < s1.heap.objs.size := fun p hp => by
      obtain ⟨xs, hx⟩ := hq p hp
      obtain ⟨_, _, _, l⟩ := sqA_at I1 hx 0
      exact l
    refine ⟨_, _, _, _, H1, rfl, I2, turn_zipN (zapart below) (mkE_seqs ls _) (fun y => by rw [y] at hl; rcases hl with hl | hl <;> cases hl) hl1, ⟨⟨_, Z⟩, hi⟩, fun c hcm => ?_, q⟩
    have hle : s1.heap.objs.size ≤ c := by
      rw [mkE_its] at hcm
      have key : ∀ n : Nat, n ∈ ((s1.heap.objs.size + ls.length + 2) :: (s1.heap.objs.size + ls.length) :: (s1.heap.objs.size + ls.length + 1) :: List.range' s1.heap.objs.size ls.length : List Nat) → s1.heap.objs.size ≤ n := fun n y => by
        rcases List.mem_cons.mp y with y | y
        · omega
        rcases List.mem_cons.mp y with y | y
        · omega
        rcases List.mem_cons.mp y with y | y
        · omega
        exact (in_range y).1
      exact key c hcm
    exact I1.fpOk hle (I1.hok.fresh hle)
end
end Lx
namespace Lx
open PySem PySem.Spec L2
theorem walk_zip2 {K : PySem.W.Frag} {p q : Addr × Bool} {xs ys : List V} {n : Nat} (hn : n = min xs.length ys.length) : Walk (ItN K [p, q]) n (fun H => SqA K H p xs ∧ SqA K H q ys) (YPair (fun i => xs[i]?) (fun i => ys[i]?)) := by
  subst hn
  refine ⟨fun i H hi g r hr => ?_, fun H g => ⟨fun r hr => ?_, ?_⟩, fun i H v H' _ g y => ?_⟩
  · rcases List.mem_cons.mp hr with rfl | hr
    · exact ⟨xs, _, g.1, List.getElem?_eq_getElem (show i < xs.length by omega)⟩
    · obtain rfl := List.mem_singleton.mp hr
      exact ⟨ys, _, g.2, List.getElem?_eq_getElem (show i < ys.length by omega)⟩
  · rcases List.mem_cons.mp hr with rfl | hr
    · exact ⟨xs, g.1⟩
    · obtain rfl := List.mem_singleton.mp hr
      exact ⟨ys, g.2⟩
  · rcases Nat.le_total xs.length ys.length with l | l
    · exact ⟨p, List.mem_cons_self .., xs, g.1, by omega⟩
    · exact ⟨q, List.mem_cons_of_mem _ (List.mem_cons_self ..), ys, g.2, by omega⟩
  · obtain ⟨T, vs, h1, h2, h3, h4, h5⟩ := y
    match vs, h4 with
    | [x, z], _ => exact ⟨T, x, z, h1, h2, h3, h5 0 p xs rfl g.1, h5 1 q ys rfl g.2⟩
/-- a new triple -/
def YTrip (xs ys zs : Nat → Option V) : Nat → Hp → V → Hp → Prop := fun i H v H' => ∃ T x y z, v = .ref T ∧ H T = none ∧ H' = upd H T (.tup [x, y, z]) ∧ xs i = some x ∧ ys i = some y ∧ zs i = some z
theorem walk_zip3 {K : PySem.W.Frag} {p q r : Addr × Bool} {xs ys zs : List V} {n : Nat} (h1 : xs.length = n) (h2 : ys.length = n) (h3 : zs.length = n) :
    Walk (ItN K [p, q, r]) n (fun H => SqA K H p xs ∧ SqA K H q ys ∧ SqA K H r zs) (YTrip (fun i => xs[i]?) (fun i => ys[i]?) (fun i => zs[i]?)) := by
  refine ⟨fun i H hi g c hc => ?_, fun H g => ⟨fun c hc => ?_, ?_⟩, fun i H v H' _ g y => ?_⟩
  · rcases List.mem_cons.mp hc with rfl | hc
    · exact ⟨xs, _, g.1, List.getElem?_eq_getElem (show i < xs.length by omega)⟩
    rcases List.mem_cons.mp hc with rfl | hc
    · exact ⟨ys, _, g.2.1, List.getElem?_eq_getElem (show i < ys.length by omega)⟩
    · obtain rfl := List.mem_singleton.mp hc
      exact ⟨zs, _, g.2.2, List.getElem?_eq_getElem (show i < zs.length by omega)⟩
  · rcases List.mem_cons.mp hc with rfl | hc
    · exact ⟨xs, g.1⟩
    rcases List.mem_cons.mp hc with rfl | hc
    · exact ⟨ys, g.2.1⟩
    · obtain rfl := List.mem_singleton.mp hc
      exact ⟨zs, g.2.2⟩
  · exact ⟨p, List.mem_cons_self .., xs, g.1, by omega⟩
  · obtain ⟨T, vs, a1, a2, a3, a4, a5⟩ := y
    match vs, a4 with
    | [x, y, z], _ => exact ⟨T, x, y, z, a1, a2, a3, a5 0 p xs rfl g.1, a5 1 q ys rfl g.2.1, a5 2 r zs rfl g.2.2⟩
end Lx
set_option Elab.async false
set_option linter.all false
set_option maxRecDepth 100000
set_option maxHeartbeats 2000000
/-! LxCls: classmethods without arguments or with keywords alone; o[e] by the own def. -/
namespace Lx
open PySem PySem.Spec PyProof.Rows L2 ClX
/-- C.m(k = v, ..), m a classmethod -/
def tCMethW (C : Addr) (ks : List Str) (sp : SpW) (E : XK) (ta : TE) (tk : TA) : TE := fun σ H Q => ta σ H fun x H1 => x = .ref C ∧ tk σ H1 fun zs H2 => sp [.ref C] (ks.zip zs) H2 Q E
/-- o[e] by the own def -/
def tIxO (C : Addr) (sp : Sp) (E : L2.St → XK) (ta tb : TE) : TE := fun σ H Q => ta σ H fun x H1 => tb σ H1 fun y H2 => ∃ a dx fs, x = .ref a ∧ H2 a = some (.ins C dx fs) ∧ sp [.ref a, y] H2 Q (E σ)
section
variable {X : Cx} {CX : CXT} {k : Nat} {C p g f : Addr} {mc : Value} {sp : Sp} {spw : SpW} {E : XK} {ES : L2.St → XK} {o e b : Expr} {es : List Expr} {kws : List Keyword} {ks : List Str} {m : Str} {pos apos : Pos} {ta tb : TE} {t tk : TA} {pl : Sem Bool}
theorem pe_cmeth0 (he : PE X o ta) (r : CRead X.K C mc) (c : CMet X.K C mc m p g) (F : FnR X.prog X.w X.K X.mg X.base CX k g sp) (hr : Room k X.A) (hx : Passes CX X E)
    (ht : eval (.Call (.Attribute o m apos) [] [] pos) X.env = (do
      let ov ← eval o X.env
      standAt apos.atName
      let (f, first) ← holding [ov] (getMethod ov m pl)
      callWith pos f first (backTo pos (starEach [] X.env)) (backToKw pos (keywordEach [] X.env))) := by rfl) :
    PE X (.Call (.Attribute o m apos) [] [] pos) (tCMeth C sp E ta tNil) := by
  refine ⟨fun pins s σ H Q I h => ?_⟩
  refine PySem.W.methodCall_KW (pl := pl) (thn (he.run pins s σ H _ I h) fun u s1 ⟨x, H1, I1, rx, ex, q⟩ => ?_) ht
  subst ex
  obtain rfl : u = Value.ref C := rx
  refine getmethcm_ok I1 r c fun s2 I2 => ?_
  exact PySem.W.callWith_M0 (first := []) ⟨pin_at I2, I2.kIn⟩ c.fi (run_cm F hr hx I2 .nil q)
theorem run_cmW {pins : List (Addr × Obj)} {σ : L2.St} {H : Hp} {s : Shared} {q : Addr} {Q : VK} {us : List Value} {vs : List V} {kw : List (Str × Value)} {kvs : List (Str × V)} (F : FnW X.prog X.w X.K X.mg X.base CX k g spw) (hr : Room k X.A) (hx : Passes CX X E)
    (I : Inv X ((q, PySem.W.methodObj (.ref g) (.ref C)) :: pins) σ H s) (r : Vals vs us) (rk : KwR kvs kw) (nd : (kw.map (·.1)).Nodup) (h : spw (.ref C :: vs) kvs H Q E) : wpAny (model X.prog X.w) X.A (call (.ref q) us kw) (EP X pins σ Q) X.xe s := by
  refine thn (wpAny_call (PySem.W.method_call (pin_at I) (codeAny_mono (F X.A X.stack s H (.ref C :: us) (.ref C :: vs) kw kvs Q E hr I.env0 (.cons rfl r) rk nd h) fun z s' hq => ?_))) fun _ _ y => unpinE (p := (q, PySem.W.methodObj (.ref g) (.ref C))) y
  cases z with
  | error e => exact hx _ σ H s e s' I hq
  | ok fl =>
    cases fl with
    | ret u => exact I.after hq
    | next => exact False.elim hq
    | brk => exact False.elim hq
    | cont => exact False.elim hq
theorem pe_cmethW0 (he : PE X o ta) (r : CRead X.K C mc) (c : CMet X.K C mc m p g) (F : FnW X.prog X.w X.K X.mg X.base CX k g spw) (hr : Room k X.A) (hx : Passes CX X E) (hkw : PK X kws tk)
    (nd : ks.Nodup := by decide) (hall : (backToKw pos (keywordEach kws X.env)).all (·.1.isSome) = true := by rfl) (hks : (backToKw pos (keywordEach kws X.env)).filterMap (·.1) = ks := by rfl)
    (hpl : ((backTo pos (starEach [] X.env)).any (·.1) || (backToKw pos (keywordEach kws X.env)).any (·.1.isNone)) = false := by rfl)
    (ht : eval (.Call (.Attribute o m apos) [] kws pos) X.env = (do
      let ov ← eval o X.env
      standAt apos.atName
      let (f, first) ← holding [ov] (getMethod ov m pl)
      callWith pos f first (backTo pos (starEach [] X.env)) (backToKw pos (keywordEach kws X.env))) := by rfl) :
    PE X (.Call (.Attribute o m apos) [] kws pos) (tCMethW C ks spw E ta tk) := by
  refine ⟨fun pins s σ H Q I h => ?_⟩
  refine PySem.W.methodCall_KW (pl := pl) (thn (he.run pins s σ H _ I h) fun u s1 ⟨x, H1, I1, rx, ex, q⟩ => ?_) ht
  subst ex
  obtain rfl : u = Value.ref C := rx
  refine getmethcm_ok I1 r c fun s2 I2 => ?_
  refine PySem.W.callWith_of hpl (PySem.W.keeps_M c.fi) (evalArgs_kw2_nil hall (thn (hkw.run pos _ s2 σ H1 _ I2 q) fun ws s3 ⟨zs, H3, I3, rz, q3⟩ => ⟨⟨pin_at I3, I3.kIn⟩, ?_⟩))
  rw [hks]
  exact run_cmW F hr hx I3 .nil (kwR_zip rz) (zip_nodup nd) q3
theorem pe_ixO (s1 : Spec1 X.K C "__getitem__" f) (fi : PySem.W.fnIn X.K f = true) (F : FnR X.prog X.w X.K X.mg X.base CX k f sp) (hr : Room (k + 1) X.A) (hx : ∀ σ, PassesAt CX X σ (ES σ)) (ha : PE X o ta) (hb : PE X b tb)
    (hsl : ∀ (a : Addr) (u : Value), subscripted b true (.ref a) u = runValue (.builtin "lifetime.subscript" ⟨[.ref a, u], []⟩) := by intros; with_unfolding_all rfl) :
    PE X (.Subscript o b pos) (tIxO C sp ES ta tb) := by
  refine ⟨fun pins s σ H Q I h => ?_⟩
  refine Subscript_ (binT ha hb I h fun v u s2 x y H2 I2 rx ry q => ?_)
  obtain ⟨a, dx, fs, rfl, ea, q⟩ := q
  obtain rfl : v = Value.ref a := rx
  obtain ⟨ox, od, J⟩ := inst_at I2 ea
  obtain ⟨mm, hF⟩ := I2.fr
  refine PySem.W.sub_K hF I2.ok.mod.kin J s1.at_ fi s1.fn ?_ (hsl _ _)
  have e0 : Env0 X.prog X.w X.K X.mg X.base X.A.in1 X.stack s2 H2 := I2.env0.in1
  refine wpAny_call (codeAny_mono (F X.A.in1 X.stack s2 H2 [.ref a, u] [.ref a, y] Q (ES σ) hr.in1 e0 (.cons rfl (.cons ry .nil)) q) fun r s' hq => ?_)
  cases r with
  | error e => exact hx σ pins H2 s2 e s' I2 hq
  | ok fl =>
    cases fl with
    | ret u => exact I2.after hq
    | next => exact False.elim hq
    | brk => exact False.elim hq
    | cont => exact False.elim hq
end
end Lx
namespace Lx
open PySem PySem.Spec PyProof.Rows L2
/-- x in l, l a list, data of any depth -/
def rInL (K : PySem.W.Frag) (neg : Bool) : R2 := fun x y H Q => ∃ d ds, Dp K H x d ∧ Dp K H y (.list ds) ∧ SeqAt.shaped d = true ∧ SeqAt.shaped (.list ds) = true ∧ Q (.bl (if neg then !ds.any fun z => PyData.eqv z d else ds.any fun z => PyData.eqv z d)) H
section
variable {X : Cx}
theorem op_inL (hu : X.A.units + 65 < cLine) : OpR X (compareOp .In) (rInL X.K false) := by
  intro pins s σ H x y v u Q I rx ry ⟨d, ds, hd, he, sd, se, q⟩
  obtain ⟨as, r1⟩ := Dp.reads I d x v hd rx
  obtain ⟨bs, r2⟩ := Dp.reads I (.list ds) y u he ry
  exact SeqAt.in_list_reads r2 r1 (SeqAt.canLay_of_shaped se) (SeqAt.canLay_of_shaped sd) (room_in_shaped sd hu) ⟨.bl _, H, I, rfl, q⟩
theorem op_notInL (hu : X.A.units + 65 < cLine) : OpR X (compareOp .NotIn) (rInL X.K true) := by
  intro pins s σ H x y v u Q I rx ry ⟨d, ds, hd, he, sd, se, q⟩
  obtain ⟨as, r1⟩ := Dp.reads I d x v hd rx
  obtain ⟨bs, r2⟩ := Dp.reads I (.list ds) y u he ry
  exact SeqAt.notIn_list_reads r2 r1 (SeqAt.canLay_of_shaped se) (SeqAt.canLay_of_shaped sd) (room_in_shaped sd hu) ⟨.bl _, H, I, rfl, q⟩
end
end Lx
namespace Lx
open PySem L2
theorem units65 {k : Nat} {A : Around} (r : Room k A) : A.units + 65 < cLine := by
  have := r.un
  omega
end Lx
set_option Elab.async false
set_option linter.all false
set_option maxRecDepth 100000
set_option maxHeartbeats 2000000
/-! LxIter: classes whose own __iter__ gives the iterator of a list. -/
namespace Lx
open PySem PySem.Spec PyProof.Rows L2 ItX
/-- the promise of such an __iter__: the list of o is at L -/
def FnIt (P : Program) (w : World) (K : PySem.W.Frag) (mg : Str → Option Value) (base : Heap) (k : Nat) (f : Addr) (G : Addr → Hp → Addr → Prop) : Prop :=
  ∀ (A : Around) (outer : List Env) (s : Shared) (H : Hp) (a L : Addr) (Q : VK), Room k A → Env0 P w K mg base A outer s H → G a H L → (∀ it, H it = none → s.heap.objs.size ≤ it → Q (.ref it) (upd H it (ItO L it 0))) →
    codeAny (model P w) A (.call (.ref f) ⟨[.ref a], []⟩) (CR (L2.CX P w) outer P w H s Q E0) s
theorem FnIt.mono {P : Program} {w : World} {K : PySem.W.Frag} {mg : Str → Option Value} {base : Heap} {j k : Nat} {f : Addr} {G : Addr → Hp → Addr → Prop} (F : FnIt P w K mg base j f G) (h : j ≤ k) : FnIt P w K mg base k f G := fun A outer s H a L Q hr => F A outer s H a L Q (hr.mono h)
section
variable {P : Program} {w : World} {K : PySem.W.Frag} {mg : Str → Option Value} {base : Heap} {k : Nat} {f : Addr} {fd : FuncData} {N : List Str} {x qual p1 : Str} {st : Stmt} {G : Addr → Hp → Addr → Prop}
theorem okIt (F : Fun K x qual st f fd) (S : FnScope N [p1] (defScope st))
    (hb : ∀ (kV doc pm : Value) (an : Option Addr) (cdv ct : Value) (u : Value), bindArgs (PySem.W.fnOf x qual (defArgs st) (defBody st) (defScope st) .none kV doc pm an cdv ct) ⟨[u], []⟩ = pure [(p1, u)])
    (hbody : ∀ (cdv : Value) (A : Around) (outer : List Env) (s : Shared) (H : Hp) (a L : Addr) (Q : VK), Room k (A.deeper (envOfC qual (defScope st) s.heap.objs.size f cdv)) → G a H L →
      (∀ it, H it = none → s.heap.objs.size ≤ it → Q (.ref it) (upd H it (ItO L it 0))) →
      ∃ t, PSs (cxOf (L2.CX P w) P w K mg base N qual (defScope st) f cdv A outer s H E0) (defBody st) t ∧ t { nx := fun _ H' => Q .non H', rt := Q } (start N [.ref a]) H) : FnIt P w K mg base (k + 1) f G := by
  intro A outer s H a L Q room e0 g hQ
  obtain ⟨oc, od, kV, doc, pm, an, cdv, ct, osl, rfl, lk, hcd⟩ := F.ex
  have inK : K.In s.heap := e0.mod.kin.keeps fun b o e => (e0.bs b o e).1
  obtain ⟨t, ht, hq⟩ := hbody cdv A outer s H a L Q (room.deeper _) g hQ
  have bt : BindsTo s (PySem.W.fnOf x qual (defArgs st) (defBody st) (defScope st) .none kV doc pm an cdv ct) ⟨[.ref a], []⟩ ([p1].zip [Value.ref a]) := .of_eq (hb kV doc pm an cdv ct _)
  refine codeAny_call_function room.depth (inK _ _ lk) rfl S.co S.gen rfl (PySem.W.codeRec_of inK hcd) (bt _ _ _ _ (wpAny_newFunctionEnv_cells S.kind (fun y hy => ?_) fun env he s1 x => ?_))
  · rcases S.par y.1 (List.of_mem_zip hy).1 with q | q
    · exact .inl q
    · exact .inr ⟨q, PySem.W.cellsFrom_some _ _ _ (.inl q)⟩
  · subst he
    refine ⟨(e0.mod.nolimit.keeps fun b o e => (e0.bs b o e).1).keeps x.toInCall.keep, codeAny_func ?_⟩
    have r1 : Vals [V.ref a] [Value.ref a] := .cons rfl .nil
    have J0 : Inv (cxOf (L2.CX P w) P w K mg base N qual (defScope st) f cdv A outer s H E0) [] (start N [.ref a]) H s1 := inv_start S room.hd e0 rfl r1 x
    refine wpAny_mono (ht.run [] s1 _ H _ J0 hq) (fun fl s' z => ?_) fun _ _ z => z
    cases fl with
    | next => exact z.elim fun σ' z => z.elim fun H' z => ⟨.non, H', z.1.os, z.1.bare, z.1.base, z.1.hok, rfl, z.2⟩
    | ret u => exact z.elim fun v z => z.elim fun σ' z => z.elim fun H' z => ⟨v, H', z.1.os, z.1.bare, z.1.base, z.1.hok, z.2.1, z.2.2⟩
    | brk => exact z.elim fun _ z => z.elim fun _ z => z.2.elim
    | cont => exact z.elim fun _ z => z.elim fun _ z => z.2.elim
end
theorem dropH_upd {H : Hp} {a : Addr} {o : HO} (h : H a = none) : dropH (upd H a o) a = H := by
  funext b
  by_cases e : b = a
  · rw [e, h, dropH_same]
  · rw [dropH_ne e, upd_ne e]
/-- the iterable e, an instance of C whose list is at L -/
def iOwnL (K : PySem.W.Frag) (C : Addr) (G : Addr → Hp → Addr → Prop) (te : TE) : TI := fun σ H R => te σ H fun v H1 => ∃ a dx fs L, v = .ref a ∧ H1 a = some (.ins C dx fs) ∧ G a H1 L ∧ R (Itl K L) H1
section
variable {X : Cx} {k : Nat} {C f : Addr} {G : Addr → Hp → Addr → Prop} {e tg : Expr} {te : TE} {pins : List (Addr × Obj)} {σ : L2.St} {H : Hp} {s : Shared}
/-- pyIter o -/
theorem own_iter {A : Around} {a L dx : Addr} {fs : List (Str × V)} {Q : Value → Shared → Prop} (I : Inv X pins σ H s) (S1 : Spec1 X.K C "__iter__" f) (F : FnIt X.prog X.w X.K X.mg X.base k f G) (hr : Room k A) (hfr : A.frames = X.A.frames) (hx : Passes (L2.CX X.prog X.w) X E0)
    (ha : H a = some (.ins C dx fs)) (g : G a H L) (hQ : ∀ it s', H it = none → s.heap.objs.size ≤ it → Inv X pins σ (upd H it (ItO L it 0)) s' → Q (.ref it) s') : wpAny (model X.prog X.w) A (pyIter (.ref a)) Q X.xe s := by
  obtain ⟨ox, od, J⟩ := inst_at I ha
  obtain ⟨m0, hF⟩ := I.fr
  have e0 : Env0 X.prog X.w X.K X.mg X.base A X.stack s H := by
    have e := I.env0
    exact ⟨by rw [hfr]; exact e.frames, e.mod, e.bs, e.bsz, e.funs, e.frf, e.hok, e.bare⟩
  refine PySem.W.owit_iter hF I.ok.mod.kin J S1.at_ S1.fn (wpAny_call (codeAny_mono (F A X.stack s H a L (fun v H' => ∃ it, v = .ref it ∧ H it = none ∧ s.heap.objs.size ≤ it ∧ H' = upd H it (ItO L it 0)) hr e0 g fun it h1 h2 => ⟨it, rfl, h1, h2, rfl⟩) fun r s' hq => ?_))
  cases r with
  | error e => exact hx pins σ H s e s' I hq
  | ok fl =>
    cases fl with
    | next => exact False.elim hq
    | brk => exact False.elim hq
    | cont => exact False.elim hq
    | ret u =>
      obtain ⟨v, H', I', rv, it, ev, h1, h2, eH⟩ := I.after hq
      subst ev eH
      obtain rfl : u = Value.ref it := rv
      have eo := itO_get I' upd_same
      have st : s'.heap.IsListIter it L 0 := ⟨_, eo, rfl, rfl⟩
      have LT : PySem.W.Looks (model X.prog X.w) s'.heap (typeOf (.ref it)) (.type "list_iterator") := (PySem.W.Looks.ld (part := none) eo).andThen .now
      unfold PySem.W.OwitIt
      exact (LT.andThen (PySem.W.Looks.of_pure slot_listiter_next.lookup)).here (hQ it s' h1 h2 I')
theorem pi_ownL (S1 : Spec1 X.K C "__iter__" f) (F : FnIt X.prog X.w X.K X.mg X.base k f G) (hr : Room k X.A) (hx : Passes (L2.CX X.prog X.w) X E0) (he : PE X e te) : PI X tg e (iOwnL X.K C G te) := by
  refine ⟨fun pins s σ H R I h => thn (he.run pins s σ H _ I h) fun u s1 ⟨v, H1, I1, rv, a, dx, fs, L, ev, ha, g, q⟩ => ?_⟩
  subst ev
  obtain rfl : u = Value.ref a := rv
  refine own_iter I1 S1 F hr rfl hx ha g fun it s2 h1 h2 I2 => ?_
  have eo := itO_get I2 upd_same
  have lt : X.s_0.heap.objs.size ≤ it := Nat.le_trans I1.sz h2
  have hd : upd H1 it (ItO L it 0) it = some (.ext fun h => h.get? it = some (GNX.itObj L 0)) := upd_same
  have I3 := inv_drop I2 hd
  have fp := inv_fp I2 hd lt
  rw [dropH_upd h1] at I3 fp
  refine ⟨it, [it], _, _, H1, rfl, I3, turn_list L it, ⟨_, eo, rfl, rfl⟩, fun b hb => ?_, q⟩
  rw [List.mem_singleton.mp hb]
  exact fp
/-- the turns of list(o), from the place i on -/
theorem own_turns {A1 : Around} {Rs : Result → Shared → Prop} {q it L : Addr} {zs : List V} (hc : X.calm = true) (hh : A1.in1.handled = none) (hL : H L = some (.lst zs)) (hq0 : H q = none) (hi : it ≠ q) (hdone : ∀ s, Inv X pins σ (upd H q (.lst zs)) s → Rs (.ok (.ret .none)) s) :
    ∀ (n i : Nat) (s : Shared), i + n = zs.length → Inv X pins σ (upd H q (.lst (zs.take i))) s → FpOk X pins (upd H q (.lst (zs.take i))) it → s.heap.IsListIter it L i → codeAny (model X.prog X.w) A1 (.builtin "list.extend.loop" ⟨[.ref q, .ref it, .none], []⟩) Rs s := by
  have nLq : L ≠ q := ne_of_none hL hq0
  intro n
  induction n with
  | zero =>
    intro i s hn I fp st
    refine codeAny_builtin PySem.F.entry_extend_loop ?_
    rw [Around.under_plainId PySem.F.plain_extend_loop _]
    show wpAny _ A1.in1 (pyNext (.ref it) >>= _) _ _ s
    obtain ⟨its, rv, pl, hz⟩ := I.list (SqL.of (keep_set nLq hL))
    obtain ⟨f0, f1, f2, f3, f4, f5⟩ := fp
    refine wpAny_bind (wpAny_pyNext_list_end hh st pl.isList (by rw [List.getElem?_toArray]; exact rv.none_of (List.getElem?_eq_none (by omega))) fun h' eb => wpAny_pure (hdone _ ?_))
    have I1 := I.turned (t' := s.toks) (fun b ob hb e => eb b ob hb e) f0 f1 f3 f4 f5
    rw [List.take_of_length_le (by omega)] at I1
    exact I1
  | succ n ih =>
    intro i s hn I fp st
    refine codeAny_builtin PySem.F.entry_extend_loop ?_
    rw [Around.under_plainId PySem.F.plain_extend_loop _]
    show wpAny _ A1.in1 (pyNext (.ref it) >>= _) _ _ s
    obtain ⟨its, rv, pl, hz⟩ := I.list (SqL.of (keep_set nLq hL))
    obtain ⟨f0, f1, f2, f3, f4, f5⟩ := id fp
    have lt : i < zs.length := by omega
    obtain ⟨u, hu, ru⟩ := rv.get (List.getElem?_eq_getElem lt)
    refine wpAny_bind (wpAny_pyNext_list_item st pl.isList (by rw [List.getElem?_toArray]; exact hu) fun h' st' sb => ?_)
    have I1 := I.turned (t' := s.toks) (fun b ob hb e => (sb.2 b hb).trans e) f0 f1 f3 f4 f5
    show wpAny _ A1.in1 (updateSeq q (·.push u) >>= _) _ _ _
    have hq : upd H q (.lst (zs.take i)) q = some (.lst (zs.take i)) := upd_same
    obtain ⟨z, its2, k2, r2, hl, e⟩ := I1.lstM hq
    have hlen : (zs.take i).length = i := by rw [List.length_take]; omega
    have hzl : zs.length ≤ sizeLine := hz
    have hl2 := r2.length
    refine wpAny_bind (wpAny_updateSeq e rfl (wpAny_pure ⟨plainId_quiet PySem.F.plain_extend_loop _, ?_⟩) (by rw [List.size_toArray]; omega) (by show (its2.toArray.push u).size ≤ sizeLine + 1; rw [Array.size_push, List.size_toArray]; omega))
    have I2 := I1.lset (f := (·.push u)) (its' := its2 ++ [u]) (ys := zs.take i ++ [zs[i]]) (t' := s.toks) hq e (by simp) (r2.append (.cons ru .nil)) (by rw [List.length_append, List.length_singleton]; omega)
    have et : zs.take i ++ [zs[i]] = zs.take (i + 1) := by rw [List.take_add_one, List.getElem?_eq_getElem lt, Option.toList_some]
    rw [upd_upd, et] at I2
    refine ih (i + 1) _ (by omega) I2 ⟨?_, f1, f2, f3, f4, f5⟩ ?_
    · rw [upd_ne hi] at f0 ⊢
      exact f0
    · obtain ⟨o, ho, hc2, hd2⟩ := st'
      exact ⟨o, (Heap.get?_update_ne _ _ _ _ hi).trans ho, hc2, hd2⟩
/-- list(o), o an instance of C whose list is at L -/
def rOwnL (C : Addr) (G : Addr → Hp → Addr → Prop) : List V → Hp → VK → Prop := fun xs H Q => ∃ a dx fs L zs, xs = [.ref a] ∧ H a = some (.ins C dx fs) ∧ G a H L ∧ H L = some (.lst zs) ∧ (∀ q, H q = none → G a (upd H q (.lst [])) L) ∧ ∀ q, H q = none → Q (.ref q) (upd H q (.lst zs))
/-- what is not there -/
structure NoLen (K : PySem.W.Frag) (C : Addr) : Prop where
  nolen : PySem.W.findIn K (.ref C) "__len__" = some none
  nohint : PySem.W.findIn K (.ref C) "__length_hint__" = some none
theorem call_listOwnL (hc : X.calm = true) (S1 : Spec1 X.K C "__iter__" f) (N1 : NoLen X.K C) (F : FnIt X.prog X.w X.K X.mg X.base k f G) (hr : Room (k + 2) X.A) (hx : Passes (L2.CX X.prog X.w) X E0) : CallR X (.type "list") (rOwnL C G) := by
  intro pins s σ H xs us Q I rv h
  obtain ⟨a, dx, fs, L, zs, rfl, ha, g, hL, hg, hQ⟩ := h
  obtain ⟨u, rfl, ru⟩ := rv.one
  cases ru
  refine callType_codes (Q₁ := fun obj s₁ => obj = .ref s.heap.objs.size ∧ s₁ = { s with heap := s.heap.push { cls := .type "list", data := .seq #[] } }) PySem.F.called_list (PySem.F.typeCall_list_1 _) PySem.F.entry_list_init
    (code_list_new _ ⟨rfl, rfl⟩) fun obj s₁ h₁ => ?_
  obtain ⟨rfl, rfl⟩ := h₁
  have hS : (s.heap.push { cls := .type "list", data := .seq #[] }).get? s.heap.objs.size = some { cls := .type "list", data := .seq #[] } := Heap.get?_push_size _ rfl
  refine ⟨⟨_, hS, rfl⟩, PySem.F.args_list_init_2 _ _, ?_⟩
  have fr : H s.heap.objs.size = none := I.hok.fresh (Nat.le_refl _)
  have hQ1 := hQ _ fr
  have g1 := hg _ fr
  have na : a ≠ s.heap.objs.size := ne_of_none ha fr
  generalize hq : s.heap.objs.size = q at *
  have I1 : Inv X pins σ (upd H q (.lst [])) { s with heap := s.heap.push { cls := .type "list", data := .seq #[] } } := by
    rw [← hq]
    exact I.lnew (its := []) (t' := s.toks) .nil (Nat.zero_le _)
  show wpAny _ _ (Builtin.List.listItems (.ref q) >>= fun old => Builtin.List.listUpdate (.ref q) (fun _ => #[]) >>= fun _ => letGo old.toList.reverse >>= fun _ => Builtin.List.listExtendWith (.ref q) (.ref a) .none) _ _ _
  refine wpAny_bind ?_
  unfold Builtin.List.listItems
  refine wpAny_bind (wpAny_seqItems hS rfl (wpAny_pure ?_))
  refine wpAny_bind (wpAny_updateSeq hS rfl ?_)
  have I2 := I1.lset (f := fun _ => #[]) (its := []) (its' := []) (ys := []) (t' := s.toks) upd_same hS rfl .nil (Nat.zero_le _)
  rw [upd_upd] at I2
  refine wpAny_bind (wpAny_letGo ?_)
  have ha2 : upd H q (.lst []) a = some (.ins C dx fs) := keep_set na ha
  obtain ⟨ox, od, J⟩ := inst_at I2 ha2
  unfold Builtin.List.listExtendWith
  refine wpAny_bind (J.type.here ?_)
  rw [if_neg (show ¬ (Builtin.List.listSameRef (.ref q) (.ref a) || Value.ref C == Value.type "list" || Value.ref C == Value.type "tuple") = true by simp [Builtin.List.listSameRef, Ne.symm na] <;> exact ⟨rfl, rfl⟩)]
  refine wpAny_bind (own_iter (A := X.A.in1.in1) I2 S1 F hr.in1.in1 rfl hx ha2 g1 fun it s3 h1 h2 I3 => ?_)
  have eo := itO_get I3 upd_same
  have hi : it ≠ q := fun z => by
    rw [z, upd_same] at h1
    cases h1
  have hd : upd (upd H q (.lst [])) it (ItO L it 0) it = some (.ext fun h => h.get? it = some (GNX.itObj L 0)) := upd_same
  have lt : X.s_0.heap.objs.size ≤ it := Nat.le_trans I2.sz h2
  have I4 := inv_drop I3 hd
  have fp := inv_fp I3 hd lt
  rw [dropH_upd h1] at I4 fp
  obtain ⟨ox2, od2, J2⟩ := inst_at I4 ha2
  have hint : ∀ {P : Bool → Shared → Prop}, P true s3 → wpAny (model X.prog X.w) X.A.in1.in1 (Builtin.List.listLengthHint (.ref a)) P X.xe s3 := fun {P} p => by
    unfold Builtin.List.listLengthHint
    refine wpAny_bind (wpAny_bind (J2.type.here ((PySem.W.looks_findIn I4.kIn N1.nolen).here ?_)))
    refine PySem.W.KFB.if_not rfl (PySem.W.KFB.if_not rfl ?_)
    exact wpAny_bind (wpAny_bind (J2.type.here ((PySem.W.looks_findIn I4.kIn N1.nohint).here (wpAny_pure p))))
  have go : ∀ s4, Inv X pins σ (upd H q (.lst [])) s4 → s4.heap.IsListIter it L 0 → codeAny (model X.prog X.w) X.A.in1 (.builtin "list.extend.loop" ⟨[.ref q, .ref it, .none], []⟩) (wants (fun r s₂ => r = .none ∧ EP X pins σ Q (.ref q) s₂) X.xe) s4 := fun s4 I5 st =>
    own_turns (A1 := X.A.in1) (H := H) (zs := zs) hc (I5.ok.hd hc) hL fr hi (fun s5 I6 => ⟨rfl, .ref q, _, I6, rfl, hQ1⟩) zs.length 0 s4 (Nat.zero_add _) I5 fp st
  refine wpAny_bind (wpAny_holding (hint ?_))
  obtain ⟨z, its, kk, r3, hl3, e3⟩ := I4.lstM upd_same
  cases r3
  refine wpAny_ite_split (fun _ => ?_) (fun _ => wpAny_pure ⟨plainId_quiet PySem.F.plain_extend_loop _, go s3 I4 ⟨_, eo, rfl, rfl⟩⟩)
  refine wpAny_bind (wpAny_rule (wpAny_bind ?_))
  show wpAny _ _ (updateSeq q (·.push .none) >>= fun _ => updateSeq q (·.pop)) _ _ _
  refine wpAny_bind (wpAny_updateSeq e3 rfl ?_)
  have I5 := I4.lset (f := (·.push Value.none)) (its' := [Value.none]) (ys := [.non]) (t' := s3.toks) upd_same e3 (by simp) (.cons rfl .nil) (by rw [List.length_singleton, sizeLine_eq]; decide)
  obtain ⟨z4, its4, k4, r4, hl4, e4⟩ := I5.lstM upd_same
  obtain ⟨u4, rfl, ru4⟩ := r4.one
  refine wpAny_updateSeq e4 rfl (wpAny_pure ⟨plainId_quiet PySem.F.plain_extend_loop _, go _ ?_ ?_⟩) (by show 1 ≤ sizeLine; rw [sizeLine_eq]; decide) (Nat.zero_le _)
  · have I6 := I5.lset (f := (·.pop)) (its := [u4]) (its' := []) (ys := []) (t' := s3.toks) upd_same e4 (by rfl) .nil (Nat.zero_le _)
    rw [upd_upd, upd_upd] at I6
    exact I6
  · exact ⟨_, (Heap.get?_update_ne _ _ _ _ hi).trans ((Heap.get?_update_ne _ _ _ _ hi).trans eo), rfl, rfl⟩
end
end Lx
set_option Elab.async false
set_option linter.all false
set_option maxRecDepth 100000
set_option maxHeartbeats 4000000
namespace K13
open PySem L2 Lx
def top (i : Nat) : Stmt := PySem.Challenge.pw_latequestions_k13_books_turned.main.body.getD i (.Pass ⟨0, 0, 0, 0⟩)
def LOOKS : List Str := ["walk", "list", "len", "truth", "count", "any", "has", "item", "part"]
def WAYS : List Str := ["keep", "ask", "anew"]
def BUILTS : List Str := ["late", "early"]
def USUALS : List Str := ["keep", "keep", "keep", "keep", "ask", "ask", "ask", "ask", "ask"]
abbrev s_BookU_initU : Stmt := inClass (top 8) 2
theorem sc_BookU_initU : FnScope ["self", "built", "ways", "look", "usual"] ["self", "built", "ways"] (defScope s_BookU_initU) := ⟨rfl, rfl, rfl, by decide +kernel, rfl, by decide +kernel, by decide +kernel⟩
abbrev s_Book_usual : Stmt := inClass (top 8) 3
theorem sc_Book_usual : FnScope ["cls"] ["cls"] (defScope s_Book_usual) := ⟨rfl, rfl, rfl, by decide +kernel, rfl, by decide +kernel, by decide +kernel⟩
abbrev s_Book_read : Stmt := inClass (top 8) 6
theorem sc_Book_read : FnScope ["cls", "text", "words", "pairs", "word", "look", "pair", "ways", "built"] ["cls", "text"] (defScope s_Book_read) := ⟨rfl, rfl, rfl, by decide +kernel, rfl, by decide +kernel, by decide +kernel⟩
abbrev s_Book_turned : Stmt := inClass (top 8) 7
theorem sc_Book_turned : FnScope ["self", "look", "way", "ways"] ["self", "look", "way"] (defScope s_Book_turned) := ⟨rfl, rfl, rfl, by decide +kernel, rfl, by decide +kernel, by decide +kernel⟩
abbrev s_Book_unlike : Stmt := inClass (top 8) 8
theorem sc_Book_unlike : FnScope ["self", "other", "look"] ["self", "other"] (defScope s_Book_unlike) := ⟨rfl, rfl, rfl, by decide +kernel, rfl, by decide +kernel, by decide +kernel⟩
abbrev s_BookU_getitemU : Stmt := inClass (top 8) 9
theorem sc_BookU_getitemU : FnScope ["self", "look"] ["self", "look"] (defScope s_BookU_getitemU) := ⟨rfl, rfl, rfl, by decide +kernel, rfl, by decide +kernel, by decide +kernel⟩
abbrev s_BookU_iterU : Stmt := inClass (top 8) 10
theorem sc_BookU_iterU : FnScope ["self"] ["self"] (defScope s_BookU_iterU) := ⟨rfl, rfl, rfl, by decide +kernel, rfl, by decide +kernel, by decide +kernel⟩
abbrev s_BookU_strU : Stmt := inClass (top 8) 11
theorem sc_BookU_strU : FnScope ["self", "look"] ["self"] (defScope s_BookU_strU) := ⟨rfl, rfl, rfl, by decide +kernel, rfl, by decide +kernel, by decide +kernel⟩
abbrev s_BookU_eqU : Stmt := inClass (top 8) 12
theorem sc_BookU_eqU : FnScope ["self", "other"] ["self", "other"] (defScope s_BookU_eqU) := ⟨rfl, rfl, rfl, by decide +kernel, rfl, by decide +kernel, by decide +kernel⟩
abbrev s__law_begin : Stmt := top 10
theorem sc__law_begin : FnScope ["script", "at", "cell", "great"] ["script", "at"] (defScope s__law_begin) := ⟨rfl, rfl, rfl, by decide +kernel, rfl, by decide +kernel, by decide +kernel⟩
abbrev s__law_draw : Stmt := top 11
theorem sc__law_draw : FnScope ["source", "many", "found", "turn", "mixed"] ["source", "many"] (defScope s__law_draw) := ⟨rfl, rfl, rfl, by decide +kernel, rfl, by decide +kernel, by decide +kernel⟩
abbrev s__law_of : Stmt := top 12
theorem sc__law_of : FnScope ["source", "some"] ["source", "some"] (defScope s__law_of) := ⟨rfl, rfl, rfl, by decide +kernel, rfl, by decide +kernel, by decide +kernel⟩
abbrev s__law_looks : Stmt := top 13
theorem sc__law_looks : FnScope [] [] (defScope s__law_looks) := ⟨rfl, rfl, rfl, by decide +kernel, rfl, by decide +kernel, by decide +kernel⟩
abbrev s__law_ways : Stmt := top 15
theorem sc__law_ways : FnScope ["source", "view"] ["source"] (defScope s__law_ways) := ⟨rfl, rfl, rfl, by decide +kernel, rfl, by decide +kernel, by decide +kernel⟩
abbrev s__law_book_text : Stmt := top 16
theorem sc__law_book_text : FnScope ["built", "manners", "view", "manner"] ["built", "manners"] (defScope s__law_book_text) := ⟨rfl, rfl, rfl, by decide +kernel, rfl, by decide +kernel, by decide +kernel⟩
abbrev s__law_told : Stmt := top 17
theorem sc__law_told : FnScope ["book", "view", "manner", "e"] ["book", "view", "manner"] (defScope s__law_told) := ⟨rfl, rfl, rfl, by decide +kernel, rfl, by decide +kernel, by decide +kernel⟩
abbrev s__law_right : Stmt := top 18
theorem sc__law_right : FnScope ["source", "built", "manners", "book", "turned", "due", "turn", "at", "manner", "before", "later", "unlike", "view", "one", "twin", "thing"] ["source"] (defScope s__law_right) := ⟨rfl, rfl, rfl, by decide +kernel, rfl, by decide +kernel, by decide +kernel⟩
abbrev s_law : Stmt := top 19
theorem sc_law : FnScope ["script", "at", "source", "turn"] ["script"] (defScope s_law) := ⟨rfl, rfl, rfl, by decide +kernel, rfl, by decide +kernel, by decide +kernel⟩
/-- where the defs and classes stand -/
structure Ad where
  c_LateError : Addr
  c_BadBook : Addr
  c_NoLook : Addr
  c_Book : Addr
  a_BookU_initU : Addr
  a_Book_usual : Addr
  a_Book_read : Addr
  a_Book_turned : Addr
  a_Book_unlike : Addr
  a_BookU_getitemU : Addr
  a_BookU_iterU : Addr
  a_BookU_strU : Addr
  a_BookU_eqU : Addr
  a__law_begin : Addr
  a__law_draw : Addr
  a__law_of : Addr
  a__law_looks : Addr
  a__law_ways : Addr
  a__law_book_text : Addr
  a__law_told : Addr
  a__law_right : Addr
  d_BookU_initU : FuncData
  d_Book_usual : FuncData
  d_Book_read : FuncData
  d_Book_turned : FuncData
  d_Book_unlike : FuncData
  d_BookU_getitemU : FuncData
  d_BookU_iterU : FuncData
  d_BookU_strU : FuncData
  d_BookU_eqU : FuncData
  d__law_begin : FuncData
  d__law_draw : FuncData
  d__law_of : FuncData
  d__law_looks : FuncData
  d__law_ways : FuncData
  d__law_book_text : FuncData
  d__law_told : FuncData
  d__law_right : FuncData
  x_i_BadBook : Addr
  x_i_NoLook : Addr
  x_k_BUILT : Addr
  x_k_USUAL : Addr
  x_k_LOOKS : Addr
  x_k_WAYS : Addr
  x_r_usual : Addr
  x_r_read : Addr
abbrev FnP (K : PySem.W.Frag) (x q : Str) (st : Stmt) (dvs : List V) (f : Addr) (fd : FuncData) : Prop := FunD K x q (defArgs st) (defBody st) (defScope st) dvs [] f fd
/-- what the written part says of them -/
structure Tx (K : PySem.W.Frag) (mg : Str → Option Value) (a : Ad) : Prop where
  mg_LateError : mg "LateError" = some (.ref a.c_LateError)
  mg_BadBook : mg "BadBook" = some (.ref a.c_BadBook)
  mg_NoLook : mg "NoLook" = some (.ref a.c_NoLook)
  mg_Book : mg "Book" = some (.ref a.c_Book)
  cl_Book : Cls K a.c_Book
  mk_Book : Mk K a.c_Book a.a_BookU_initU
  na_Book_built : NoAttr K a.c_Book "built"
  na_Book_table : NoAttr K a.c_Book "table"
  na_Book_order : NoAttr K a.c_Book "order"
  F_BookU_initU : FnP K "__init__" "Book.__init__" s_BookU_initU [.str "late"] a.a_BookU_initU a.d_BookU_initU
  at_BookU_initU : PySem.W.findIn K (.ref a.c_Book) "__init__" = some (some (.ref a.a_BookU_initU))
  fn_BookU_initU : PySem.W.isFn K (.ref a.a_BookU_initU) = true
  F_Book_usual : Fun K "usual" "Book.usual" s_Book_usual a.a_Book_usual a.d_Book_usual
  F_Book_read : Fun K "read" "Book.read" s_Book_read a.a_Book_read a.d_Book_read
  F_Book_turned : Fun K "turned" "Book.turned" s_Book_turned a.a_Book_turned a.d_Book_turned
  at_Book_turned : PySem.W.findIn K (.ref a.c_Book) "turned" = some (some (.ref a.a_Book_turned))
  fn_Book_turned : PySem.W.isFn K (.ref a.a_Book_turned) = true
  F_Book_unlike : Fun K "unlike" "Book.unlike" s_Book_unlike a.a_Book_unlike a.d_Book_unlike
  at_Book_unlike : PySem.W.findIn K (.ref a.c_Book) "unlike" = some (some (.ref a.a_Book_unlike))
  fn_Book_unlike : PySem.W.isFn K (.ref a.a_Book_unlike) = true
  F_BookU_getitemU : Fun K "__getitem__" "Book.__getitem__" s_BookU_getitemU a.a_BookU_getitemU a.d_BookU_getitemU
  at_BookU_getitemU : PySem.W.findIn K (.ref a.c_Book) "__getitem__" = some (some (.ref a.a_BookU_getitemU))
  fn_BookU_getitemU : PySem.W.isFn K (.ref a.a_BookU_getitemU) = true
  F_BookU_iterU : Fun K "__iter__" "Book.__iter__" s_BookU_iterU a.a_BookU_iterU a.d_BookU_iterU
  at_BookU_iterU : PySem.W.findIn K (.ref a.c_Book) "__iter__" = some (some (.ref a.a_BookU_iterU))
  fn_BookU_iterU : PySem.W.isFn K (.ref a.a_BookU_iterU) = true
  F_BookU_strU : Fun K "__str__" "Book.__str__" s_BookU_strU a.a_BookU_strU a.d_BookU_strU
  at_BookU_strU : PySem.W.findIn K (.ref a.c_Book) "__str__" = some (some (.ref a.a_BookU_strU))
  fn_BookU_strU : PySem.W.isFn K (.ref a.a_BookU_strU) = true
  F_BookU_eqU : Fun K "__eq__" "Book.__eq__" s_BookU_eqU a.a_BookU_eqU a.d_BookU_eqU
  at_BookU_eqU : PySem.W.findIn K (.ref a.c_Book) "__eq__" = some (some (.ref a.a_BookU_eqU))
  fn_BookU_eqU : PySem.W.isFn K (.ref a.a_BookU_eqU) = true
  F__law_begin : Fun K "_law_begin" "_law_begin" s__law_begin a.a__law_begin a.d__law_begin
  mg__law_begin : mg "_law_begin" = some (.ref a.a__law_begin)
  F__law_draw : Fun K "_law_draw" "_law_draw" s__law_draw a.a__law_draw a.d__law_draw
  mg__law_draw : mg "_law_draw" = some (.ref a.a__law_draw)
  F__law_of : Fun K "_law_of" "_law_of" s__law_of a.a__law_of a.d__law_of
  mg__law_of : mg "_law_of" = some (.ref a.a__law_of)
  F__law_looks : Fun K "_law_looks" "_law_looks" s__law_looks a.a__law_looks a.d__law_looks
  mg__law_looks : mg "_law_looks" = some (.ref a.a__law_looks)
  F__law_ways : Fun K "_law_ways" "_law_ways" s__law_ways a.a__law_ways a.d__law_ways
  mg__law_ways : mg "_law_ways" = some (.ref a.a__law_ways)
  F__law_book_text : Fun K "_law_book_text" "_law_book_text" s__law_book_text a.a__law_book_text a.d__law_book_text
  mg__law_book_text : mg "_law_book_text" = some (.ref a.a__law_book_text)
  F__law_told : Fun K "_law_told" "_law_told" s__law_told a.a__law_told a.d__law_told
  mg__law_told : mg "_law_told" = some (.ref a.a__law_told)
  F__law_right : Fun K "_law_right" "_law_right" s__law_right a.a__law_right a.d__law_right
  mg__law_right : mg "_law_right" = some (.ref a.a__law_right)
  z_abs : mg "abs" = none
  z_all : mg "all" = none
  z_classmethod : mg "classmethod" = none
  z_dict : mg "dict" = none
  z_int : mg "int" = none
  z_isinstance : mg "isinstance" = none
  z_iter : mg "iter" = none
  z_len : mg "len" = none
  z_list : mg "list" = none
  z_max : mg "max" = none
  z_min : mg "min" = none
  z_range : mg "range" = none
  z_sorted : mg "sorted" = none
  z_str : mg "str" = none
  z_tuple : mg "tuple" = none
  z_zip : mg "zip" = none
  sx_BadBook : SxT K "/claim/cut.py" a.c_BadBook a.x_i_BadBook "thing" "ValueError" "ValueError.__new__" "ValueError.__init__" [.type "ValueError", .type "Exception", .type "BaseException", .type "object"]
  sx_NoLook : SxT K "/claim/cut.py" a.c_NoLook a.x_i_NoLook "look" "LookupError" "LookupError.__new__" "LookupError.__init__" [.type "LookupError", .type "Exception", .type "BaseException", .type "object"]
  ex_BN : PySem.W.exmOne K (.ref a.c_BadBook) (.ref a.c_NoLook) = some false
  ex_BB : PySem.W.exmOne K (.ref a.c_BadBook) (.ref a.c_BadBook) = some true
  xf_BadBook : XfC K a.c_BadBook
  xn_BadBook : PySem.W.findIn K (.ref a.c_BadBook) "thing" = some none
  xf_NoLook : XfC K a.c_NoLook
  xn_NoLook : PySem.W.findIn K (.ref a.c_NoLook) "look" = some none
  ex_NoLook : PySem.W.exmOne K (.ref a.c_NoLook) (.ref a.c_NoLook) = some true
  g_BUILT : mg "BUILT" = some (.ref a.x_k_BUILT)
  g_USUAL : mg "USUAL" = some (.ref a.x_k_USUAL)
  t_BUILT : KTup K a.x_k_BUILT BUILTS
  t_USUAL : KTup K a.x_k_USUAL USUALS
  t_LOOKS : KTup K a.x_k_LOOKS LOOKS
  t_WAYS : KTup K a.x_k_WAYS WAYS
  cr : ClX.CRead K a.c_Book (.type "type")
  cv_LOOKS : ClX.CVal K a.c_Book (.type "type") "LOOKS" (.ref a.x_k_LOOKS) (.ref a.x_k_LOOKS)
  cv_WAYS : ClX.CVal K a.c_Book (.type "type") "WAYS" (.ref a.x_k_WAYS) (.ref a.x_k_WAYS)
  fi_getitem : PySem.W.fnIn K a.a_BookU_getitemU = true
  nec : NeC K a.c_Book
  nol : NoLen K a.c_Book
  ci_at : PySem.W.findIn K (.ref a.c_Book) "__class__" = some (some (.builtin "object.__class__"))
  ci_get : PySem.W.specialIn K (.builtin "object.__class__") "__get__" = some (some (.builtin "getset_descriptor.__get__"))
  ci_tk : PySem.W.takesIn K (.builtin "object.__class__") = some true
  nf_B : PySem.W.notFirst K a.c_Book (.ref a.c_Book) = true
  nf_S : PySem.W.notFirst K a.c_Book (.type "str") = true
  nf_L : PySem.W.notFirst K a.c_Book (.type "list") = true
  ki_B : PySem.W.kitOne K (.ref a.c_Book) (.ref a.c_Book) = some true
  ki_S : PySem.W.kitOne K (.type "str") (.ref a.c_Book) = some false
  ki_L : PySem.W.kitOne K (.type "list") (.ref a.c_Book) = some false
  cm_usual : ClX.CMet K a.c_Book (.type "type") "usual" a.x_r_usual a.a_Book_usual
  cm_read : ClX.CMet K a.c_Book (.type "type") "read" a.x_r_read a.a_Book_read
section
variable {K : PySem.W.Frag} {mg : Str → Option Value} {a : Ad}
theorem Tx.m_BookU_initU (T : Tx K mg a) : Meth K a.c_Book "__init__" a.a_BookU_initU := ⟨T.at_BookU_initU, T.fn_BookU_initU, T.F_BookU_initU.kp⟩
theorem Tx.b_Book_usual (T : Tx K mg a) : Binds K a.d_Book_usual ["cls"] [] := T.F_Book_usual.binds (ps := ["cls"]) fun _ _ _ _ _ _ us hl => match us, hl with | [_], _ => rfl
theorem Tx.b_Book_read (T : Tx K mg a) : Binds K a.d_Book_read ["cls", "text"] [] := T.F_Book_read.binds (ps := ["cls", "text"]) fun _ _ _ _ _ _ us hl => match us, hl with | [_, _], _ => rfl
theorem Tx.m_Book_turned (T : Tx K mg a) : Meth K a.c_Book "turned" a.a_Book_turned := ⟨T.at_Book_turned, T.fn_Book_turned, T.F_Book_turned.kp⟩
theorem Tx.b_Book_turned (T : Tx K mg a) : Binds K a.d_Book_turned ["self", "look", "way"] [] := T.F_Book_turned.binds (ps := ["self", "look", "way"]) fun _ _ _ _ _ _ us hl => match us, hl with | [_, _, _], _ => rfl
theorem Tx.m_Book_unlike (T : Tx K mg a) : Meth K a.c_Book "unlike" a.a_Book_unlike := ⟨T.at_Book_unlike, T.fn_Book_unlike, T.F_Book_unlike.kp⟩
theorem Tx.b_Book_unlike (T : Tx K mg a) : Binds K a.d_Book_unlike ["self", "other"] [] := T.F_Book_unlike.binds (ps := ["self", "other"]) fun _ _ _ _ _ _ us hl => match us, hl with | [_, _], _ => rfl
theorem Tx.m_BookU_getitemU (T : Tx K mg a) : Meth K a.c_Book "__getitem__" a.a_BookU_getitemU := ⟨T.at_BookU_getitemU, T.fn_BookU_getitemU, T.F_BookU_getitemU.kp⟩
theorem Tx.b_BookU_getitemU (T : Tx K mg a) : Binds K a.d_BookU_getitemU ["self", "look"] [] := T.F_BookU_getitemU.binds (ps := ["self", "look"]) fun _ _ _ _ _ _ us hl => match us, hl with | [_, _], _ => rfl
theorem Tx.m_BookU_iterU (T : Tx K mg a) : Meth K a.c_Book "__iter__" a.a_BookU_iterU := ⟨T.at_BookU_iterU, T.fn_BookU_iterU, T.F_BookU_iterU.kp⟩
theorem Tx.b_BookU_iterU (T : Tx K mg a) : Binds K a.d_BookU_iterU ["self"] [] := T.F_BookU_iterU.binds (ps := ["self"]) fun _ _ _ _ _ _ us hl => match us, hl with | [_], _ => rfl
theorem Tx.m_BookU_strU (T : Tx K mg a) : Meth K a.c_Book "__str__" a.a_BookU_strU := ⟨T.at_BookU_strU, T.fn_BookU_strU, T.F_BookU_strU.kp⟩
theorem Tx.b_BookU_strU (T : Tx K mg a) : Binds K a.d_BookU_strU ["self"] [] := T.F_BookU_strU.binds (ps := ["self"]) fun _ _ _ _ _ _ us hl => match us, hl with | [_], _ => rfl
theorem Tx.m_BookU_eqU (T : Tx K mg a) : Meth K a.c_Book "__eq__" a.a_BookU_eqU := ⟨T.at_BookU_eqU, T.fn_BookU_eqU, T.F_BookU_eqU.kp⟩
theorem Tx.b_BookU_eqU (T : Tx K mg a) : Binds K a.d_BookU_eqU ["self", "other"] [] := T.F_BookU_eqU.binds (ps := ["self", "other"]) fun _ _ _ _ _ _ us hl => match us, hl with | [_, _], _ => rfl
theorem Tx.kp__law_begin (T : Tx K mg a) : PySem.W.keepIn K (.ref a.a__law_begin) = true := T.F__law_begin.kp
theorem Tx.b__law_begin (T : Tx K mg a) : Binds K a.d__law_begin ["script", "at"] [] := T.F__law_begin.binds (ps := ["script", "at"]) fun _ _ _ _ _ _ us hl => match us, hl with | [_, _], _ => rfl
theorem Tx.kp__law_draw (T : Tx K mg a) : PySem.W.keepIn K (.ref a.a__law_draw) = true := T.F__law_draw.kp
theorem Tx.b__law_draw (T : Tx K mg a) : Binds K a.d__law_draw ["source", "many"] [] := T.F__law_draw.binds (ps := ["source", "many"]) fun _ _ _ _ _ _ us hl => match us, hl with | [_, _], _ => rfl
theorem Tx.kp__law_of (T : Tx K mg a) : PySem.W.keepIn K (.ref a.a__law_of) = true := T.F__law_of.kp
theorem Tx.b__law_of (T : Tx K mg a) : Binds K a.d__law_of ["source", "some"] [] := T.F__law_of.binds (ps := ["source", "some"]) fun _ _ _ _ _ _ us hl => match us, hl with | [_, _], _ => rfl
theorem Tx.kp__law_looks (T : Tx K mg a) : PySem.W.keepIn K (.ref a.a__law_looks) = true := T.F__law_looks.kp
theorem Tx.b__law_looks (T : Tx K mg a) : Binds K a.d__law_looks [] [] := T.F__law_looks.binds (ps := []) fun _ _ _ _ _ _ us hl => match us, hl with | [], _ => rfl
theorem Tx.kp__law_ways (T : Tx K mg a) : PySem.W.keepIn K (.ref a.a__law_ways) = true := T.F__law_ways.kp
theorem Tx.b__law_ways (T : Tx K mg a) : Binds K a.d__law_ways ["source"] [] := T.F__law_ways.binds (ps := ["source"]) fun _ _ _ _ _ _ us hl => match us, hl with | [_], _ => rfl
theorem Tx.kp__law_book_text (T : Tx K mg a) : PySem.W.keepIn K (.ref a.a__law_book_text) = true := T.F__law_book_text.kp
theorem Tx.b__law_book_text (T : Tx K mg a) : Binds K a.d__law_book_text ["built", "manners"] [] := T.F__law_book_text.binds (ps := ["built", "manners"]) fun _ _ _ _ _ _ us hl => match us, hl with | [_, _], _ => rfl
theorem Tx.kp__law_told (T : Tx K mg a) : PySem.W.keepIn K (.ref a.a__law_told) = true := T.F__law_told.kp
theorem Tx.b__law_told (T : Tx K mg a) : Binds K a.d__law_told ["book", "view", "manner"] [] := T.F__law_told.binds (ps := ["book", "view", "manner"]) fun _ _ _ _ _ _ us hl => match us, hl with | [_, _, _], _ => rfl
theorem Tx.kp__law_right (T : Tx K mg a) : PySem.W.keepIn K (.ref a.a__law_right) = true := T.F__law_right.kp
theorem Tx.b__law_right (T : Tx K mg a) : Binds K a.d__law_right ["source"] [] := T.F__law_right.binds (ps := ["source"]) fun _ _ _ _ _ _ us hl => match us, hl with | [_], _ => rfl
end
end K13
set_option Elab.async false
set_option linter.all false
set_option maxRecDepth 100000
set_option maxHeartbeats 4000000
namespace K13
open PySem L2 Lx
/-! ### what a book is -/
def keyed (ms : List Str) : List (Key × V) := kwK (strD (LOOKS.zip ms))
def Book (c : Addr) (H : Hp) (b : Addr) (bt : Str) (ms : List Str) : Prop :=
  ∃ dx T L, H b = some (.ins c dx [("built", .str bt), ("table", .ref T), ("order", .ref L)]) ∧ H T = some (.dK (keyed ms)) ∧ H L = some (.lst (LOOKS.map V.str))
def Good (ms : List Str) : Prop := ms.length = 9 ∧ ∀ m ∈ ms, m ∈ WAYS
def way (kvs : List (Str × Str)) (p : Str × Str) : Str := (kvs.lookup p.1).getD p.2
def ways (kvs : List (Str × Str)) : List Str := (LOOKS.zip USUALS).map (way kvs)
theorem zip_ways (kvs : List (Str × Str)) : (LOOKS.zip USUALS).map (fun p => (p.1, way kvs p)) = LOOKS.zip (ways kvs) := rfl
theorem Book.same {c : Addr} {H H' : Hp} {b : Addr} {bt : Str} {ms : List Str} (h : Book c H b bt ms) (e : Same H H') : Book c H' b bt ms := by
  obtain ⟨dx, T, L, h1, h2, h3⟩ := h
  exact ⟨dx, T, L, e _ _ h1, e _ _ h2, e _ _ h3⟩
def pr (kvs : List (Str × Str)) (p : Str × Str) : Key × V := (Sum.inr p.1, V.str (way kvs p))
theorem pr_keys (kvs : List (Str × Str)) (i : Nat) : (((LOOKS.zip USUALS).take i).map (pr kvs)).map (·.1) = (LOOKS.take i).map Sum.inr := by
  rw [List.map_map]
  have e : ((LOOKS.zip USUALS).map (·.1)) = LOOKS := rfl
  conv => rhs; rw [← e]
  rw [← List.map_take, List.map_map]
  rfl
theorem pr_new {kvs : List (Str × Str)} {i : Nat} {l u : Str} (h1 : LOOKS[i]? = some l) (h2 : USUALS[i]? = some u) : putK (((LOOKS.zip USUALS).take i).map (pr kvs)) (Sum.inr l) (.str (way kvs (l, u))) = ((LOOKS.zip USUALS).take (i + 1)).map (pr kvs) := by
  have hz : (LOOKS.zip USUALS)[i]? = some (l, u) := List.getElem?_zip_eq_some.mpr ⟨h1, h2⟩
  rw [putK_app, List.take_add_one, hz, List.map_append]
  · rfl
  · rw [pr_keys]
    intro z
    obtain ⟨q, hq, e⟩ := List.mem_map.mp z
    have e' : q = l := Sum.inr.inj e
    subst e'
    exact nodup_take (by decide) h1 hq
theorem keyed_at {ms : List Str} {i : Nat} {l m : Str} (h1 : LOOKS[i]? = some l) (h2 : ms[i]? = some m) : valV (keyed ms) (Sum.inr l) = some (.str m) := by
  unfold keyed
  rw [valV_strD, lookup_zip (by decide) h1 h2]
  rfl
theorem looks_at {ms : List Str} (h : ms.length = 9) {i : Nat} {l : Str} (h1 : LOOKS[i]? = some l) : ∃ m, ms[i]? = some m := by
  have q : i < LOOKS.length := (List.getElem?_eq_some_iff.mp h1).1
  exact ⟨_, List.getElem?_eq_getElem (show i < ms.length by rw [h]; exact q)⟩
def spI (c : Addr) : Sp := fun vs H Q _ => ∃ (x dx d : Addr) (bt : Str) (kvs : List (Str × Str)), vs = [.ref x, .str bt, .ref d] ∧ H x = some (.ins c dx []) ∧ bt ∈ BUILTS ∧ H d = some (.dK (kwK (strD kvs))) ∧ (∀ p ∈ kvs, p.1 ∈ LOOKS) ∧ (∀ m ∈ ways kvs, m ∈ WAYS) ∧ kvs.length < 64 ∧
  ∀ H', Book c H' x bt (ways kvs) → Chg [x] H H' → Q .non H'
section
variable {P : Program} {w : World} {K : PySem.W.Frag} {mg : Str → Option Value} {base : Heap} {a : Ad}
theorem ok_init (T : Tx K mg a) (PF : PFile P "/claim/cut.py") : FnW P w K mg base (L2.CX P w) 3 a.a_BookU_initU (fun vs kvs H Q E => ∃ ws rest, G2 "self" "built" (.str "late") vs kvs ws rest ∧ rest.length ≤ sizeLine ∧ ∀ d, H d = none → spI a.c_Book (ws ++ [V.ref d]) (upd H d (.dK (kwK rest))) Q E) := by
  refine okW2 T.F_BookU_initU rfl (by decide) sc_BookU_initU StX.cxUp (fun cdv A outer s H vs Q E hr h => ?_)
  obtain ⟨x, dx, d, bt, kvs, rfl, hx, hbt, hd, hks, hws, hl, k⟩ := h
  refine ⟨_, (pss_cons (ps_if (pt_cmpR op_notIn_seq (pv 1) (pe_glob (v := .ref a.x_k_BUILT) (by rfl) T.g_BUILT rfl) (by rfl))
  (pss_one (ps_raiseX (k := 0) rfl bs_Value T.sx_BadBook PF (hr.mono (by decide)) (takes_of rfl rfl rfl rfl) T.mg_BadBook (pv 1) (by rfl)))
  pss_nil)
  (pss_cons (ps_for (passes_of rfl) rfl (pi_list (pe_callB (call_sortedD rfl) (by rfl) T.z_sorted (by decide +kernel) (pa_cons (pv 2) pa_nil))) (pg_name (i := 3) sc_BookU_initU.nd rfl (Or.inl rfl))
  (pss_one (ps_if (pt_cmpR op_notIn_seq (pv 3) (ClX.pe_cval (pe_glob (v := .ref a.c_Book) (by rfl) T.mg_Book rfl)) (by rfl))
  (pss_one (ps_raiseX (k := 0) rfl bs_Lookup T.sx_NoLook PF (hr.mono (by decide)) (takes_of rfl rfl rfl rfl) T.mg_NoLook (pv 3) (by rfl)))
  pss_nil)))
  (pss_cons (ps_fld (pv 0) (pv 1) rfl)
  (pss_cons (ps_fld (pv 0) (pe_dc (own := [("look", 3), ("usual", 4)]) (g := gTup K 2 (gCons (gName 3) (gCons (gName 4) gNil))) rfl sc_BookU_initU.nd (RZ.pi_zipA (by rfl) T.z_zip (pa_cons (ClX.pe_cval (pe_glob (v := .ref a.c_Book) (by rfl) T.mg_Book rfl)) (pa_cons (pe_glob (v := .ref a.x_k_USUAL) (by rfl) T.g_USUAL rfl) pa_nil))) (blkOk_by (own := [("look", 3), ("usual", 4)]) (N := ["self", "built", "ways", "look", "usual"]) (sc := defScope s_BookU_initU) (by decide +kernel)) (fun _ _ _ _ _ => (pg_tup (by rfl) (pgs_cons (pg_name (i := 3) sc_BookU_initU.nd rfl (Or.inl rfl)) (pgs_cons (pg_name (i := 4) sc_BookU_initU.nd rfl (Or.inl rfl)) pgs_nil)))) (fun _ _ _ _ _ => pts_nil) (fun _ _ _ _ _ => (pv 3)) (fun _ _ _ _ _ => (pe_dget2 (hu_of hr) (pv 2) (pv 3) (pv 4) ⟨by rfl, by rfl, by rfl, by rfl⟩))) rfl)
  (pss_cons (ps_fld (pv 0) (pe_callTy call_list_of (by rfl) T.z_list (by decide +kernel) (pa_cons (ClX.pe_cval (pe_glob (v := .ref a.c_Book) (by rfl) T.mg_Book rfl)) pa_nil)) rfl)
  (pss_one (ps_for (passes_of rfl) rfl (pi_list (pe_fld (pv 0) rfl)) (pg_name (i := 3) sc_BookU_initU.nd rfl (Or.inl rfl))
  (pss_one (ps_if (pt_cmpR op_notIn_seq (pe_dget (hu_of hr) (pe_fld (pv 0) rfl) (pv 3) (fun _ _ => rfl)) (ClX.pe_cval (pe_glob (v := .ref a.c_Book) (by rfl) T.mg_Book rfl)) (by rfl))
  (pss_one (ps_raiseX (k := 0) rfl bs_Value T.sx_BadBook PF (hr.mono (by decide)) (takes_of rfl rfl rfl rfl) T.mg_BadBook (pe_dget (hu_of hr) (pe_fld (pv 0) rfl) (pv 3) (fun _ _ => rfl)) (by rfl)))
  pss_nil))))))))), ?_⟩
  have b1 : ∀ {x : Str} {ss : List Str}, x ∈ ss → (if true = true then !inV (.str x) (ss.map V.str) else inV (.str x) (ss.map V.str)) = false := fun {x ss} h => by
    rw [if_pos rfl, inV_str, decide_eq_true h]
    rfl
  refine ⟨_, rfl, _, BUILTS.map V.str, rfl, .inr (T.t_BUILT _), rfl, flat_strs _, _, rfl, ?_⟩
  refine if_false_of (b1 hbt) ?_
  refine ⟨_, rfl, d, _, kvs.map (·.1), rfl, .inl hd, ?_, ?_, fun ys p hp _ np => ?_⟩
  · rw [List.map_map, List.map_map, List.map_map]
    rfl
  · rw [List.length_map]
    exact hl
  refine ⟨p, rfl, ⟨_, SqL.of upd_same⟩, for_it (walk_list (K := K) (a := p) (xs := ys.map V.str)) (fun i σ H' => H' = upd H p (.lst (ys.map V.str)) ∧ ∃ v3, σ = [some (.ref x), some (.str bt), some (.ref d), v3, none]) ⟨rfl, _, rfl⟩ (fun _ _ _ _ h => by rw [h.1]; exact SqL.of upd_same) ?_ ?_⟩
  · rintro i y σ H1 H2 hi ⟨rfl, v3, rfl⟩ ⟨rfl, hy⟩
    obtain ⟨s, hs, rfl⟩ := get_str hy
    have hm : s ∈ LOOKS := by
      have q := hp.mem_iff.mp (List.mem_of_getElem? hs)
      obtain ⟨q1, q2, q3⟩ := List.mem_map.mp q
      rw [← q3]
      exact hks q1 q2
    refine ⟨_, rfl, a.c_Book, .type "type", _, _, rfl, T.cr, T.cv_LOOKS, _, LOOKS.map V.str, rfl, .inr (T.t_LOOKS _), rfl, flat_strs _, _, rfl, if_false_of (b1 hm) ?_⟩
    exact ⟨rfl, _, rfl⟩
  · rintro σ H1 ⟨rfl, v3, rfl⟩
    have nx : p ≠ x := none_ne hx np
    have hx1 : upd H p (.lst (ys.map V.str)) x = some (.ins a.c_Book dx []) := keep_set (Ne.symm nx) hx
    have dx1 : d ≠ x := fun z => by
      rw [z, hx] at hd
      cases hd
    have hd1 : upd H p (.lst (ys.map V.str)) d = some (.dK (kwK (strD kvs))) := keep_set (none_ne hd np).symm hd
    refine ⟨_, rfl, _, rfl, x, a.c_Book, dx, [], rfl, hx1, T.cl_Book, T.na_Book_built, by decide, ?_⟩
    refine ⟨a.c_Book, .type "type", _, _, rfl, T.cr, T.cv_LOOKS, _, _, LOOKS.map V.str, USUALS.map V.str, rfl, .inr ⟨T.t_LOOKS _, T.t_USUAL _, fun D nD => ?_⟩⟩
    let G : Hp := upd (upd H p (.lst (ys.map V.str))) x (.ins a.c_Book dx (putF "built" (.str bt) []))
    have hdG : G d = some (.dK (kwK (strD kvs))) := keep_set dx1 hd1
    refine dc_it (walk_zipT (K := K) (xs := LOOKS.map V.str) (ys := USUALS.map V.str) (n := 9) rfl) (fun i H' => Same G H' ∧ H' D = some (.dK (((LOOKS.zip USUALS).take i).map (pr kvs)))) ⟨Lx.Same.new nD, upd_same⟩ (fun _ H' _ _ => ⟨T.t_LOOKS H', T.t_USUAL H'⟩) ?_ ?_
    · rintro i y H1 H2 hi ⟨s1, hD⟩ ⟨t, u1, u2, rfl, nt, rfl, e1, e2⟩
      obtain ⟨l1, g1, rfl⟩ := get_str e1
      obtain ⟨l2, g2, rfl⟩ := get_str e2
      have nD2 : D ≠ t := (none_ne hD nt).symm
      have hD2 : upd H1 t (.tup [V.str l1, V.str l2]) D = some (.dK (((LOOKS.zip USUALS).take i).map (pr kvs))) := keep_set nD2 hD
      have hd2 : upd H1 t (.tup [V.str l1, V.str l2]) d = some (.dK (kwK (strD kvs))) := keep_set (none_ne (s1 _ _ hdG) nt).symm (s1 _ _ hdG)
      have hv : (valV (kwK (strD kvs)) (Sum.inr l1)).getD (.str l2) = .str (way kvs (l1, l2)) := by
        rw [valV_strD]
        unfold way
        cases kvs.lookup l1 <;> rfl
      refine ⟨t, _, rfl, SqT.of upd_same, rfl, _, _, rfl, _, _, rfl, rfl, rfl, _, rfl, _, rfl, d, rfl, .inl ⟨_, .inl hd2⟩, _, rfl, _, rfl, _, DGet.k (k := Sum.inr l1) hd2, _, Sum.inr l1, rfl, hD2, ?_, ?_, ?_⟩
      · rw [List.length_map]
        exact Nat.lt_of_le_of_lt (List.length_take_le' ..) (by decide)
      · exact Lx.Same.mut (s1.trans (Lx.Same.new nt)) nD
      · rw [upd_same, hv, pr_new g1 g2]
    · rintro H3 ⟨s3, hD3⟩
      have e9 : ((LOOKS.zip USUALS).take 9).map (pr kvs) = keyed (ways kvs) := rfl
      rw [e9] at hD3
      have hx3 : H3 x = some (.ins a.c_Book dx (putF "built" (.str bt) [])) := s3 _ _ upd_same
      refine ⟨_, rfl, x, a.c_Book, dx, _, rfl, hx3, T.cl_Book, T.na_Book_table, (by show 1 < 1000; decide), ?_⟩
      refine ⟨a.c_Book, .type "type", _, _, rfl, T.cr, T.cv_LOOKS, _, _, rfl, .inr (T.t_LOOKS _), fun L nL => ?_⟩
      have nDx : D ≠ x := none_ne (show G x = some _ from upd_same) nD
      have hx4 : upd H3 x (.ins a.c_Book dx (putF "table" (.ref D) (putF "built" (.str bt) []))) x = some (.ins a.c_Book dx (putF "table" (.ref D) (putF "built" (.str bt) []))) := upd_same
      have nLx : L ≠ x := none_ne hx4 nL
      have hD4 : upd H3 x (.ins a.c_Book dx (putF "table" (.ref D) (putF "built" (.str bt) []))) D = some (.dK (keyed (ways kvs))) := keep_set nDx hD3
      have nLD : L ≠ D := none_ne hD4 nL
      refine ⟨_, rfl, x, a.c_Book, dx, _, rfl, keep_set nLx.symm hx4, T.cl_Book, T.na_Book_order, (by show 2 < 1000; decide), ?_⟩
      let fs : List (Str × V) := [("built", .str bt), ("table", .ref D), ("order", .ref L)]
      let H5 : Hp := upd (upd (upd H3 x (.ins a.c_Book dx (putF "table" (.ref D) (putF "built" (.str bt) [])))) L (.lst (LOOKS.map V.str))) x (.ins a.c_Book dx fs)
      have hx5 : H5 x = some (.ins a.c_Book dx fs) := upd_same
      have hD5 : H5 D = some (.dK (keyed (ways kvs))) := keep_set nDx (keep_set nLD.symm hD4)
      have hL5 : H5 L = some (.lst (LOOKS.map V.str)) := keep_set nLx upd_same
      refine ⟨_, rfl, x, a.c_Book, dx, fs, _, rfl, hx5, T.cl_Book, T.na_Book_order, rfl, L, rfl, ⟨_, SqL.of hL5⟩, for_it (walk_list (K := K) (a := L) (xs := LOOKS.map V.str)) (fun i σ H' => H' = H5 ∧ ∃ v3 v4, σ = [some (.ref x), some (.str bt), some (.ref d), v3, v4]) ⟨rfl, _, _, rfl⟩ (fun _ _ _ _ h => by rw [h.1]; exact SqL.of hL5) ?_ ?_⟩
      · rintro i y σ H1 H2 hi ⟨rfl, v3, v4, rfl⟩ ⟨rfl, hy⟩
        obtain ⟨l, hl, rfl⟩ := get_str hy
        obtain ⟨m, hm⟩ := looks_at (ms := ways kvs) rfl hl
        have hget : DGet H5 D (.str l) (some (.str m)) := by
          have q := DGet.k (k := Sum.inr l) hD5
          rw [keyed_at hl hm] at q
          exact q
        have hmem : m ∈ WAYS := hws m (List.mem_of_getElem? hm)
        exact ⟨_, rfl, x, a.c_Book, dx, fs, _, rfl, hx5, T.cl_Book, T.na_Book_table, rfl, _, rfl, D, .str m, rfl, hget, a.c_Book, .type "type", _, _, rfl, T.cr, T.cv_WAYS, _, WAYS.map V.str, rfl, .inr (T.t_WAYS _), rfl, flat_strs _, _, rfl, if_false_of (b1 hmem) ⟨rfl, _, _, rfl⟩⟩
      · rintro σ H1 ⟨rfl, v3, v4, rfl⟩
        refine k _ ⟨dx, D, L, hx5, hD5, hL5⟩ fun b o hb e => ?_
        have hbx : b ≠ x := fun z => hb (List.mem_singleton.mpr z)
        have h1 : upd H p (.lst (ys.map V.str)) b = some o := keep_set (none_ne e np).symm e
        have h3 : H3 b = some o := s3 _ _ (keep_set hbx h1)
        have h4 : upd H3 x (.ins a.c_Book dx (putF "table" (.ref D) (putF "built" (.str bt) []))) b = some o := keep_set hbx h3
        exact keep_set hbx (keep_set (none_ne h4 nL).symm h4)
end
end K13
set_option Elab.async false
set_option linter.all false
set_option maxRecDepth 100000
set_option maxHeartbeats 4000000
namespace K13
open PySem L2 Lx TL
/-! ### a new book, as the caller sees it -/
abbrev spNew (c : Addr) : SpW := fun vs kvs H Q E => ∃ ws rest, G2 "self" "built" (.str "late") vs kvs ws rest ∧ rest.length ≤ sizeLine ∧ ∀ d, H d = none → spI c (ws ++ [V.ref d]) (upd H d (.dK (kwK rest))) Q E
structure GoodK (kvs : List (Str × Str)) : Prop where
  keys : ∀ p ∈ kvs, p.1 ∈ LOOKS
  vals : ∀ m ∈ ways kvs, m ∈ WAYS
  few : kvs.length < 64
theorem looks_names : ∀ l ∈ LOOKS, l ≠ ("self" : Str) ∧ l ≠ ("built" : Str) := by decide
theorem GoodK.rest {kvs : List (Str × Str)} (g : GoodK kvs) : (∀ q ∈ strD kvs, q.1 ≠ ("self" : Str) ∧ q.1 ≠ ("built" : Str)) ∧ (strD kvs).length ≤ sizeLine := by
  refine ⟨fun q hq => ?_, ?_⟩
  · obtain ⟨p, hp, rfl⟩ := List.mem_map.mp hq
    exact looks_names _ (g.keys p hp)
  · rw [List.length_map, sizeLine_eq]
    have := g.few
    omega
section
variable {c x dx : Addr} {bt : Str} {kvs : List (Str × Str)} {H : Hp} {Q : VK} {E : XK}
theorem new_core (g : GoodK kvs) (hb : bt ∈ BUILTS) (nx : H x = none) (nd : H dx = none) (ne : dx ≠ x) (k : ∀ (b : Addr) (H' : Hp), Book c H' b bt (ways kvs) → Same H H' → Q (.ref b) H') (d : Addr) (hd : upd (upd H dx (.own x)) x (.ins c dx []) d = none) :
    spI c [.ref x, .str bt, .ref d] (upd (upd (upd H dx (.own x)) x (.ins c dx [])) d (.dK (kwK (strD kvs)))) (fun v H3 => v = .non ∧ Q (.ref x) H3) E := by
  have n1 : d ≠ x := none_ne upd_same hd
  refine ⟨x, dx, d, bt, kvs, rfl, keep_set n1.symm upd_same, hb, upd_same, g.keys, g.vals, g.few, fun H' hB hC => ⟨rfl, k x H' hB fun b o e => ?_⟩⟩
  have h1 : b ≠ x := fun z => by
    rw [z, nx] at e
    cases e
  have h2 : b ≠ dx := fun z => by
    rw [z, nd] at e
    cases e
  have e1 : upd (upd H dx (.own x)) x (.ins c dx []) b = some o := keep_set h1 (keep_set h2 e)
  exact hC b o (fun z => h1 (List.mem_singleton.mp z)) (keep_set (none_ne e1 hd).symm e1)
end
/-! ### the texts of books -/
def word (p : Str × Str) : Str := p.1 ++ ":" ++ p.2
def words (ms : List Str) : List Str := (LOOKS.zip ms).map word
def text (bt : Str) (ms : List Str) : Str := Txt.join " " (bt :: words ms)
theorem no_sp : ∀ x ∈ BUILTS ++ (LOOKS ++ WAYS), 32 ∉ tl x := by decide
theorem no_col : ∀ x ∈ LOOKS ++ WAYS, 58 ∉ tl x := by decide
theorem short : ∀ x ∈ BUILTS ++ (LOOKS ++ WAYS), x.length ≤ 5 := by decide
theorem zip_mem {ms : List Str} (g : Good ms) {p : Str × Str} (h : p ∈ LOOKS.zip ms) : p.1 ∈ LOOKS ∧ p.2 ∈ WAYS := by
  have q := List.of_mem_zip (show (p.1, p.2) ∈ LOOKS.zip ms from h)
  exact ⟨q.1, g.2 _ q.2⟩
theorem split_text {bt : Str} {ms : List Str} (hb : bt ∈ BUILTS) (g : Good ms) : Txt.split (text bt ms) " " = bt :: words ms := by
  refine split_join (y := " ") (s := 32) (S := []) (by decide) (by decide +kernel) (by simp) fun p hp => ?_
  rcases List.mem_cons.mp hp with rfl | hp
  · exact no_sp _ (List.mem_append_left _ hb)
  · obtain ⟨q, hq, rfl⟩ := List.mem_map.mp hp
    obtain ⟨h1, h2⟩ := zip_mem g hq
    show 32 ∉ tl (q.1 ++ ":" ++ q.2)
    rw [tl_append, tl_append, List.mem_append, List.mem_append]
    rintro ((z | z) | z)
    · exact no_sp _ (List.mem_append_right _ (List.mem_append_left _ h1)) z
    · exact absurd z (by decide)
    · exact no_sp _ (List.mem_append_right _ (List.mem_append_right _ h2)) z
theorem split_word {p : Str × Str} (h1 : p.1 ∈ LOOKS) (h2 : p.2 ∈ WAYS) : Txt.split (word p) ":" = [p.1, p.2] := by
  have e : word p = Txt.join ":" [p.1, p.2] := by
    rw [join_eq]
    rfl
  rw [e]
  refine split_join (y := ":") (s := 58) (S := []) (by decide) (by decide +kernel) (by simp) fun q hq => ?_
  rcases List.mem_cons.mp hq with rfl | hq
  · exact no_col _ (List.mem_append_left _ h1)
  · obtain rfl := List.mem_singleton.mp hq
    exact no_col _ (List.mem_append_right _ h2)
theorem str_len (x y : Str) : (x ++ y).length = x.length + y.length := by
  rw [len_tl, tl_append, List.length_append, ← len_tl, ← len_tl]
theorem word_len {p : Str × Str} (h1 : p.1 ∈ LOOKS) (h2 : p.2 ∈ WAYS) : (word p).length ≤ 11 := by
  show (p.1 ++ ":" ++ p.2).length ≤ 11
  rw [str_len, str_len]
  have a1 := short _ (List.mem_append_right _ (List.mem_append_left _ h1))
  have a2 := short _ (List.mem_append_right _ (List.mem_append_right _ h2))
  have a3 : (":" : Str).length = 1 := by decide
  omega
theorem sum_le : ∀ {l : List Nat} {c : Nat}, (∀ x ∈ l, x ≤ c) → l.sum ≤ l.length * c
  | [], _, _ => Nat.zero_le _
  | x :: l, c, h => by
    have q := sum_le (l := l) (c := c) fun y hy => h y (List.mem_cons_of_mem _ hy)
    have q1 := h x (List.mem_cons_self ..)
    rw [List.sum_cons, List.length_cons, Nat.succ_mul]
    omega
theorem joinL_len (S : List Nat) : ∀ ps : List (List Nat), (joinL S ps).length ≤ (ps.map List.length).sum + ps.length * S.length
  | [] => Nat.zero_le _
  | [p] => by simp [joinL]
  | p :: q :: r => by
    have h := joinL_len S (q :: r)
    show (p ++ (S ++ joinL S (q :: r))).length ≤ _
    rw [List.length_append, List.length_append, List.map_cons, List.sum_cons, List.length_cons (as := q :: r), Nat.succ_mul]
    omega
theorem words_len {ms : List Str} (g : Good ms) : (words ms).length = 9 := by
  unfold words
  rw [List.length_map, List.length_zip, g.1]
  rfl
theorem parts_len {bt : Str} {ms : List Str} (hb : bt ∈ BUILTS) (g : Good ms) : ∀ x ∈ bt :: words ms, x.length ≤ 11 := fun x hx => by
  rcases List.mem_cons.mp hx with rfl | hx
  · have := short _ (List.mem_append_left _ hb)
    omega
  · obtain ⟨q, hq, rfl⟩ := List.mem_map.mp hx
    obtain ⟨h1, h2⟩ := zip_mem g hq
    exact word_len h1 h2
theorem text_len {bt : Str} {ms : List Str} (hb : bt ∈ BUILTS) (g : Good ms) : (text bt ms).length ≤ 200 := by
  unfold text
  rw [join_eq, len_tl, tl_join]
  refine Nat.le_trans (joinL_len _ _) ?_
  have e : ((bt :: words ms).map tl).map List.length = (bt :: words ms).map (·.length) := by
    rw [List.map_map]
    exact List.map_congr_left fun x _ => (len_tl x).symm
  rw [e]
  have q := sum_le (l := (bt :: words ms).map (·.length)) (c := 11) fun x hx => by
    obtain ⟨y, hy, rfl⟩ := List.mem_map.mp hx
    exact parts_len hb g y hy
  have l1 : (bt :: words ms).length = 10 := by rw [List.length_cons, words_len g]
  rw [List.length_map, l1] at q
  rw [List.length_map, l1]
  have l2 : (tl (" " : Str)).length = 1 := by decide
  omega
theorem good_len {ms : List Str} (g : Good ms) : ∃ m0 m1 m2 m3 m4 m5 m6 m7 m8, ms = [m0, m1, m2, m3, m4, m5, m6, m7, m8] := by
  obtain ⟨h, _⟩ := g
  match ms, h with
  | [a, b, c, d, e, f, g, h, i], _ => exact ⟨_, _, _, _, _, _, _, _, _, rfl⟩
theorem ways_zip {ms : List Str} (g : Good ms) : ways (LOOKS.zip ms) = ms := by
  obtain ⟨a, b, c, d, e, f, g', h, i, rfl⟩ := good_len g
  rfl
theorem goodK {ms : List Str} (g : Good ms) : GoodK (LOOKS.zip ms) := by
  refine ⟨fun p hp => (zip_mem g hp).1, fun m hm => ?_, ?_⟩
  · rw [ways_zip g] at hm
    exact g.2 m hm
  · rw [List.length_zip, g.1]
    decide
section
variable {P : Program} {w : World} {K : PySem.W.Frag} {mg : Str → Option Value} {base : Heap} {a : Ad}
def spRead (c : Addr) : Sp := fun vs H Q _ => ∃ (bt : Str) (ms : List Str), vs = [.ref c, .str (text bt ms)] ∧ bt ∈ BUILTS ∧ Good ms ∧ ∀ (b : Addr) (H' : Hp), Book c H' b bt ms → Same H H' → Q (.ref b) H'
theorem ok_read (T : Tx K mg a) (PF : PFile P "/claim/cut.py") : FnOk P w K mg base (L2.CX P w) 5 a.a_Book_read a.d_Book_read ["cls", "text"] (spRead a.c_Book) := by
  have GBook := ok_init (P := P) (w := w) (base := base) T PF
  refine T.F_Book_read.okX sc_Book_read (fun vs H Q E h => ?_) (fun cdv A outer s H vs Q E hr h => ?_)
  · obtain ⟨_, _, rfl, _⟩ := h
    rfl
  · obtain ⟨bt, ms, rfl, hb, g, k⟩ := h
    have gl := good_len g
    refine ⟨_, (pss_cons (ps_if (pt_not (pt_val (pe_callB call_isi (by rfl) T.z_isinstance (by decide +kernel) (pa_cons (pv 1) (pa_cons (pe_bltn (v := .ty "str") (u := .type "str") (by rfl) T.z_str (by decide +kernel) rfl) pa_nil)))))
  (pss_one (ps_raiseX (k := 0) rfl bs_Value T.sx_BadBook PF (hr.mono (by decide)) (takes_of rfl rfl rfl rfl) T.mg_BadBook (pv 1) (by rfl)))
  pss_nil)
  (pss_cons (ps_set (i := 2) sc_Book_read.nd rfl (Or.inl rfl) (pe_split (pv 1) pe_str))
  (pss_cons (ps_setLc (i := 3) (own := [("word", 4)]) (g := gName 4) rfl sc_Book_read.nd rfl rfl (sw_true rfl rfl rfl (by decide +kernel)) (pi_list (pe_slice sl_list (pv 2) (po_some pe_int) po_none)) (blkOk_by (own := [("word", 4)]) (N := ["cls", "text", "words", "pairs", "word", "look", "pair", "ways", "built"]) (sc := defScope s_Book_read) (by decide +kernel)) (fun _ _ _ _ _ => (pg_name (i := 4) sc_Book_read.nd rfl (Or.inl rfl))) (fun _ _ _ _ _ => pts_nil) (fun _ _ _ _ _ => (pe_split (pv 4) pe_str)))
  (pss_cons (ps_if (PW.pt (pw_or (pt_cmpR op_notIn_seq (pe_ix ix_list (pv 2) pe_int (fun _ _ => rfl)) (pe_glob (v := .ref a.x_k_BUILT) (by rfl) T.g_BUILT rfl) (by rfl)) (pw_or1 (pt_cmpR op_ne (pe_callB call_len_seq (by rfl) T.z_len (by decide +kernel) (pa_cons (pv 3) pa_nil)) (pe_callB call_len_seq (by rfl) T.z_len (by decide +kernel) (pa_cons (ClX.pe_cval (pv 0)) pa_nil)) (nomark _)))))
  (pss_one (ps_raiseX (k := 0) rfl bs_Value T.sx_BadBook PF (hr.mono (by decide)) (takes_of rfl rfl rfl rfl) T.mg_BadBook (pv 1) (by rfl)))
  pss_nil)
  (pss_cons (ps_for (passes_of rfl) rfl (pi_zipN (by rfl) T.z_zip (pa_cons (ClX.pe_cval (pv 0)) (pa_cons (pv 3) pa_nil))) (pg_tup (by rfl) (pgs_cons (pg_name (i := 5) sc_Book_read.nd rfl (Or.inl rfl)) (pgs_cons (pg_name (i := 6) sc_Book_read.nd rfl (Or.inl rfl)) pgs_nil)))
  (pss_one (ps_if (PW.pt (pw_or (pt_cmpR op_ne (pe_callB call_len_seq (by rfl) T.z_len (by decide +kernel) (pa_cons (pv 6) pa_nil)) pe_int (nomark _)) (pw_or (pt_cmpR op_ne (pe_ix ix_list (pv 6) pe_int (fun _ _ => rfl)) (pv 5) (nomark _)) (pw_or1 (pt_cmpR op_notIn_seq (pe_ix ix_list (pv 6) pe_int (fun _ _ => rfl)) (ClX.pe_cval (pv 0)) (by rfl))))))
  (pss_one (ps_raiseX (k := 0) rfl bs_Value T.sx_BadBook PF (hr.mono (by decide)) (takes_of rfl rfl rfl rfl) T.mg_BadBook (pv 1) (by rfl)))
  pss_nil)))
  (pss_cons (ps_setDc (i := 7) (own := [("pair", 6)]) (g := gName 6) rfl sc_Book_read.nd rfl rfl (swd_true rfl rfl rfl (by decide +kernel)) (pi_list (pv 3)) (blkOk_by (own := [("pair", 6)]) (N := ["cls", "text", "words", "pairs", "word", "look", "pair", "ways", "built"]) (sc := defScope s_Book_read) (by decide +kernel)) (fun _ _ _ _ _ => (pg_name (i := 6) sc_Book_read.nd rfl (Or.inl rfl))) (fun _ _ _ _ _ => pts_nil) (fun _ _ _ _ _ => (pe_ix (ix_listK (K := K) rfl) (pv 6) pe_int (fun _ _ => rfl))) (fun _ _ _ _ _ => (pe_ix (ix_listK (K := K) rfl) (pv 6) pe_int (fun _ _ => rfl))))
  (pss_cons (ps_set (i := 8) sc_Book_read.nd rfl (Or.inl rfl) (pe_ix ix_list (pv 2) pe_int (fun _ _ => rfl)))
  (pss_one (ps_ret (pe_makeM (i := 7) (cal_slot (i := 0) rfl (Or.inl rfl)) T.mk_Book GBook (hr.mono (by decide)) passL (pa_cons (pv 8) pa_nil) rfl (Or.inl rfl))))))))))), ?_⟩
    refine ⟨_, rfl, .str (text bt ms), .ty "str", .type "str", .type "str", true, rfl, .ty _, .base (.str _), kit_ty (by decide +kernel), true, rfl, if_false_of rfl ?_⟩
    refine ⟨_, rfl, ⟨_, rfl⟩, text bt ms, " ", rfl, rfl, by decide, ?_, fun W nW => ?_⟩
    · have := text_len hb g
      rw [sizeLine_eq]
      omega
    rw [split_text hb g]
    have hW : upd H W (.lst ((bt :: words ms).map V.str)) W = some (.lst ((bt :: words ms).map V.str)) := upd_same
    refine ⟨_, rfl, _, rfl, W, _, rfl, SqL.of hW, fun S nS => ?_⟩
    have hc : cutV ((bt :: words ms).map V.str) (some 1) none = (words ms).map V.str := cut_back (k := 1)
    rw [hc]
    let H2 : Hp := upd (upd H W (.lst ((bt :: words ms).map V.str))) S (.lst ((words ms).map V.str))
    have hS : H2 S = some (.lst ((words ms).map V.str)) := upd_same
    have hW2 : H2 W = some (.lst ((bt :: words ms).map V.str)) := keep_set (none_ne hW nS).symm hW
    have s2 : Same H H2 := (Lx.Same.new nW).trans (Lx.Same.new nS)
    refine ⟨S, rfl, ⟨_, SqL.of hS⟩, fun D nD => lc_it (walk_list (K := K) (a := S) (xs := (words ms).map V.str)) (fun i H' => Same H2 H' ∧ ∃ rs : List Addr, H' D = some (.lst (rs.map V.ref)) ∧ rs.length = i ∧ ∀ (j : Nat) (r : Addr) (p : Str × Str), rs[j]? = some r → (LOOKS.zip ms)[j]? = some p → H' r = some (.lst [.str p.1, .str p.2]) ∧ r ≠ D) ⟨Lx.Same.new nD, [], upd_same, rfl, fun j r p h => by simp at h⟩ (fun i H' _ h' => SqL.of (h'.1 _ _ hS)) ?_ ?_⟩
    · rintro i y H1 H2' hi ⟨s1, rs, hD, hl, hr⟩ ⟨rfl, hy⟩
      obtain ⟨wd, hwd, rfl⟩ := get_str hy
      obtain ⟨p, hp, rfl⟩ : ∃ p, (LOOKS.zip ms)[i]? = some p ∧ word p = wd := by
        unfold words at hwd
        rw [List.getElem?_map] at hwd
        cases e : (LOOKS.zip ms)[i]? with
        | none =>
          rw [e] at hwd
          cases hwd
        | some p =>
          rw [e] at hwd
          exact ⟨p, rfl, Option.some.inj hwd⟩
      obtain ⟨m1, m2⟩ := zip_mem g (List.mem_of_getElem? hp)
      refine ⟨rfl, _, rfl, ⟨_, rfl⟩, word p, ":", rfl, rfl, by decide, ?_, fun r nr => ?_⟩
      · have := word_len m1 m2
        rw [sizeLine_eq]
        omega
      rw [split_word m1 m2]
      have nrD : r ≠ D := none_ne hD nr
      refine ⟨rs.map V.ref, keep_set nrD.symm hD, ?_, Lx.Same.mut (s1.trans (Lx.Same.new nr)) nD, rs ++ [r], ?_, ?_, fun j r' p' hj hp' => ?_⟩
      · rw [List.length_map, hl, sizeLine_eq]
        have := words_len g
        rw [List.length_map] at hi
        omega
      · rw [upd_same, List.map_append]
        rfl
      · rw [List.length_append, hl]
        rfl
      · rcases Nat.lt_or_ge j rs.length with c | c
        · rw [List.getElem?_append_left c] at hj
          obtain ⟨q1, q2⟩ := hr j r' p' hj hp'
          exact ⟨keep_set q2 (keep_set (none_ne q1 nr).symm q1), q2⟩
        · rw [List.getElem?_append_right c] at hj
          have e0 : j = rs.length := by
            have := (List.getElem?_eq_some_iff.mp hj).1
            rw [List.length_singleton] at this
            omega
          rw [e0, Nat.sub_self] at hj
          cases hj
          rw [e0, hl] at hp'
          rw [hp] at hp'
          cases hp'
          exact ⟨keep_set nrD upd_same, nrD⟩
    · rintro H1 ⟨s1, rs, hD, hl, hr⟩
      have b1 : ∀ {x : Str} {ss : List Str}, x ∈ ss → (if true = true then !inV (.str x) (ss.map V.str) else inV (.str x) (ss.map V.str)) = false := fun {x ss} h => by
        rw [if_pos rfl, inV_str, decide_eq_true h]
        rfl
      rw [List.length_map, words_len g] at hl
      have i0 : atI ((bt :: words ms).map V.str) 0 = some (.str bt) := atI_nat (j := 0) rfl
      refine ⟨_, rfl, W, _, _, _, rfl, rfl, SqL.of (s1 _ _ hW2), i0, _, BUILTS.map V.str, rfl, .inr (T.t_BUILT _), rfl, flat_strs _, _, rfl, if_false_of (b1 hb) ?_⟩
      refine ⟨_, rfl, D, _, rfl, .inl (SqL.of hD), _, rfl, a.c_Book, .type "type", _, _, rfl, T.cr, T.cv_LOOKS, _, LOOKS.map V.str, rfl, .inr (T.t_LOOKS _), ?_⟩
      have e9 : (rs.map V.ref).length = (LOOKS.map V.str).length := by
        rw [List.length_map, hl]
        rfl
      rw [e9]
      refine ⟨rfl, _, rfl, if_false_of (by simp) ?_⟩
      have l9 : (9 : Nat) = min (LOOKS.map V.str).length (rs.map V.ref).length := by
        rw [e9, Nat.min_self]
        rfl
      refine ⟨_, rfl, a.c_Book, .type "type", _, _, rfl, T.cr, T.cv_LOOKS, _, rfl, [(a.x_k_LOOKS, true), (D, false)], rfl, .inl rfl, ?_, for_it (walk_zip2 (K := K) (p := (a.x_k_LOOKS, true)) (q := (D, false)) l9) (fun i σ H' => Same H1 H' ∧ ∃ v4 v5 v6, σ = [some (.ref a.c_Book), some (.str (text bt ms)), some (.ref W), some (.ref D), v4, v5, v6, none, none]) ⟨fun _ _ e => e, _, _, _, rfl⟩ (fun _ _ H' _ h => ⟨T.t_LOOKS H', SqL.of (h.1 _ _ hD)⟩) ?_ ?_⟩
      · intro p hp
        rcases List.mem_cons.mp hp with rfl | hp
        · exact ⟨_, T.t_LOOKS _⟩
        · obtain rfl := List.mem_singleton.mp hp
          exact ⟨_, SqL.of hD⟩
      · rintro i y σ H2' H3 hi ⟨s3, v4, v5, v6, rfl⟩ ⟨t, u1, u2, rfl, nt, rfl, f1, f2⟩
        obtain ⟨l, hl1, rfl⟩ := get_str f1
        obtain ⟨r, hr1, rfl⟩ := get_ref f2
        obtain ⟨m, hm1⟩ := looks_at g.1 hl1
        have hz : (LOOKS.zip ms)[i]? = some (l, m) := List.getElem?_zip_eq_some.mpr ⟨hl1, hm1⟩
        obtain ⟨q1, _⟩ := hr i r (l, m) hr1 hz
        have q2 : upd H2' t (.tup [.str l, .ref r]) r = some (.lst [.str l, .str m]) := keep_set (none_ne (s3 _ _ q1) nt).symm (s3 _ _ q1)
        obtain ⟨m1, m2⟩ := zip_mem g (List.mem_of_getElem? hz)
        have a0 : atI [V.str l, V.str m] 0 = some (.str l) := atI_nat (j := 0) rfl
        have a1 : atI [V.str l, V.str m] 1 = some (.str m) := atI_nat (j := 1) rfl
        refine ⟨t, _, rfl, SqT.of upd_same, rfl, _, _, rfl, _, _, rfl, rfl, _, rfl, r, _, rfl, .inl (SqL.of q2), rfl, _, rfl, if_false_of (by simp) ?_⟩
        refine ⟨_, rfl, r, _, _, _, rfl, rfl, SqL.of q2, a0, _, rfl, rfl, _, rfl, if_false_of (by simp) ?_⟩
        refine ⟨_, rfl, r, _, _, _, rfl, rfl, SqL.of q2, a1, _, rfl, a.c_Book, .type "type", _, _, rfl, T.cr, T.cv_WAYS, _, WAYS.map V.str, rfl, .inr (T.t_WAYS _), rfl, flat_strs _, _, rfl, if_false_of (b1 m2) ?_⟩
        exact ⟨s3.trans (Lx.Same.new nt), _, _, _, rfl⟩
      · rintro σ H2' ⟨s3, v4, v5, v6, rfl⟩
        refine ⟨_, rfl, D, rfl, ⟨_, SqL.of (s3 _ _ hD)⟩, fun U nU => dc_it (walk_list (K := K) (a := D) (xs := rs.map V.ref)) (fun i H' => Same H2' H' ∧ H' U = some (.dK (kwK (strD ((LOOKS.zip ms).take i))))) ⟨Lx.Same.new nU, upd_same⟩ (fun i H' _ h => SqL.of (h.1 _ _ (s3 _ _ hD))) ?_ ?_⟩
        · rintro i y H4 H5 hi ⟨s5, hU⟩ ⟨rfl, hy⟩
          obtain ⟨r, hr1, rfl⟩ := get_ref hy
          have hi9 : i < 9 := by
            rw [List.length_map, hl] at hi
            exact hi
          obtain ⟨l, hl1⟩ : ∃ l, LOOKS[i]? = some l := ⟨_, List.getElem?_eq_getElem (show i < LOOKS.length from hi9)⟩
          obtain ⟨m, hm1⟩ := looks_at g.1 hl1
          have hz : (LOOKS.zip ms)[i]? = some (l, m) := List.getElem?_zip_eq_some.mpr ⟨hl1, hm1⟩
          obtain ⟨q1, _⟩ := hr i r (l, m) hr1 hz
          have q2 := s5 _ _ (s3 _ _ q1)
          have a0 : atI [V.str l, V.str m] 0 = some (.str l) := atI_nat (j := 0) rfl
          have a1 : atI [V.str l, V.str m] 1 = some (.str m) := atI_nat (j := 1) rfl
          refine ⟨rfl, _, rfl, r, _, _, _, rfl, rfl, SqL.of q2, a0, _, rfl, r, _, _, _, rfl, rfl, SqL.of q2, a1, _, Sum.inr l, rfl, hU, ?_, Lx.Same.mut s5 nU, ?_⟩
          · rw [List.length_map, List.length_map, List.length_take]
            exact Nat.lt_of_le_of_lt (Nat.min_le_left ..) (by rw [sizeLine_eq]; omega)
          · rw [upd_same, putK_zip (by decide) hl1 hm1]
        · rintro H4 ⟨s5, hU⟩
          have hlz : (LOOKS.zip ms).length = 9 := by
            rw [List.length_zip, g.1]
            rfl
          rw [List.length_map, hl, List.take_of_length_le (by rw [hlz]; exact Nat.le_refl _)] at hU
          refine ⟨_, rfl, W, _, _, _, rfl, rfl, SqL.of (s5 _ _ (s3 _ _ (s1 _ _ hW2))), i0, ?_⟩
          have gk := goodK g
          refine ⟨rfl, _, rfl, U, strD (LOOKS.zip ms), rfl, .inl hU, fun x dx nx nd ne => ⟨[.ref x, .str bt], strD (LOOKS.zip ms), ⟨gk.rest.1, .inr (.inl ⟨_, _, rfl, rfl, rfl⟩)⟩, gk.rest.2, fun d hd => new_core gk hb nx nd ne (fun b H' hB hS' => ?_) d hd⟩⟩
          rw [ways_zip g] at hB
          exact k b H' hB ((((s2.trans s1).trans s3).trans s5).trans hS')
end
end K13
set_option Elab.async false
set_option linter.all false
set_option maxRecDepth 100000
set_option maxHeartbeats 4000000
namespace K13
open PySem L2 Lx TL ItX StX
/-! ### the three named books -/
def spMk (c : Addr) (bt : Str) (ms : List Str) : Sp := fun vs H Q _ => vs = [.ref c] ∧ ∀ (b : Addr) (H' : Hp), Book c H' b bt ms → Same H H' → Q (.ref b) H'
def anews : List Str := LOOKS.map fun _ => "anew"
theorem goodK_nil : GoodK [] := ⟨fun p h => (by cases h), by decide, by decide⟩
theorem goodK_anew : GoodK (LOOKS.zip anews) := ⟨by decide, by decide, by decide⟩
section
variable {P : Program} {w : World} {K : PySem.W.Frag} {mg : Str → Option Value} {base : Heap} {a : Ad}
theorem ok_usual (T : Tx K mg a) (PF : PFile P "/claim/cut.py") : FnOk P w K mg base (L2.CX P w) 5 a.a_Book_usual a.d_Book_usual ["cls"] (spMk a.c_Book "late" USUALS) := by
  have GBook := ok_init (P := P) (w := w) (base := base) T PF
  refine T.F_Book_usual.okX sc_Book_usual (fun vs H Q E h => ?_) (fun cdv A outer s H vs Q E hr h => ?_)
  · obtain ⟨rfl, _⟩ := h
    rfl
  · obtain ⟨rfl, k⟩ := h
    refine ⟨_, (pss_one (ps_ret (pe_makeW0 (ks := []) (cal_slot (i := 0) rfl (Or.inl rfl)) T.mk_Book GBook (hr.mono (by decide)) passL pk_nil))), ?_⟩
    exact ⟨rfl, fun x dx nx nd ne => ⟨[.ref x, .str "late"], [], ⟨goodK_nil.rest.1, .inl ⟨_, rfl, rfl, rfl⟩⟩, goodK_nil.rest.2, fun d hd => new_core goodK_nil (by decide) nx nd ne k d hd⟩⟩
/-! ### book[look] -/
def dstrs (ss : List Str) : List PyData := ss.map PyData.str
theorem dp_strs {H : Hp} : ∀ ss : List Str, DpAll K H (ss.map V.str) (dstrs ss)
  | [] => .nil
  | s :: ss => .cons (.str s) (dp_strs ss)
def spGet (K : PySem.W.Frag) (c n : Addr) : Sp := fun vs H Q E => ∃ (b : Addr) (look : V) (bt : Str) (ms : List Str) (d : PyData), vs = [.ref b, look] ∧ Book c H b bt ms ∧ ms.length = 9 ∧ Dp K H look d ∧ SeqAt.shaped d = true ∧
  ((∃ (i : Nat) (l m : Str), look = .str l ∧ d = .str l ∧ LOOKS[i]? = some l ∧ ms[i]? = some m ∧ Q (.str m) H) ∨
   ((dstrs LOOKS).any (fun z => PyData.eqv z d) = false ∧ ∀ x, H x = none → E (.ref n) (some x) (upd H x (.xd [("look", look)]))))
theorem any_look {i : Nat} {l : Str} (h : LOOKS[i]? = some l) : (dstrs LOOKS).any (fun z => PyData.eqv z (.str l)) = true := by
  refine List.any_eq_true.mpr ⟨.str l, List.mem_map.mpr ⟨l, List.mem_of_getElem? h, rfl⟩, ?_⟩
  show (l == l) = true
  exact beq_self_eq_true l
theorem ok_getitem (T : Tx K mg a) (PF : PFile P "/claim/cut.py") : FnOk P w K mg base (L2.CX P w) 3 a.a_BookU_getitemU a.d_BookU_getitemU ["self", "look"] (spGet K a.c_Book a.c_NoLook) := by
  refine T.F_BookU_getitemU.okX sc_BookU_getitemU (fun vs H Q E h => ?_) (fun cdv A outer s H vs Q E hr h => ?_)
  · obtain ⟨b, look, bt, ms, d, rfl, _⟩ := h
    rfl
  · obtain ⟨b, look, bt, ms, d, rfl, ⟨dx, TT, L, hb, hT, hL⟩, hms, hd, sd, h⟩ := h
    refine ⟨_, (pss_cons (ps_if (pt_cmpR (op_notInL (units65 hr)) (pv 1) (pe_fld (pv 0) rfl) (by rfl))
  (pss_one (ps_raiseX (k := 0) rfl bs_Lookup T.sx_NoLook PF (hr.mono (by decide)) (takes_of rfl rfl rfl rfl) T.mg_NoLook (pv 1) (by rfl)))
  pss_nil)
  (pss_one (ps_ret (pe_dget (hu_of hr) (pe_fld (pv 0) rfl) (pv 1) (fun _ _ => rfl))))), ?_⟩
    refine ⟨_, rfl, _, rfl, b, a.c_Book, dx, _, _, rfl, hb, T.cl_Book, T.na_Book_order, rfl, d, dstrs LOOKS, hd, .lst (SqL.of hL) (dp_strs _), sd, by decide +kernel, _, rfl, ?_⟩
    rcases h with ⟨i, l, m, rfl, rfl, hl, hm, q⟩ | ⟨hn, q⟩
    · refine if_false_of (by rw [if_pos rfl, any_look hl]; rfl) ?_
      have hget : DGet H TT (.str l) (some (.str m)) := by
        have q := DGet.k (k := Sum.inr l) hT
        rw [keyed_at hl hm] at q
        exact q
      exact ⟨_, rfl, b, a.c_Book, dx, _, _, rfl, hb, T.cl_Book, T.na_Book_table, rfl, _, rfl, TT, .str m, rfl, hget, q⟩
    · refine if_true_of (by rw [if_pos rfl, hn]; rfl) ?_
      exact ⟨_, rfl, q⟩
theorem ok_iter (T : Tx K mg a) : FnIt P w K mg base 3 a.a_BookU_iterU (fun b H L => ∃ dx bt TT, H b = some (.ins a.c_Book dx [("built", bt), ("table", .ref TT), ("order", .ref L)]) ∧ H L = some (.lst (LOOKS.map V.str))) := by
  refine okIt T.F_BookU_iterU sc_BookU_iterU (fun _ _ _ _ _ _ _ => rfl) (fun cdv A outer s H b L Q hr h k => ?_)
  obtain ⟨dx, bt, TT, hb, hL⟩ := h
  refine ⟨_, (pss_one (ps_ret (pe_callB call_iterN (by rfl) T.z_iter (by decide +kernel) (pa_cons (pe_fld (pv 0) rfl) pa_nil)))), ?_⟩
  exact ⟨_, rfl, b, a.c_Book, dx, _, _, rfl, hb, T.cl_Book, T.na_Book_order, rfl, L, _, rfl, SqL.of hL, k⟩
/-! ### str(book) -/
def spStr (c : Addr) : Sp := fun vs H Q _ => ∃ (b : Addr) (bt : Str) (ms : List Str), vs = [.ref b] ∧ Book c H b bt ms ∧ bt ∈ BUILTS ∧ Good ms ∧ ∀ H', Same H H' → Q (.str (text bt ms)) H'
theorem ok_str (T : Tx K mg a) (PF : PFile P "/claim/cut.py") : FnOk P w K mg base CX0 3 a.a_BookU_strU a.d_BookU_strU ["self"] (spStr a.c_Book) := by
  refine T.F_BookU_strU.ok sc_BookU_strU (fun vs H Q E h => ?_) (fun cdv A outer s H vs Q E hr h => ?_)
  · obtain ⟨b, bt, ms, rfl, _⟩ := h
    rfl
  · obtain ⟨b, bt, ms, rfl, ⟨dx, TT, L, hb, hT, hL⟩, hbt, g, k⟩ := h
    refine ⟨_, (pss_one (ps_ret (pe_join pe_str (pe_lst (pa_cons (pe_fld (pv 0) rfl) (pa_star (pe_lc (own := [("look", 1)]) (g := gName 1) rfl sc_BookU_strU.nd (pi_list (pe_fld (pv 0) rfl)) (blkOk_by (own := [("look", 1)]) (N := ["self", "look"]) (sc := defScope s_BookU_strU) (by decide +kernel)) (fun _ _ _ _ _ => (pg_name (i := 1) sc_BookU_strU.nd rfl (Or.inl rfl))) (fun _ _ _ _ _ => pts_nil) (fun _ _ _ _ _ => (pe_op op_add_str (pe_op op_add_str (pv 1) pe_str) (pe_dget (hu_of hr) (pe_fldK (K := K) rfl (pv 0) rfl) (pv 1) (fun _ _ => rfl))))) pa_nil)))))), ?_⟩
    refine ⟨⟨_, rfl⟩, _, rfl, b, a.c_Book, dx, _, _, rfl, hb, T.cl_Book, T.na_Book_built, rfl, _, rfl, b, a.c_Book, dx, _, _, rfl, hb, T.cl_Book, T.na_Book_order, rfl, L, rfl, ⟨_, SqL.of hL⟩, fun D nD => lc_it (walk_list (K := K) (a := L) (xs := LOOKS.map V.str)) (fun i H' => Same H H' ∧ H' D = some (.lst (((words ms).take i).map V.str))) ⟨Lx.Same.new nD, upd_same⟩ (fun i H' _ h => SqL.of (h.1 _ _ hL)) ?_ ?_⟩
    · rintro i y H1 H2 hi ⟨s1, hD⟩ ⟨rfl, hy⟩
      obtain ⟨l, hl, rfl⟩ := get_str hy
      obtain ⟨m, hm⟩ := looks_at g.1 hl
      have hz : (LOOKS.zip ms)[i]? = some (l, m) := List.getElem?_zip_eq_some.mpr ⟨hl, hm⟩
      obtain ⟨m1, m2⟩ := zip_mem g (List.mem_of_getElem? hz)
      have hget : DGet H2 TT (.str l) (some (.str m)) := by
        have q := DGet.k (k := Sum.inr l) (s1 _ _ hT)
        rw [keyed_at hl hm] at q
        exact q
      have w1 : l.length ≤ 5 := short _ (List.mem_append_right _ (List.mem_append_left _ m1))
      have w2 : m.length ≤ 5 := short _ (List.mem_append_right _ (List.mem_append_right _ m2))
      have w3 : (":" : Str).length = 1 := by decide
      refine ⟨rfl, _, rfl, _, _, rfl, rfl, ?_, _, rfl, b, a.c_Book, dx, _, _, rfl, s1 _ _ hb, T.cl_Book, T.na_Book_table, rfl, _, rfl, TT, .str m, rfl, hget, _, _, rfl, rfl, ?_, ((words ms).take i).map V.str, hD, ?_, Lx.Same.mut s1 nD, ?_⟩
      · rw [sizeLine_eq]
        omega
      · rw [sizeLine_eq, str_len]
        omega
      · rw [List.length_map, List.length_take, sizeLine_eq]
        have := words_len g
        omega
      · have e : (words ms)[i]? = some (word (l, m)) := by
          unfold words
          rw [List.getElem?_map, hz]
          rfl
        rw [upd_same, List.take_add_one, e, List.map_append]
        rfl
    · rintro H1 ⟨s1, hD⟩
      have wl := words_len g
      rw [List.take_of_length_le (by rw [wl]; decide)] at hD
      refine ⟨D, _, rfl, .inr (SqL.of hD), (by rw [List.append_nil, List.length_cons, List.length_map, wl, sizeLine_eq]; decide), fun S nS => ⟨" ", S, bt :: words ms, rfl, rfl, .inl (SqL.of ?_), ?_, k _ (s1.trans (Lx.Same.new nS))⟩⟩
      · rw [upd_same, List.append_nil]
        rfl
      · have q := sum_le (l := (bt :: words ms).map (·.length)) (c := 11) fun x hx => by
          obtain ⟨y, hy, rfl⟩ := List.mem_map.mp hx
          exact parts_len hbt g y hy
        rw [List.length_map] at q
        have e1 : (bt :: words ms).length = 10 := by rw [List.length_cons, wl]
        have e2 : (" " : Str).length = 1 := by decide
        rw [e1] at q ⊢
        omega
/-! ### book == x -/
theorem keyed_len {ms ms2 : List Str} (h : ms.length = 9) (h2 : ms2.length = 9) : (keyed ms).length = (keyed ms2).length := by
  unfold keyed
  rw [List.length_map, List.length_map, List.length_map, List.length_map, List.length_zip, List.length_zip, h, h2]
theorem keyed_get {ms : List Str} {i : Nat} {l m : Str} (h1 : LOOKS[i]? = some l) (h2 : ms[i]? = some m) : (Sum.inr l, V.str m) ∈ keyed ms := by
  have hz : (LOOKS.zip ms)[i]? = some (l, m) := List.getElem?_zip_eq_some.mpr ⟨h1, h2⟩
  exact List.mem_map.mpr ⟨(l, .str m), List.mem_map.mpr ⟨(l, m), List.mem_of_getElem? hz, rfl⟩, rfl⟩
theorem keyed_mem {ms ms2 : List Str} (hms : ms.length = 9) (hms2 : ms2.length = 9) {p : Key × V} (hp : p ∈ keyed ms) : ∃ (i : Nat) (l m m' : Str), p = (Sum.inr l, .str m) ∧ LOOKS[i]? = some l ∧ ms[i]? = some m ∧ ms2[i]? = some m' := by
  obtain ⟨q, hq, rfl⟩ := List.mem_map.mp hp
  obtain ⟨z, hz, rfl⟩ := List.mem_map.mp hq
  obtain ⟨i, hi⟩ := List.getElem?_of_mem hz
  obtain ⟨h1, h2⟩ := List.getElem?_zip_eq_some.mp hi
  obtain ⟨m', h3⟩ := looks_at hms2 h1
  exact ⟨i, z.1, z.2, m', rfl, h1, h2, h3⟩

def spEq (K : PySem.W.Frag) (c : Addr) : Sp := fun vs H Q _ => ∃ (b : Addr) (y : V) (bt : Str) (ms : List Str), vs = [.ref b, y] ∧ Book c H b bt ms ∧ ms.length = 9 ∧
  ((∃ (b2 : Addr) (bt2 : Str) (ms2 : List Str), y = .ref b2 ∧ Book c H b2 bt2 ms2 ∧ ms2.length = 9 ∧ Q (.bl (decide (bt = bt2 ∧ ms = ms2))) H) ∨
   (∃ t, TyX K H y t ∧ PySem.W.kitOne K t (.ref c) = some false ∧ Q (.bl false) H))
theorem ok_eq (T : Tx K mg a) (PF : PFile P "/claim/cut.py") : FnOk P w K mg base CX0 3 a.a_BookU_eqU a.d_BookU_eqU ["self", "other"] (spEq K a.c_Book) := by
  refine T.F_BookU_eqU.ok sc_BookU_eqU (fun vs H Q E h => ?_) (fun cdv A outer s H vs Q E hr h => ?_)
  · obtain ⟨b, y, bt, ms, rfl, _⟩ := h
    rfl
  · obtain ⟨b, y, bt, ms, rfl, ⟨dx, TT, L, hb, hT, hL⟩, hms, h⟩ := h
    refine ⟨_, (pss_one (ps_ret (pe_and (pe_callB call_isi (by rfl) T.z_isinstance (by decide +kernel) (pa_cons (pv 1) (pa_cons (pe_glob (v := .ref a.c_Book) (by rfl) T.mg_Book rfl) pa_nil))) (pe_and (pe_cmpR op_eq (pe_fld (pv 0) rfl) (pe_fld (pv 1) rfl) (nomark _)) (pe_one (pe_cmpR (op_eqDS hr.units0) (pe_fld (pv 0) rfl) (pe_fld (pv 1) rfl) (nomark _))))))), ?_⟩
    rcases h with ⟨b2, bt2, ms2, rfl, ⟨dx2, TT2, L2, hb2, hT2, hL2⟩, hms2, q⟩ | ⟨t, ht, hk, q⟩
    · refine ⟨_, rfl, _, .ref a.c_Book, .ref a.c_Book, .ref a.c_Book, true, rfl, .own _, .base (.ins hb2 T.cl_Book T.ci_at T.ci_get T.ci_tk T.nec.mro), T.ki_B, true, rfl, ?_⟩
      refine ⟨_, rfl, b, a.c_Book, dx, _, _, rfl, hb, T.cl_Book, T.na_Book_built, rfl, _, rfl, b2, a.c_Book, dx2, _, _, rfl, hb2, T.cl_Book, T.na_Book_built, rfl, rfl, _, rfl, ?_⟩
      have cvn : ∀ p ∈ keyed ms, ∃ s t : Str, p.2 = .str s ∧ valV (keyed ms2) p.1 = some (.str t) := fun p hp => by
        obtain ⟨i, l, m, m', rfl, h1, h2, h3⟩ := keyed_mem hms hms2 hp
        exact ⟨m, m', rfl, keyed_at h1 h3⟩
      by_cases e : bt = bt2
      · subst e
        refine if_true_of (decide_eq_true rfl) ⟨_, rfl, b, a.c_Book, dx, _, _, rfl, hb, T.cl_Book, T.na_Book_table, rfl, _, rfl, b2, a.c_Book, dx2, _, _, rfl, hb2, T.cl_Book, T.na_Book_table, rfl, TT, TT2, _, _, rfl, rfl, hT, hT2, keyed_len hms hms2, cvn, fun r hr => ?_⟩
        have er : r = decide (bt = bt ∧ ms = ms2) := by
          rw [Bool.eq_iff_iff, hr, decide_eq_true_eq]
          constructor
          · intro h
            refine ⟨rfl, List.ext_getElem? fun i => ?_⟩
            rcases Nat.lt_or_ge i 9 with c | c
            · have h1 : LOOKS[i]? = some (LOOKS[i]'c) := List.getElem?_eq_getElem c
              obtain ⟨m, h2⟩ := looks_at hms h1
              obtain ⟨m', h3⟩ := looks_at hms2 h1
              have e := h _ (keyed_get h1 h2)
              rw [keyed_at h1 h3] at e
              cases e
              rw [h2, h3]
            · rw [List.getElem?_eq_none (by omega), List.getElem?_eq_none (by omega)]
          · rintro ⟨_, rfl⟩ p hp
            obtain ⟨i, l, m, m', rfl, h1, h2, h3⟩ := keyed_mem hms hms hp
            rw [h2] at h3
            cases h3
            exact keyed_at h1 h2
        rw [er]
        exact q
      · refine if_false_of (decide_eq_false fun z => e (V.str.inj z)) ?_
        have er : decide (bt = bt2 ∧ ms = ms2) = false := decide_eq_false fun z => e z.1
        rw [er] at q
        exact q
    · exact ⟨_, rfl, _, .ref a.c_Book, t, .ref a.c_Book, false, rfl, .own _, ht, hk, false, rfl, q⟩
end
end K13
set_option Elab.async false
set_option linter.all false
set_option maxRecDepth 100000
set_option maxHeartbeats 4000000
namespace K13
open PySem L2 Lx TL
/-! ### the law's own defs -/
/-- the source of drawn numbers: k more draws are near enough -/
def Bag (k : Nat) (b : Addr) (H : Hp) : Prop := ∃ g x y : Int, H b = some (.lst [.int g, .int x, .int y]) ∧ 0 ≤ y ∧ y + k ≤ 2 ^ 40
theorem Bag.mv {k : Nat} {b : Addr} {S : List Addr} {H H' : Hp} (h : Bag k b H) (n : b ∉ S) (e : Chg S H H') : Bag k b H' := by
  obtain ⟨g, x, y, h, r⟩ := h
  exact ⟨g, x, y, e _ _ n h, r⟩
theorem Bag.same {k : Nat} {b : Addr} {H H' : Hp} (h : Bag k b H) (e : Same H H') : Bag k b H' := by
  obtain ⟨g, x, y, h, r⟩ := h
  exact ⟨g, x, y, e _ _ h, r⟩
theorem Bag.ne {k : Nat} {b p : Addr} {H : Hp} (h : Bag k b H) (n : H p = none) : p ≠ b := by
  obtain ⟨g, x, y, h, r⟩ := h
  exact none_ne h n
def spBegin (K : PySem.W.Frag) : Sp := fun vs H Q _ => ∃ (s : Addr) (i : Int) (ns : List Int), vs = [.ref s, .int i] ∧ 0 ≤ i ∧ i ≤ 4 ∧ SqL K H s (ns.map V.int) ∧ ∀ (b : Addr) (H' : Hp), H b = none → Same H H' → Bag 1000 b H' → Q (.ref b) H'
def spDraw : Sp := fun vs H Q _ => ∃ (k : Nat) (b : Addr) (m : Int), vs = [.ref b, .int m] ∧ Bag (k + 1) b H ∧ 0 < m ∧ m < 1000 ∧ ∀ (r : Int) (H' : Hp), 0 ≤ r → r < m → Bag k b H' → Chg [b] H H' → Q (.int r) H'
def spOf : Sp := fun vs H Q _ => ∃ (k : Nat) (b l : Addr) (ss : List Str), vs = [.ref b, .ref l] ∧ Bag (k + 1) b H ∧ l ≠ b ∧ H l = some (.lst (ss.map V.str)) ∧ 0 < ss.length ∧ ss.length < 1000 ∧ ∀ (r : Str) (H' : Hp), r ∈ ss → Bag k b H' → Chg [b] H H' → Q (.str r) H'
theorem nthS {ss : List Str} {i : Int} (h0 : 0 ≤ i) (h1 : i < (ss.map V.str).length) : ∃ n, n ∈ ss ∧ atI (ss.map V.str) i = some (.str n) := by
  rw [List.length_map] at h1
  have hlt : i.toNat < ss.length := by omega
  refine ⟨ss[i.toNat], List.getElem_mem hlt, ?_⟩
  have e : (i.toNat : Int) = i := Int.toNat_of_nonneg h0
  have := atI_nat (xs := ss.map V.str) (j := i.toNat) (v := V.str ss[i.toNat]) (by rw [List.getElem?_map, List.getElem?_eq_getElem hlt]; rfl)
  rw [e] at this
  exact this
theorem nthI {ns : List Int} {i : Int} (h0 : 0 ≤ i) (h1 : i < (ns.map V.int).length) : ∃ n, n ∈ ns ∧ atI (ns.map V.int) i = some (.int n) := by
  rw [List.length_map] at h1
  have hlt : i.toNat < ns.length := by omega
  refine ⟨ns[i.toNat], List.getElem_mem hlt, ?_⟩
  have e : (i.toNat : Int) = i := Int.toNat_of_nonneg h0
  have := atI_nat (xs := ns.map V.int) (j := i.toNat) (v := V.int ns[i.toNat]) (by rw [List.getElem?_map, List.getElem?_eq_getElem hlt]; rfl)
  rw [e] at this
  exact this
section
variable {P : Program} {w : World} {K : PySem.W.Frag} {mg : Str → Option Value} {base : Heap} {a : Ad}
theorem ok_begin (T : Tx K mg a) : FnOk P w K mg base CX0 1 a.a__law_begin a.d__law_begin ["script", "at"] (spBegin K) := by
  refine T.F__law_begin.ok sc__law_begin (fun vs H Q E h => ?_) (fun cdv A outer s H vs Q E hr h => ?_)
  · obtain ⟨_, _, _, rfl, _⟩ := h
    rfl
  · obtain ⟨sc, i, ns, rfl, h0, h4, hs, k⟩ := h
    refine ⟨_, (pss_cons (ps_set (i := 2) sc__law_begin.nd rfl (Or.inl rfl) (pe_ifExp (pt_cmpR op_lt (pv 1) (pe_callB call_len_seq (by rfl) T.z_len (by decide +kernel) (pa_cons (pv 0) pa_nil)) (nomark _)) (pe_ix ix_list (pv 0) (pv 1) (fun _ _ => rfl)) pe_int))
  (pss_cons (ps_set (i := 3) sc__law_begin.nd rfl (Or.inl rfl) (pe_ifExp (pt_cmpR op_ge (pe_callB call_abs (by rfl) T.z_abs (by decide +kernel) (pa_cons (pv 2) pa_nil)) (pe_op op_pow pe_int pe_int) (nomark _)) (pe_callB call_abs (by rfl) T.z_abs (by decide +kernel) (pa_cons (pv 2) pa_nil)) pe_int))
  (pss_one (ps_ret (pe_lst (pa_cons (pv 3) (pa_cons (pe_op op_mod (pe_callTy call_int1 (by rfl) T.z_int (by decide +kernel) (pa_cons (pv 2) pa_nil)) pe_int) (pa_cons (pe_op op_add (pe_op op_mul pe_int (pv 1)) pe_int) pa_nil)))))))), ?_⟩
    refine if_int (c := decide (i < ((ns.map V.int).length : Int))) (fun Q q => ⟨_, rfl, _, rfl, sc, _, rfl, .inl hs, _, _, rfl, rfl, _, rfl, q⟩) (fun hc => ?_) (fun _ => ⟨0, fun Q q => q⟩) (fun cell => ?_)
    · obtain ⟨n, _, hn⟩ := nthI (ns := ns) h0 (dec_true hc)
      exact ⟨n, fun Q q => ⟨_, rfl, _, rfl, sc, _, _, _, rfl, rfl, hs, hn, q⟩⟩
    dsimp only [gName, tSeq, tAsg]
    refine if_int (c := _) (fun Q q => ⟨_, rfl, _, rfl, _, _, rfl, rfl, ⟨by decide, by decide, by decide⟩, _, _, rfl, rfl, _, rfl, q⟩) (fun _ => ⟨_, fun Q q => ⟨_, rfl, _, rfl, q⟩⟩) (fun _ => ⟨0, fun Q q => q⟩) (fun g => ?_)
    exact ⟨_, rfl, _, rfl, .inl ⟨_, rfl, _, _, rfl, rfl, (by show (0 : Int) < _; decide), _, rfl, _, _, rfl, rfl, .inl ⟨by decide, by decide⟩, _, _, rfl, rfl, (by show 3 ≤ sizeLine; decide), fun b nb => k b _ nb (Lx.Same.new nb) ⟨_, _, _, upd_same, by omega, by omega⟩⟩⟩
theorem ok_draw (T : Tx K mg a) : FnOk P w K mg base CX0 1 a.a__law_draw a.d__law_draw ["source", "many"] spDraw := by
  refine T.F__law_draw.ok sc__law_draw (fun vs H Q E h => ?_) (fun cdv A outer s H vs Q E hr h => ?_)
  · obtain ⟨_, _, _, rfl, _⟩ := h
    rfl
  · obtain ⟨k, b, m, rfl, ⟨g, x, y, hb, y0, yk⟩, h0, hm, q⟩ := h
    refine ⟨_, (pss_cons (ps_if (pt_cmpR op_gt (pe_ix ix_list (pv 0) pe_int (fun _ _ => rfl)) pe_int (nomark _))
  (pss_cons (ps_set (i := 2) sc__law_draw.nd rfl (Or.inl rfl) (pe_op op_mod (pe_callTy call_int1 (by rfl) T.z_int (by decide +kernel) (pa_cons (pe_ix ix_list (pv 0) pe_int (fun _ _ => rfl)) pa_nil)) (pv 1)))
  (pss_cons (ps_asg (pe_op op_fdiv (pe_ix ix_list (pv 0) pe_int (fun _ _ => rfl)) (pv 1)) (pg_sub (pv 0) pe_int set_list))
  (pss_one (ps_ret (pv 2)))))
  pss_nil)
  (pss_cons (ps_asg (pe_op op_add (pe_ix ix_list (pv 0) pe_int (fun _ _ => rfl)) pe_int) (pg_sub (pv 0) pe_int set_list))
  (pss_cons (ps_set (i := 3) sc__law_draw.nd rfl (Or.inl rfl) (pe_ix ix_list (pv 0) pe_int (fun _ _ => rfl)))
  (pss_cons (ps_set (i := 4) sc__law_draw.nd rfl (Or.inl rfl) (pe_op op_mod (pe_callTy call_int1 (by rfl) T.z_int (by decide +kernel) (pa_cons (pe_op op_add (pe_op op_mul (pe_op op_add (pe_ix ix_list (pv 0) pe_int (fun _ _ => rfl)) (pe_op op_mul pe_int (pv 3))) pe_int) (pe_op op_mul (pe_op op_mul pe_int (pv 3)) (pv 3))) pa_nil)) pe_int))
  (pss_cons (ps_set (i := 4) sc__law_draw.nd rfl (Or.inl rfl) (pe_op op_mod (pe_callTy call_int1 (by rfl) T.z_int (by decide +kernel) (pa_cons (pe_op op_add (pe_op op_mul (pv 4) (pv 4)) (pe_op op_mul pe_int (pv 3))) pa_nil)) pe_int))
  (pss_one (ps_ret (pe_op op_mod (pe_callTy call_int1 (by rfl) T.z_int (by decide +kernel) (pa_cons (pe_op op_fdiv (pv 4) pe_int) pa_nil)) (pv 1))))))))), ?_⟩
    have i0 : ∀ u v w : Int, atI [V.int u, V.int v, V.int w] 0 = some (.int u) := fun _ _ _ => rfl
    have i1 : ∀ u v w : Int, atI [V.int u, V.int v, V.int w] 1 = some (.int v) := fun _ _ _ => rfl
    have i2 : ∀ u v w : Int, atI [V.int u, V.int v, V.int w] 2 = some (.int w) := fun _ _ _ => rfl
    refine ⟨_, rfl, b, _, _, _, rfl, rfl, SqL.of hb, i0 g x y, _, _, rfl, rfl, _, rfl, ?_⟩
    refine ite2 (fun hg => ?_) (fun hg => ?_)
    · refine ⟨_, rfl, b, _, _, _, rfl, rfl, SqL.of hb, i0 g x y, .inl ⟨_, rfl, _, rfl, _, _, rfl, rfl, h0, ?_⟩⟩
      refine ⟨_, rfl, b, _, _, _, rfl, rfl, SqL.of hb, i0 g x y, _, rfl, _, _, rfl, rfl, ⟨h0, by omega⟩, _, rfl, b, _, _, 0, rfl, rfl, hb, rfl, ?_⟩
      exact ⟨_, rfl, q _ _ (Int.emod_nonneg _ (by omega)) (Int.emod_lt_of_pos _ h0) ⟨_, _, _, upd_same, y0, by omega⟩ Chg.upd⟩
    · refine ⟨_, rfl, b, _, _, _, rfl, rfl, SqL.of hb, i2 g x y, _, _, rfl, rfl, _, rfl, b, _, _, 2, rfl, rfl, hb, rfl, ?_⟩
      have hb2 : upd H b (.lst [.int g, .int x, .int (y + 1)]) b = some (.lst [.int g, .int x, .int (y + 1)]) := upd_same
      refine ⟨_, rfl, b, _, _, _, rfl, rfl, SqL.of hb2, i2 _ _ _, ?_⟩
      refine ⟨_, rfl, b, _, _, _, rfl, rfl, SqL.of hb2, i1 _ _ _, _, rfl, _, _, rfl, rfl, .inl ⟨by decide, by decide⟩, _, _, rfl, rfl, _, _, rfl, rfl, .inr ⟨by decide, by decide⟩, _, rfl, _, _, rfl, rfl, .inl ⟨by decide, by decide⟩, _, rfl, _, _, rfl, rfl, .inr ⟨by omega, by omega⟩, _, _, rfl, rfl, .inl ⟨_, rfl, _, _, rfl, rfl, (by show (0 : Int) < _; decide), ?_⟩⟩
      have em : ∀ i : Int, 0 ≤ i % 2147483629 ∧ i % 2147483629 < 2147483629 := fun i => ⟨Int.emod_nonneg _ (by decide), Int.emod_lt_of_pos _ (by decide)⟩
      refine ⟨_, rfl, _, rfl, _, _, rfl, rfl, .inr ⟨?_, ?_⟩, _, rfl, _, _, rfl, rfl, .inl ⟨by decide, by decide⟩, _, _, rfl, rfl, .inl ⟨_, rfl, _, _, rfl, rfl, (by show (0 : Int) < _; decide), ?_⟩⟩
      · exact Int.lt_of_lt_of_le (by decide) (em _).1
      · exact Int.lt_trans (em _).2 (by decide)
      exact ⟨_, rfl, _, _, rfl, rfl, ⟨by decide, by decide⟩, .inl ⟨_, rfl, _, rfl, _, _, rfl, rfl, h0, q _ _ (Int.emod_nonneg _ (by omega)) (Int.emod_lt_of_pos _ h0) ⟨_, _, _, hb2, by omega, by omega⟩ Chg.upd⟩⟩
def spList (ss : List Str) : Sp := fun vs H Q _ => vs = [] ∧ ∀ (l : Addr) (H' : Hp), H l = none → H' l = some (.lst (ss.map V.str)) → Same H H' → Q (.ref l) H'
theorem ok_of (T : Tx K mg a) : FnOk P w K mg base CX0 2 a.a__law_of a.d__law_of ["source", "some"] spOf := by
  have G__law_draw : FnOk P w K mg base CX0 1 a.a__law_draw a.d__law_draw ["source", "many"] spDraw := ok_draw T
  refine T.F__law_of.ok sc__law_of (fun vs H Q E h => ?_) (fun cdv A outer s H vs Q E hr h => ?_)
  · obtain ⟨_, _, _, _, rfl, _⟩ := h
    rfl
  · obtain ⟨n, b, l, ss, rfl, hb, nl, hl, h0, h1, k⟩ := h
    refine ⟨_, (pss_one (ps_ret (pe_ix ix_list (pv 1) (pe_call G__law_draw (hr.mono (by decide)) (by rfl) T.mg__law_draw T.kp__law_draw T.b__law_draw .nil pass0 (pa_cons (pv 0) (pa_cons (pe_callB call_len_seq (by rfl) T.z_len (by decide +kernel) (pa_cons (pv 1) pa_nil)) pa_nil))) (fun _ _ => rfl)))), ?_⟩
    refine ⟨_, rfl, _, rfl, _, rfl, l, _, rfl, .inl (SqL.of hl), n, b, _, rfl, hb, (by rw [List.length_map]; omega), (by rw [List.length_map]; omega), fun r H' r0 r1 hb' ch => ?_⟩
    obtain ⟨z, hz, e⟩ := nthS (ss := ss) r0 r1
    exact ⟨l, _, _, _, rfl, rfl, SqL.of (ch _ _ (no1 nl) hl), e, k _ _ hz hb' ch⟩
theorem looks_split : Txt.split "walk list len truth count any has item part" " " = LOOKS := by decide +kernel
theorem ok_looks (T : Tx K mg a) : FnOk P w K mg base CX0 1 a.a__law_looks a.d__law_looks [] (spList LOOKS) := by
  refine T.F__law_looks.ok sc__law_looks (fun vs H Q E h => ?_) (fun cdv A outer s H vs Q E hr h => ?_)
  · obtain ⟨rfl, _⟩ := h
    rfl
  · obtain ⟨rfl, k⟩ := h
    refine ⟨_, (pss_one (ps_ret (pe_split pe_str pe_str))), ?_⟩
    refine ⟨⟨_, rfl⟩, _, " ", rfl, rfl, by decide, by decide +kernel, fun l nl => ?_⟩
    rw [looks_split]
    exact k l _ nl upd_same (Lx.Same.new nl)
/-! ### the ways drawn, a book's text -/
def spWays : Sp := fun vs H Q _ => ∃ (k : Nat) (b : Addr), vs = [.ref b] ∧ Bag (k + 9) b H ∧ ∀ (l : Addr) (ms : List Str) (H' : Hp), Good ms → H l = none → H' l = some (.lst (ms.map V.str)) → l ≠ b → Bag k b H' → Chg [b] H H' → Q (.ref l) H'
theorem ok_ways (T : Tx K mg a) : FnOk P w K mg base CX0 3 a.a__law_ways a.d__law_ways ["source"] spWays := by
  have G__law_looks := ok_looks (P := P) (w := w) (base := base) T
  have G__law_of := ok_of (P := P) (w := w) (base := base) T
  refine T.F__law_ways.ok sc__law_ways (fun vs H Q E h => ?_) (fun cdv A outer s H vs Q E hr h => ?_)
  · obtain ⟨_, _, rfl, _⟩ := h
    rfl
  · obtain ⟨k, b, rfl, hb, q⟩ := h
    refine ⟨_, (pss_one (ps_ret (pe_lc (own := [("view", 1)]) (g := gName 1) rfl sc__law_ways.nd (pi_list (pe_call0 G__law_looks (hr.mono (by decide)) (by rfl) T.mg__law_looks T.kp__law_looks T.b__law_looks .nil pass0)) (blkOk_by (own := [("view", 1)]) (N := ["source", "view"]) (sc := defScope s__law_ways) (by decide +kernel)) (fun _ _ _ _ _ => (pg_name (i := 1) sc__law_ways.nd rfl (Or.inl rfl))) (fun _ _ _ _ _ => pts_nil) (fun _ _ _ _ _ => (pe_call G__law_of (hr.mono (by decide)) (by rfl) T.mg__law_of T.kp__law_of T.b__law_of .nil pass0 (pa_cons (pv 0) (pa_cons (pe_lst (pa_cons pe_str (pa_cons pe_str (pa_cons pe_str pa_nil)))) pa_nil))))))), ?_⟩
    refine ⟨rfl, fun L H1 nL hL s1 => ?_⟩
    have hb1 := hb.same s1
    have Lb : L ≠ b := hb.ne nL
    refine ⟨L, rfl, ⟨_, SqL.of hL⟩, fun D nD => lc_it (walk_list (K := K) (a := L) (xs := LOOKS.map V.str)) (fun i H' => Chg [b] H1 H' ∧ ∃ ms : List Str, ms.length = i ∧ (∀ m ∈ ms, m ∈ WAYS) ∧ H' D = some (.lst (ms.map V.str)) ∧ Bag (k + (9 - i)) b H') ⟨Chg.new nD, [], rfl, by simp, upd_same, hb1.same (Lx.Same.new nD)⟩ (fun i H' _ h => SqL.of (h.1 _ _ (no1 Lb) hL)) ?_ ?_⟩
    · rintro i y H2 H3 hi ⟨c, ms, hl, hm, hD, hB⟩ ⟨rfl, hy⟩
      have hi9 : i < 9 := hi
      have ek : k + (9 - i) = (k + (8 - i)) + 1 := by omega
      rw [ek] at hB
      have Db : D ≠ b := hb1.ne nD
      refine ⟨rfl, _, rfl, by decide, fun p np => ⟨k + (8 - i), b, p, WAYS, rfl, hB.same (Lx.Same.new np), hB.ne np, upd_same, by decide, by decide, fun r H4 hr hb4 c4 => ?_⟩⟩
      have hD4 : H4 D = some (.lst (ms.map V.str)) := c4 _ _ (no1 Db) (keep_set (none_ne hD np).symm hD)
      have cc : Chg [b] H1 H4 := (c.trans (Chg.new np)).trans c4
      refine ⟨ms.map V.str, hD4, ?_, Chg.mut cc nD, ms ++ [r], by rw [List.length_append, hl]; rfl, ?_, by rw [upd_same, List.map_append]; rfl, ?_⟩
      · rw [List.length_map, hl, sizeLine_eq]
        omega
      · intro m hm'
        rcases List.mem_append.mp hm' with z | z
        · exact hm m z
        · rw [List.mem_singleton.mp z]
          exact hr
      · have e2 : 9 - (i + 1) = 8 - i := by omega
        rw [e2]
        exact hb4.mv (S := [D]) (no1 (Ne.symm Db)) Chg.upd
    · rintro H2 ⟨c, ms, hl, hm, hD, hB⟩
      exact q D ms H2 ⟨hl, hm⟩ (Lx.Same.back s1 nD) hD (hb1.ne nD) hB ((Chg.of s1).trans c)
def spText (K : PySem.W.Frag) : Sp := fun vs H Q _ => ∃ (bt : Str) (l : Addr) (ms : List Str), vs = [.str bt, .ref l] ∧ bt ∈ BUILTS ∧ Good ms ∧ H l = some (.lst (ms.map V.str)) ∧ ∀ H', Same H H' → Q (.str (text bt ms)) H'
theorem text_eq {bt : Str} {ms : List Str} (g : Good ms) : bt ++ " " ++ Txt.join " " (words ms) = text bt ms := by
  have h := words_len g
  unfold text
  cases e : words ms with
  | nil =>
    rw [e] at h
    cases h
  | cons x r =>
    rw [join_eq, join_eq]
    rfl
theorem ok_text (T : Tx K mg a) : FnOk P w K mg base CX0 3 a.a__law_book_text a.d__law_book_text ["built", "manners"] (spText K) := by
  have G__law_looks := ok_looks (P := P) (w := w) (base := base) T
  refine T.F__law_book_text.ok sc__law_book_text (fun vs H Q E h => ?_) (fun cdv A outer s H vs Q E hr h => ?_)
  · obtain ⟨_, _, _, rfl, _⟩ := h
    rfl
  · obtain ⟨bt, l, ms, rfl, hbt, g, hl, k⟩ := h
    refine ⟨_, (pss_one (ps_ret (pe_op op_add_str (pe_op op_add_str (pv 0) pe_str) (pe_join pe_str (pe_lc (own := [("view", 2), ("manner", 3)]) (g := gTup K 2 (gCons (gName 2) (gCons (gName 3) gNil))) rfl sc__law_book_text.nd (pi_zipN (by rfl) T.z_zip (pa_cons (pe_call0 G__law_looks (hr.mono (by decide)) (by rfl) T.mg__law_looks T.kp__law_looks T.b__law_looks .nil pass0) (pa_cons (pv 1) pa_nil))) (blkOk_by (own := [("view", 2), ("manner", 3)]) (N := ["built", "manners", "view", "manner"]) (sc := defScope s__law_book_text) (by decide +kernel)) (fun _ _ _ _ _ => (pg_tup (by rfl) (pgs_cons (pg_name (i := 2) sc__law_book_text.nd rfl (Or.inl rfl)) (pgs_cons (pg_name (i := 3) sc__law_book_text.nd rfl (Or.inl rfl)) pgs_nil)))) (fun _ _ _ _ _ => pts_nil) (fun _ _ _ _ _ => (pe_op op_add_str (pe_op op_add_str (pv 2) pe_str) (pv 3)))))))), ?_⟩
    have l9 : (9 : Nat) = min (LOOKS.map V.str).length (ms.map V.str).length := by
      rw [List.length_map, List.length_map, g.1]
      rfl
    have bl : bt.length ≤ 5 := short _ (List.mem_append_left _ hbt)
    have e1 : (" " : Str).length = 1 := by decide
    refine ⟨_, rfl, _, _, rfl, rfl, by rw [sizeLine_eq]; omega, ⟨_, rfl⟩, rfl, fun L H1 nL hL s1 => ⟨_, rfl, [(L, false), (l, false)], rfl, .inl rfl, ?_, fun D nD => lc_it (walk_zip2 (K := K) (p := (L, false)) (q := (l, false)) l9) (fun i H' => Same H1 H' ∧ H' D = some (.lst (((words ms).take i).map V.str))) ⟨Lx.Same.new nD, upd_same⟩ (fun i H' _ h => ⟨SqL.of (h.1 _ _ hL), SqL.of (h.1 _ _ (s1 _ _ hl))⟩) ?_ ?_⟩⟩
    · intro p hp
      rcases List.mem_cons.mp hp with rfl | hp
      · exact ⟨_, SqL.of hL⟩
      · obtain rfl := List.mem_singleton.mp hp
        exact ⟨_, SqL.of (s1 _ _ hl)⟩
    · rintro i y H2 H3 hi ⟨s2, hD⟩ ⟨t, u1, u2, rfl, nt, rfl, f1, f2⟩
      obtain ⟨x, hx1, rfl⟩ := get_str f1
      obtain ⟨m, hm1, rfl⟩ := get_str f2
      have hz : (LOOKS.zip ms)[i]? = some (x, m) := List.getElem?_zip_eq_some.mpr ⟨hx1, hm1⟩
      obtain ⟨m1, m2⟩ := zip_mem g (List.mem_of_getElem? hz)
      have w1 : x.length ≤ 5 := short _ (List.mem_append_right _ (List.mem_append_left _ m1))
      have w2 : m.length ≤ 5 := short _ (List.mem_append_right _ (List.mem_append_right _ m2))
      have w3 : (":" : Str).length = 1 := by decide
      refine ⟨t, _, rfl, SqT.of upd_same, rfl, _, _, rfl, _, _, rfl, rfl, rfl, _, rfl, _, _, rfl, rfl, ?_, _, rfl, _, _, rfl, rfl, ?_, ((words ms).take i).map V.str, keep_set (none_ne hD nt).symm hD, ?_, Lx.Same.mut (s2.trans (Lx.Same.new nt)) nD, ?_⟩
      · rw [sizeLine_eq]
        omega
      · rw [sizeLine_eq, str_len]
        omega
      · rw [List.length_map, List.length_take, sizeLine_eq]
        have := words_len g
        omega
      · have e : (words ms)[i]? = some (word (x, m)) := by
          unfold words
          rw [List.getElem?_map, hz]
          rfl
        rw [upd_same, List.take_add_one, e, List.map_append]
        rfl
    · rintro H2 ⟨s2, hD⟩
      have wl := words_len g
      rw [List.take_of_length_le (by rw [wl]; decide)] at hD
      have q := sum_le (l := (words ms).map (·.length)) (c := 11) fun x hx => by
        obtain ⟨y, hy, rfl⟩ := List.mem_map.mp hx
        exact parts_len hbt g y (List.mem_cons_of_mem _ hy)
      rw [List.length_map, wl] at q
      refine ⟨_, D, words ms, rfl, rfl, .inl (SqL.of hD), by rw [wl, e1]; omega, _, _, rfl, rfl, ?_, ?_⟩
      · have tl := text_len hbt g
        rw [← text_eq g, str_len] at tl
        rw [sizeLine_eq]
        omega
      · rw [text_eq g]
        exact k _ (s1.trans s2)
end
end K13
set_option Elab.async false
set_option linter.all false
set_option maxRecDepth 100000
set_option maxHeartbeats 4000000
namespace K13
open PySem L2 Lx TL
theorem putK_keyed {ms : List Str} {l m : Str} (g : Good ms) : ∀ (i : Nat), LOOKS[i]? = some l → putK (keyed ms) (Sum.inr l) (.str m) = keyed (ms.set i m) := by
  obtain ⟨m0, m1, m2, m3, m4, m5, m6, m7, m8, rfl⟩ := good_len g
  exact fun
  | 0, h => by cases h; rfl
  | 1, h => by cases h; rfl
  | 2, h => by cases h; rfl
  | 3, h => by cases h; rfl
  | 4, h => by cases h; rfl
  | 5, h => by cases h; rfl
  | 6, h => by cases h; rfl
  | 7, h => by cases h; rfl
  | 8, h => by cases h; rfl
  | n + 9, h => by
    rw [List.getElem?_eq_none (by show 9 ≤ n + 9; omega)] at h
    cases h
def spTurn (K : PySem.W.Frag) (c nl bb : Addr) : Sp := fun vs H Q E => ∃ (b : Addr) (look way : V) (bt : Str) (ms : List Str) (dl dw : PyData), vs = [.ref b, look, way] ∧ Book c H b bt ms ∧ bt ∈ BUILTS ∧ Good ms ∧ Dp K H look dl ∧ SeqAt.shaped dl = true ∧ Dp K H way dw ∧ SeqAt.shaped dw = true ∧
  (((dstrs LOOKS).any (fun z => PyData.eqv z dl) = false ∧ ∀ x, H x = none → E (.ref nl) (some x) (upd H x (.xd [("look", look)]))) ∨
   ∃ (i : Nat) (l : Str), look = .str l ∧ dl = .str l ∧ LOOKS[i]? = some l ∧
    (((dstrs WAYS).any (fun z => PyData.eqv z dw) = false ∧ ∀ x, H x = none → E (.ref bb) (some x) (upd H x (.xd [("thing", way)]))) ∨
     ∃ m : Str, way = .str m ∧ dw = .str m ∧ m ∈ WAYS ∧ ∀ (b2 : Addr) (H' : Hp), Book c H' b2 bt (ms.set i m) → Same H H' → Q (.ref b2) H'))
section
variable {P : Program} {w : World} {K : PySem.W.Frag} {mg : Str → Option Value} {base : Heap} {a : Ad}
theorem ok_turned (T : Tx K mg a) (PF : PFile P "/claim/cut.py") : FnOk P w K mg base (L2.CX P w) 5 a.a_Book_turned a.d_Book_turned ["self", "look", "way"] (spTurn K a.c_Book a.c_NoLook a.c_BadBook) := by
  have GBook := ok_init (P := P) (w := w) (base := base) T PF
  refine T.F_Book_turned.okX sc_Book_turned (fun vs H Q E h => ?_) (fun cdv A outer s H vs Q E hr h => ?_)
  · obtain ⟨_, _, _, _, _, _, _, rfl, _⟩ := h
    rfl
  · obtain ⟨b, look, way, bt, ms, dl, dw, rfl, hB, hbt, g, hl, sl, hw, sw, h⟩ := h
    refine ⟨_, (pss_cons (ps_if (pt_cmpR (op_notInL (units65 hr)) (pv 1) (pe_fld (pv 0) rfl) (by rfl))
  (pss_one (ps_raiseX (k := 0) rfl bs_Lookup T.sx_NoLook PF (hr.mono (by decide)) (takes_of rfl rfl rfl rfl) T.mg_NoLook (pv 1) (by rfl)))
  pss_nil)
  (pss_cons (ps_if (pt_cmpR (op_notInT (units65 hr)) (pv 2) (ClX.pe_cval (pe_glob (v := .ref a.c_Book) (by rfl) T.mg_Book rfl)) (by rfl))
  (pss_one (ps_raiseX (k := 0) rfl bs_Value T.sx_BadBook PF (hr.mono (by decide)) (takes_of rfl rfl rfl rfl) T.mg_BadBook (pv 2) (by rfl)))
  pss_nil)
  (pss_cons (ps_set (i := 3) sc_Book_turned.nd rfl (Or.inl rfl) (pe_callTy call_dictD (by rfl) T.z_dict (by decide +kernel) (pa_cons (pe_fld (pv 0) rfl) pa_nil)))
  (pss_cons (ps_dput (hu_of hr) (pv 3) (pv 1) (pv 2) rfl)
  (pss_one (ps_ret (pe_makeM (i := 3) (cal_glob (by rfl) T.mg_Book) T.mk_Book GBook (hr.mono (by decide)) passL (pa_cons (pe_fld (pv 0) rfl) pa_nil) rfl (Or.inl rfl)))))))), ?_⟩
    have hB0 := hB
    obtain ⟨dx, TT, L, hb, hT, hL⟩ := hB0
    refine ⟨_, rfl, _, rfl, b, a.c_Book, dx, _, _, rfl, hb, T.cl_Book, T.na_Book_order, rfl, dl, dstrs LOOKS, hl, .lst (SqL.of hL) (dp_strs _), sl, by decide +kernel, _, rfl, ?_⟩
    rcases h with ⟨hn, q⟩ | ⟨i, l, rfl, rfl, hil, h⟩
    · refine if_true_of (by rw [if_pos rfl, hn]; rfl) ?_
      exact ⟨_, rfl, q⟩
    refine if_false_of (by rw [if_pos rfl, any_look hil]; rfl) ?_
    refine ⟨_, rfl, a.c_Book, .type "type", _, _, rfl, T.cr, T.cv_WAYS, dw, dstrs WAYS, hw, .tup (T.t_WAYS _) (dp_strs _), sw, by decide +kernel, _, rfl, ?_⟩
    rcases h with ⟨hn, q⟩ | ⟨m, rfl, rfl, hm, k⟩
    · refine if_true_of (by rw [if_pos rfl, hn]; rfl) ?_
      exact ⟨_, rfl, q⟩
    have aw : (dstrs WAYS).any (fun z => PyData.eqv z (.str m)) = true := List.any_eq_true.mpr ⟨.str m, List.mem_map.mpr ⟨m, hm, rfl⟩, beq_self_eq_true m⟩
    refine if_false_of (by rw [if_pos rfl, aw]; rfl) ?_
    refine ⟨_, rfl, b, a.c_Book, dx, _, _, rfl, hb, T.cl_Book, T.na_Book_table, rfl, TT, _, rfl, .inl hT, fun D nD => ?_⟩
    have gs : Good (ms.set i m) := ⟨by rw [List.length_set]; exact g.1, fun x hx => by
      rcases List.mem_or_eq_of_mem_set hx with z | z
      · exact g.2 x z
      · rw [z]
        exact hm⟩
    have gk := goodK gs
    have hD : upd (upd H D (.dK (keyed ms))) D (.dK (putK (keyed ms) (Sum.inr l) (.str m))) D = some (.dK (keyed (ms.set i m))) := by
      rw [upd_same, putK_keyed g i hil]
    have s1 : Same H (upd (upd H D (.dK (keyed ms))) D (.dK (putK (keyed ms) (Sum.inr l) (.str m)))) := Lx.Same.mut (Lx.Same.new nD) nD
    have kl : (keyed ms).length < sizeLine := by
      unfold keyed
      rw [List.length_map, List.length_map, List.length_zip, g.1, sizeLine_eq]
      decide
    refine ⟨_, rfl, _, rfl, _, rfl, D, _, rfl, DPut.k (k := Sum.inr l) upd_same kl, ?_⟩
    refine ⟨trivial, _, rfl, b, a.c_Book, dx, _, _, rfl, s1 _ _ hb, T.cl_Book, T.na_Book_built, rfl, D, strD (LOOKS.zip (ms.set i m)), rfl, .inl hD, fun x dx' nx nd ne => ⟨[.ref x, .str bt], strD (LOOKS.zip (ms.set i m)), ⟨gk.rest.1, .inr (.inl ⟨_, _, rfl, rfl, rfl⟩)⟩, gk.rest.2, fun d hd => new_core gk hbt nx nd ne (fun b2 H' hB2 s2 => ?_) d hd⟩⟩
    rw [ways_zip gs] at hB2
    exact k b2 H' hB2 (s1.trans s2)
def unl (ms ns : List Str) : List Str := ((LOOKS.zip (ms.zip ns)).filter fun p => decide (p.2.1 ≠ p.2.2)).map (·.1)
def spUnl (c : Addr) : Sp := fun vs H Q _ => ∃ (b e : Addr) (bt be : Str) (ms ns : List Str), vs = [.ref b, .ref e] ∧ Book c H b bt ms ∧ Book c H e be ns ∧ ms.length = 9 ∧ ns.length = 9 ∧ ∀ (t : Addr) (H' : Hp), H' t = some (.tup ((unl ms ns).map V.str)) → Same H H' → Q (.ref t) H'
theorem ok_unlike (T : Tx K mg a) : FnOk P w K mg base CX0 3 a.a_Book_unlike a.d_Book_unlike ["self", "other"] (spUnl a.c_Book) := by
  refine T.F_Book_unlike.ok sc_Book_unlike (fun vs H Q E h => ?_) (fun cdv A outer s H vs Q E hr h => ?_)
  · obtain ⟨_, _, _, _, _, _, rfl, _⟩ := h
    rfl
  · obtain ⟨b, e, bt, be, ms, ns, rfl, hB, hE, hm, hn, k⟩ := h
    refine ⟨_, (pss_one (ps_ret (pe_callTy call_tuple_of (by rfl) T.z_tuple (by decide +kernel) (pa_cons (pe_lc (own := [("look", 2)]) (g := gName 2) rfl sc_Book_unlike.nd (pi_list (pe_fld (pv 0) rfl)) (blkOk_by (own := [("look", 2)]) (N := ["self", "other", "look"]) (sc := defScope s_Book_unlike) (by decide +kernel)) (fun _ _ _ _ _ => (pg_name (i := 2) sc_Book_unlike.nd rfl (Or.inl rfl))) (fun _ _ _ _ _ => (pts_one (pt_cmpR op_ne (pe_dget (hu_of hr) (pe_fldK (K := K) rfl (pv 0) rfl) (pv 2) (fun _ _ => rfl)) (pe_dget (hu_of hr) (pe_fldK (K := K) rfl (pv 1) rfl) (pv 2) (fun _ _ => rfl)) (nomark _)))) (fun _ _ _ _ _ => (pv 2))) pa_nil)))), ?_⟩
    obtain ⟨dx, TT, L, hb, hT, hL⟩ := hB
    obtain ⟨dx2, TT2, L2', he, hT2, _⟩ := hE
    refine ⟨_, rfl, b, a.c_Book, dx, _, _, rfl, hb, T.cl_Book, T.na_Book_order, rfl, L, rfl, ⟨_, SqL.of hL⟩, fun D nD => lc_it (walk_list (K := K) (a := L) (xs := LOOKS.map V.str)) (fun i H' => Same H H' ∧ H' D = some (.lst (((((LOOKS.zip (ms.zip ns)).take i).filter fun p => decide (p.2.1 ≠ p.2.2)).map (·.1)).map V.str))) ⟨Lx.Same.new nD, upd_same⟩ (fun i H' _ h => SqL.of (h.1 _ _ hL)) ?_ ?_⟩
    · rintro i y H1 H2 hi ⟨s1, hD⟩ ⟨rfl, hy⟩
      obtain ⟨l, hl, rfl⟩ := get_str hy
      obtain ⟨m, h1⟩ := looks_at hm hl
      obtain ⟨n, h2⟩ := looks_at hn hl
      have g1 : DGet H2 TT (.str l) (some (.str m)) := by
        have q := DGet.k (k := Sum.inr l) (s1 _ _ hT)
        rw [keyed_at hl h1] at q
        exact q
      have g2 : DGet H2 TT2 (.str l) (some (.str n)) := by
        have q := DGet.k (k := Sum.inr l) (s1 _ _ hT2)
        rw [keyed_at hl h2] at q
        exact q
      have hz : (LOOKS.zip (ms.zip ns))[i]? = some (l, m, n) := List.getElem?_zip_eq_some.mpr ⟨hl, List.getElem?_zip_eq_some.mpr ⟨h1, h2⟩⟩
      refine ⟨rfl, _, rfl, b, a.c_Book, dx, _, _, rfl, s1 _ _ hb, T.cl_Book, T.na_Book_table, rfl, _, rfl, TT, .str m, rfl, g1, _, rfl, e, a.c_Book, dx2, _, _, rfl, s1 _ _ he, T.cl_Book, T.na_Book_table, rfl, _, rfl, TT2, .str n, rfl, g2, rfl, _, rfl, ?_⟩
      by_cases q : m = n
      · refine if_false_of (by simp [q]) ⟨s1, ?_⟩
        rw [List.take_add_one, hz, List.filter_append]
        simpa [q] using hD
      · refine if_true_of (by simp [q]) ⟨_, rfl, _, hD, ?_, Lx.Same.mut s1 nD, ?_⟩
        · rw [List.length_map, List.length_map, sizeLine_eq]
          exact Nat.lt_of_le_of_lt (List.length_filter_le ..) (Nat.lt_of_le_of_lt (List.length_take_le' ..) (by rw [List.length_zip]; exact Nat.lt_of_le_of_lt (Nat.min_le_left ..) (by decide)))
        · rw [upd_same, List.take_add_one, hz, List.filter_append]
          simp [q]
    · rintro H1 ⟨s1, hD⟩
      rw [List.take_of_length_le (by rw [List.length_zip]; exact Nat.min_le_left ..)] at hD
      exact ⟨D, _, rfl, .inl ⟨SqL.of hD, fun t nt => k t _ upd_same (s1.trans (Lx.Same.new nt))⟩⟩
end
end K13
set_option Elab.async false
set_option linter.all false
set_option maxRecDepth 100000
set_option maxHeartbeats 4000000
namespace K13
open PySem L2 Lx TL
def spTold (K : PySem.W.Frag) (c : Addr) : Sp := fun vs H Q _ => ∃ (b : Addr) (look way : V) (bt : Str) (ms : List Str) (dl dw : PyData), vs = [.ref b, look, way] ∧ Book c H b bt ms ∧ bt ∈ BUILTS ∧ Good ms ∧ Dp K H look dl ∧ SeqAt.shaped dl = true ∧ Dp K H way dw ∧ SeqAt.shaped dw = true ∧
  (((dstrs LOOKS).any (fun z => PyData.eqv z dl) = false ∧ ∀ (p : Addr) (H' : Hp), H' p = some (.tup [.str "look", look]) → H p = none → Same H H' → Q (.ref p) H') ∨
   ∃ (i : Nat) (l : Str), look = .str l ∧ dl = .str l ∧ LOOKS[i]? = some l ∧ (dstrs WAYS).any (fun z => PyData.eqv z dw) = false ∧ ∀ (p : Addr) (H' : Hp), H' p = some (.tup [.str "way", way]) → H p = none → Same H H' → Q (.ref p) H')
section
variable {P : Program} {w : World} {K : PySem.W.Frag} {mg : Str → Option Value} {base : Heap} {a : Ad}
theorem ok_told (T : Tx K mg a) (PF : PFile P "/claim/cut.py") : FnOk P w K mg base (L2.CX P w) 7 a.a__law_told a.d__law_told ["book", "view", "manner"] (spTold K a.c_Book) := by
  have GTurn := ok_turned (P := P) (w := w) (base := base) T PF
  have GRstr := (ok_str (P := P) (w := w) (base := base) T PF).raw T.b_BookU_strU .nil
  refine T.F__law_told.okX sc__law_told (fun vs H Q E h => ?_) (fun cdv A outer s H vs Q E hr h => ?_)
  · obtain ⟨_, _, _, _, _, _, _, rfl, _⟩ := h
    rfl
  · obtain ⟨b, look, way, bt, ms, dl, dw, rfl, hB, hbt, g, hl, sl, hw, sw, h⟩ := h
    refine ⟨_, (pss_one (ps_try_named rfl rfl sc__law_told.nd (takes_of rfl rfl rfl rfl) (fun W pn xe tk _ => (pss_one (ps_ret (pe_tup (pa_cons pe_str (pa_cons (pe_callTy (call_strO ⟨T.at_BookU_strU, T.fn_BookU_strU⟩ GRstr (hr.mono (by decide)) pass0) (by rfl) T.z_str (by decide +kernel) (pa_cons (pe_methE (pv 0) T.cl_Book T.m_Book_turned GTurn (hr.mono (by decide)) T.b_Book_turned (passAt tk) (pa_cons (pv 1) (pa_cons (pv 2) pa_nil))) pa_nil)) pa_nil)))))) (.cons (x := "NoLook") (n := "e") (i := 3) ⟨rfl, by decide, Or.inl T.mg_NoLook⟩ rfl rfl (fun a0 oe cls d0 pn hz hf => (pss_one (ps_ret (pe_tup (pa_cons pe_str (pa_cons (pe_xf T.xf_NoLook T.xn_NoLook hz hf (pv 3) rfl) pa_nil)))))) (.cons (x := "BadBook") (n := "e") (i := 3) ⟨rfl, by decide, Or.inl T.mg_BadBook⟩ rfl rfl (fun a0 oe cls d0 pn hz hf => (pss_one (ps_ret (pe_tup (pa_cons pe_str (pa_cons (pe_xf T.xf_BadBook T.xn_BadBook hz hf (pv 3) rfl) pa_nil)))))) .nil)))), ?_⟩
    have hB2 := hB
    obtain ⟨dx, TT, L, hb, hT, hL⟩ := hB2
    have fin : ∀ {x p : Addr} {o o2 : HO}, H x = none → upd H x o p = none → H p = none ∧ Same H (upd (upd H x o) p o2) := fun nx np => ⟨Lx.Same.back (Lx.Same.new nx) np, (Lx.Same.new nx).trans (Lx.Same.new np)⟩
    refine ⟨_, rfl, b, dx, _, rfl, hb, rfl, _, rfl, _, rfl, b, look, way, bt, ms, dl, dw, rfl, hB, hbt, g, hl, sl, hw, sw, ?_⟩
    rcases h with ⟨hn, k⟩ | ⟨i, l, rfl, rfl, hil, hn, k⟩
    · refine .inl ⟨hn, fun x nx => ⟨true, T.ex_NoLook, fun _ a0 na0 => ⟨_, rfl, rfl, rfl, x, _, _, rfl, upd_same, rfl, (by show 2 ≤ sizeLine; decide), fun p np => ?_⟩, fun h => by cases h⟩⟩
      exact k p _ upd_same (fin (o2 := .tup []) nx np).1 (fin nx np).2
    · refine .inr ⟨i, l, rfl, rfl, hil, .inl ⟨hn, fun x nx => ⟨false, T.ex_BN, (fun h => by cases h), fun _ => ⟨true, T.ex_BB, fun _ a0 na0 => ⟨_, rfl, rfl, rfl, x, _, _, rfl, upd_same, rfl, (by show 2 ≤ sizeLine; decide), fun p np => ?_⟩, fun h => by cases h⟩⟩⟩⟩
      exact k p _ upd_same (fin (o2 := .tup []) nx np).1 (fin nx np).2
end
end K13
set_option Elab.async false
set_option linter.all false
set_option maxRecDepth 100000
set_option maxHeartbeats 4000000
namespace K13
open PySem L2 Lx TL
theorem eqv_strs : ∀ ss : List Str, PyData.eqvAll (dstrs ss) (dstrs ss) = true
  | [] => rfl
  | s :: ss => by
    show ((s == s) && PyData.eqvAll (dstrs ss) (dstrs ss)) = true
    rw [eqv_strs ss, beq_self_eq_true]
    rfl
theorem can_strs : ∀ {ss : List Str}, (∀ s ∈ ss, (PyData.str s).canLay0 = true) → PyData.canLayAll0 (dstrs ss) = true
  | [], _ => rfl
  | s :: ss, h => by
    show ((PyData.str s).canLay0 && PyData.canLayAll0 (dstrs ss)) = true
    rw [h s List.mem_cons_self, can_strs fun x hx => h x (List.mem_cons_of_mem _ hx)]
    rfl
theorem depth_strs : ∀ ss : List Str, PyData.depthAll (dstrs ss) = 0
  | [] => rfl
  | s :: ss => by
    show max 0 (PyData.depthAll (dstrs ss)) = 0
    rw [depth_strs ss]
    rfl
theorem shaped_strs {ss : List Str} (h : ∀ s ∈ ss, (PyData.str s).canLay0 = true) : SeqAt.shaped (.list (dstrs ss)) = true := by
  unfold SeqAt.shaped
  have e1 : (PyData.list (dstrs ss)).canLay0 = true := can_strs h
  have e2 : (PyData.list (dstrs ss)).depth = 1 := by
    show PyData.depthAll (dstrs ss) + 1 = 1
    rw [depth_strs]
  rw [e1, e2]
  rfl
theorem shaped_str {s : Str} (h : (PyData.str s).canLay0 = true) : SeqAt.shaped (.str s) = true := by
  unfold SeqAt.shaped
  rw [h]
  rfl
theorem known_ok : ∀ x ∈ BUILTS ++ (LOOKS ++ WAYS), (PyData.str x).canLay0 = true := by decide +kernel
theorem eqv_list (ss : List Str) : PyData.eqv (.list (dstrs ss)) (.list (dstrs ss)) = true := eqv_strs ss
theorem dpa_get {K : PySem.W.Frag} {H : Hp} : ∀ {vs : List V} {ds : List PyData} {i : Nat} {v : V}, DpAll K H vs ds → vs[i]? = some v → ∃ d, ds[i]? = some d ∧ Dp K H v d
  | _, _, 0, _, .cons h _, e => by
    cases e
    exact ⟨_, rfl, h⟩
  | _, _, i + 1, _, .cons _ r, e => dpa_get (i := i) r e
theorem eqv_dec : ∀ xs ys : List Str, PyData.eqvAll (dstrs xs) (dstrs ys) = decide (xs = ys)
  | [], [] => rfl
  | [], _ :: _ => rfl
  | _ :: _, [] => rfl
  | x :: xs, y :: ys => by
    show ((x == y) && PyData.eqvAll (dstrs xs) (dstrs ys)) = _
    rw [eqv_dec xs ys, Bool.eq_iff_iff]
    simp
theorem ix_at {n : Nat} {i : Int} (h0 : 0 ≤ i) (h1 : i < n) : ixN n i = some i.toNat := by
  unfold ixN
  rw [if_pos h0, if_pos h1]
theorem Bag.le {k j : Nat} {b : Addr} {H : Hp} (h : Bag k b H) (e : j ≤ k) : Bag j b H := by
  obtain ⟨g, x, y, h, h0, h1⟩ := h
  exact ⟨g, x, y, h, h0, by omega⟩
theorem good_set {ms : List Str} {i : Nat} {m : Str} (g : Good ms) (hm : m ∈ WAYS) : Good (ms.set i m) := ⟨by rw [List.length_set]; exact g.1, fun x hx => by
  rcases List.mem_or_eq_of_mem_set hx with z | z
  · exact g.2 x z
  · rw [z]
    exact hm⟩
theorem bag_str {k : Nat} {b d : Addr} {ms : List Str} {H : Hp} (h : Bag k b H) (hl : ms.length = 9) (hd : H d = some (.lst (ms.map V.str))) : d ≠ b := fun z => by
  obtain ⟨g, x, y, e, _⟩ := h
  rw [z, e] at hd
  have q : ([V.int g, V.int x, V.int y] : List V) = ms.map V.str := HO.lst.inj (Option.some.inj hd)
  have ql := congrArg List.length q
  rw [List.length_map, hl] at ql
  cases ql
theorem str_inj : ∀ {xs ys : List Str}, xs.map V.str = ys.map V.str → xs = ys
  | [], [], _ => rfl
  | [], _ :: _, h => by cases h
  | _ :: _, [], h => by cases h
  | x :: xs, y :: ys, h => by
    rw [List.map_cons, List.map_cons] at h
    injection h with h1 h2
    injection h1 with h1
    rw [h1, str_inj h2]
theorem Book.mv2 {c : Addr} {k : Nat} {b o x : Addr} {bt : Str} {ms ns : List Str} {H H' : Hp} (h : Book c H x bt ms) (hb : Bag k b H) (ho : H o = some (.lst (ns.map V.str))) (g : Good ns) (e : Chg [b, o] H H') : Book c H' x bt ms := by
  obtain ⟨dx, T, L, h1, h2, h3⟩ := h
  have nb : ∀ {y : Addr} {u : HO}, H y = some u → (∀ xs, u ≠ .lst xs) → y ≠ b ∧ y ≠ o := fun hy hu => ⟨fun z => by
    obtain ⟨_, _, _, q, _⟩ := hb
    rw [z, q] at hy
    cases hy
    exact hu _ rfl, fun z => by
    rw [z, ho] at hy
    cases hy
    exact hu _ rfl⟩
  refine ⟨dx, T, L, e _ _ (no2 (nb h1 nofun).1 (nb h1 nofun).2) h1, e _ _ (no2 (nb h2 nofun).1 (nb h2 nofun).2) h2, e _ _ (no2 (bag_str (ms := LOOKS) hb rfl h3) fun z => ?_) h3⟩
  rw [z, ho] at h3
  have q : ns.map V.str = LOOKS.map V.str := HO.lst.inj (Option.some.inj h3)
  have q2 := str_inj q
  have := g.2 "walk" (by rw [q2]; decide)
  revert this
  decide
def dset (ms : List Str) (i : Nat) (m : Str) : List Str := ms.set i m
theorem unl_sub (ms ns : List Str) : ∀ x ∈ unl ms ns, x ∈ LOOKS := fun x hx => by
  obtain ⟨p, hp, rfl⟩ := List.mem_map.mp hx
  have q := (List.mem_filter.mp hp).1
  exact (List.of_mem_zip (show (p.1, p.2) ∈ LOOKS.zip (ms.zip ns) from q)).1
theorem unl_shaped (ms ns : List Str) : SeqAt.shaped (.tuple (dstrs (unl ms ns))) = true := by
  have h := shaped_strs (ss := unl ms ns) fun x hx => known_ok x (List.mem_append_right _ (List.mem_append_left _ (unl_sub ms ns x hx)))
  unfold SeqAt.shaped at h ⊢
  exact h
theorem unlL_comm (ls : List Str) : ∀ (ms ns : List Str), ((ls.zip (ms.zip ns)).filter fun p => decide (p.2.1 ≠ p.2.2)).map (·.1) = ((ls.zip (ns.zip ms)).filter fun p => decide (p.2.1 ≠ p.2.2)).map (·.1) := by
  induction ls with
  | nil => intro ms ns; rfl
  | cons l ls ih =>
    intro ms ns
    cases ms with
    | nil => cases ns <;> rfl
    | cons m ms =>
      cases ns with
      | nil => rfl
      | cons n ns =>
        rw [List.zip_cons_cons, List.zip_cons_cons, List.zip_cons_cons, List.zip_cons_cons, List.filter_cons, List.filter_cons]
        by_cases e : m = n
        · subst e
          simpa using ih ms ns
        · have e2 : ¬ n = m := fun z => e z.symm
          simpa [e, e2] using ih ms ns
theorem unl_comm (ms ns : List Str) : unl ms ns = unl ns ms := unlL_comm LOOKS ms ns
theorem unl_nil {ms ns : List Str} (g : ms.length = 9) (h : ns.length = 9) : unl ms ns = [] ↔ ms = ns := by
  unfold unl
  rw [List.map_eq_nil_iff, List.filter_eq_nil_iff]
  constructor
  · intro q
    refine List.ext_getElem? fun i => ?_
    rcases Nat.lt_or_ge i 9 with c | c
    · have h1 : LOOKS[i]? = some (LOOKS[i]'c) := List.getElem?_eq_getElem c
      obtain ⟨m, h2⟩ := looks_at g h1
      obtain ⟨n, h3⟩ := looks_at h h1
      have hz : (LOOKS.zip (ms.zip ns))[i]? = some (_, m, n) := List.getElem?_zip_eq_some.mpr ⟨h1, List.getElem?_zip_eq_some.mpr ⟨h2, h3⟩⟩
      have := q _ (List.mem_of_getElem? hz)
      rw [h2, h3]
      simpa using this
    · rw [List.getElem?_eq_none (by omega), List.getElem?_eq_none (by omega)]
  · rintro rfl p hp
    have q := (List.of_mem_zip (show (p.1, p.2) ∈ LOOKS.zip (ms.zip ms) from hp)).2
    have q2 : p.2.1 = p.2.2 := by
      rcases p with ⟨x, y, z⟩
      obtain ⟨i, hi⟩ := List.getElem?_of_mem q
      obtain ⟨a1, a2⟩ := List.getElem?_zip_eq_some.mp hi
      rw [a1] at a2
      exact Option.some.inj a2
    simp [q2]
mutual
theorem dp_same {K : PySem.W.Frag} {H H' : Hp} (s : Same H H') : ∀ (d : PyData) (v : V), Dp K H v d → Dp K H' v d
  | .none, _, h => by cases h; exact .non
  | .bool _, _, h => by cases h; exact .bl _
  | .int _, _, h => by cases h; exact .int _
  | .str _, _, h => by cases h; exact .str _
  | .list ds, _, h => by
    cases h with
    | lst h1 h2 => exact .lst (Same.seq s h1) (dpa_same s ds _ h2)
  | .tuple ds, _, h => by
    cases h with
    | tup h1 h2 => exact .tup (seqT_same s h1) (dpa_same s ds _ h2)
  | .dict _, _, h => by cases h
theorem dpa_same {K : PySem.W.Frag} {H H' : Hp} (s : Same H H') : ∀ (ds : List PyData) (vs : List V), DpAll K H vs ds → DpAll K H' vs ds
  | [], _, h => by cases h; exact .nil
  | d :: ds, _, h => by
    cases h with
    | cons h1 h2 => exact .cons (dp_same s d _ h1) (dpa_same s ds _ h2)
end
theorem Book.mv {c : Addr} {k : Nat} {b x : Addr} {bt : Str} {ms : List Str} {H H' : Hp} (h : Book c H x bt ms) (hb : Bag k b H) (e : Chg [b] H H') : Book c H' x bt ms := by
  obtain ⟨dx, T, L, h1, h2, h3⟩ := h
  refine ⟨dx, T, L, e _ _ (no1 fun z => ?_) h1, e _ _ (no1 fun z => ?_) h2, e _ _ (no1 (bag_str (ms := LOOKS) hb rfl h3)) h3⟩
  · obtain ⟨_, _, _, q, _⟩ := hb
    rw [z, q] at h1
    cases h1
  · obtain ⟨_, _, _, q, _⟩ := hb
    rw [z, q] at h2
    cases h2
def ths1 : List PyData := [.none, .int 0, .bool true, .str "", .str "walks", .list [.str "walk"], .tuple [.str "part"], .str "keep", .str "late", .list []]
def ths2 : List PyData := [.none, .int 0, .bool true, .str "", .str "asks", .list [.str "keep"], .tuple [.str "ask"], .str "walk", .str "early", .list []]
def ok1 (w : Str) (ls : List Str) (d : PyData) : Bool := SeqAt.shaped d && !((dstrs ls).any fun z => PyData.eqv z d) && PyData.eqv d d && SeqAt.shaped (.tuple [.str w, d])
theorem ths1_ok : ths1.all (ok1 "look" LOOKS) = true := by decide +kernel
theorem ths2_ok : ths2.all (ok1 "way" WAYS) = true := by decide +kernel
theorem okG {w : Str} {ls : List Str} {d : PyData} (h : ok1 w ls d = true) : SeqAt.shaped d = true ∧ (dstrs ls).any (fun z => PyData.eqv z d) = false ∧ PyData.eqv (.tuple [.str w, d]) (.tuple [.str w, d]) = true ∧ SeqAt.shaped (.tuple [.str w, d]) = true := by
  unfold ok1 at h
  rw [Bool.and_eq_true, Bool.and_eq_true, Bool.and_eq_true] at h
  obtain ⟨⟨⟨h1, h2⟩, h3⟩, h4⟩ := h
  refine ⟨h1, ?_, ?_, h4⟩
  · cases e : (dstrs ls).any fun z => PyData.eqv z d with
    | true =>
      rw [e] at h2
      cases h2
    | false => rfl
  · show ((w == w) && (PyData.eqv d d && true)) = true
    rw [h3, beq_self_eq_true]
    rfl
theorem ok1_ok {d : PyData} (h : ok1 "look" LOOKS d = true) : SeqAt.shaped d = true ∧ (dstrs LOOKS).any (fun z => PyData.eqv z d) = false ∧ PyData.eqv (.tuple [.str "look", d]) (.tuple [.str "look", d]) = true ∧ SeqAt.shaped (.tuple [.str "look", d]) = true := okG h
theorem ok2_ok {d : PyData} (h : ok1 "way" WAYS d = true) : SeqAt.shaped d = true ∧ (dstrs WAYS).any (fun z => PyData.eqv z d) = false ∧ PyData.eqv (.tuple [.str "way", d]) (.tuple [.str "way", d]) = true ∧ SeqAt.shaped (.tuple [.str "way", d]) = true := okG h
def spRight : Sp := fun vs H Q _ => ∃ (k : Nat) (b : Addr), vs = [.ref b] ∧ Bag (k + 100) b H ∧ ∀ H', Chg [b] H H' → Bag k b H' → Q (.bl true) H'
section
variable {P : Program} {w : World} {K : PySem.W.Frag} {mg : Str → Option Value} {base : Heap} {a : Ad}
theorem ok_right (T : Tx K mg a) (PF : PFile P "/claim/cut.py") : FnOk P w K mg base (L2.CX P w) 9 a.a__law_right a.d__law_right ["source"] spRight := by
  have G__law_book_text := ok_text (P := P) (w := w) (base := base) T
  have G__law_draw := ok_draw (P := P) (w := w) (base := base) T
  have G__law_of := ok_of (P := P) (w := w) (base := base) T
  have G__law_ways := ok_ways (P := P) (w := w) (base := base) T
  have G__law_looks := ok_looks (P := P) (w := w) (base := base) T
  have G__law_told := ok_told (P := P) (w := w) (base := base) T PF
  have G_Book_unlike := ok_unlike (P := P) (w := w) (base := base) T
  have GReq := (ok_eq (P := P) (w := w) (base := base) T PF).raw T.b_BookU_eqU .nil
  have GRstr := (ok_str (P := P) (w := w) (base := base) T PF).raw T.b_BookU_strU .nil
  have GRread := (ok_read (P := P) (w := w) (base := base) T PF).raw T.b_Book_read .nil
  have GWturn : FnW P w K mg base (L2.CX P w) 5 a.a_Book_turned (Lx.byName 1 ["look", "way"] (spTurn K a.c_Book a.c_NoLook a.c_BadBook)) := Lx.FnOk.byName (ok_turned (P := P) (w := w) (base := base) T PF) 1 ["look", "way"] (Lx.Fun.bindsW T.F_Book_turned fun kV doc pm an cdv ct us ws l1 l2 => by
    match us, ws, l1, l2 with
    | [u], [v, x], _, _ => rfl)
  have GWunl : FnW P w K mg base CX0 3 a.a_Book_unlike (Lx.byName 1 ["other"] (spUnl a.c_Book)) := Lx.FnOk.byName (ok_unlike (P := P) (w := w) (base := base) T) 1 ["other"] (Lx.Fun.bindsW T.F_Book_unlike fun kV doc pm an cdv ct us ws l1 l2 => by
    match us, ws, l1, l2 with
    | [u], [v], _, _ => rfl)
  refine T.F__law_right.okX sc__law_right (fun vs H Q E h => ?_) (fun cdv A outer s H vs Q E hr h => ?_)
  · obtain ⟨_, _, rfl, _⟩ := h
    rfl
  · obtain ⟨k, b, rfl, hb, q⟩ := h
    refine ⟨_, (pss_cons (ps_par (i := 1) (j := 2) (by rfl) sc__law_right.nd rfl rfl (by decide) rfl rfl (pa_cons (pe_call G__law_of (hr.mono (by decide)) (by rfl) T.mg__law_of T.kp__law_of T.b__law_of .nil pass0 (pa_cons (pv 0) (pa_cons (pe_lst (pa_cons pe_str (pa_cons pe_str pa_nil))) pa_nil))) (pa_cons (pe_call G__law_ways (hr.mono (by decide)) (by rfl) T.mg__law_ways T.kp__law_ways T.b__law_ways .nil pass0 (pa_cons (pv 0) pa_nil)) pa_nil)) (by rfl))
  (pss_cons (ps_set (i := 3) sc__law_right.nd rfl (Or.inl rfl) (ClX.pe_cmeth (pe_glob (v := .ref a.c_Book) (by rfl) T.mg_Book rfl) T.cr T.cm_read GRread (hr.mono (by decide)) passL (pa_cons (pe_call G__law_book_text (hr.mono (by decide)) (by rfl) T.mg__law_book_text T.kp__law_book_text T.b__law_book_text .nil pass0 (pa_cons (pv 1) (pa_cons (pv 2) pa_nil))) pa_nil)))
  (pss_cons (ps_par (i := 4) (j := 5) (by rfl) sc__law_right.nd rfl rfl (by decide) rfl rfl (pa_cons (pv 3) (pa_cons (pe_callTy call_list_of (by rfl) T.z_list (by decide +kernel) (pa_cons (pv 2) pa_nil)) pa_nil)) (by rfl))
  (pss_cons (ps_for (passes_of rfl) rfl (pi_range1 (by rfl) T.z_range (pa_cons (pe_call G__law_draw (hr.mono (by decide)) (by rfl) T.mg__law_draw T.kp__law_draw T.b__law_draw .nil pass0 (pa_cons (pv 0) (pa_cons pe_int pa_nil))) pa_nil)) (pg_name (i := 6) sc__law_right.nd rfl (Or.inl rfl))
  (pss_cons (ps_par (i := 7) (j := 8) (by rfl) sc__law_right.nd rfl rfl (by decide) rfl rfl (pa_cons (pe_call G__law_draw (hr.mono (by decide)) (by rfl) T.mg__law_draw T.kp__law_draw T.b__law_draw .nil pass0 (pa_cons (pv 0) (pa_cons pe_int pa_nil))) (pa_cons (pe_call G__law_of (hr.mono (by decide)) (by rfl) T.mg__law_of T.kp__law_of T.b__law_of .nil pass0 (pa_cons (pv 0) (pa_cons (pe_lst (pa_cons pe_str (pa_cons pe_str (pa_cons pe_str pa_nil)))) pa_nil))) pa_nil)) (by rfl))
  (pss_cons (ps_asg (pv 8) (pg_sub (pv 5) (pv 7) set_list))
  (pss_cons (ps_set (i := 9) sc__law_right.nd rfl (Or.inl rfl) (pe_callTy (call_strO ⟨T.at_BookU_strU, T.fn_BookU_strU⟩ GRstr (hr.mono (by decide)) pass0) (by rfl) T.z_str (by decide +kernel) (pa_cons (pv 4) pa_nil)))
  (pss_cons (ps_set (i := 10) sc__law_right.nd rfl (Or.inl rfl) (pe_methW0 (ks := ["look", "way"]) (pv 4) T.cl_Book T.m_Book_turned GWturn (hr.mono (by decide)) passE0 (pk_cons (pe_ix ix_list (pe_call0 G__law_looks (hr.mono (by decide)) (by rfl) T.mg__law_looks T.kp__law_looks T.b__law_looks .nil pass0) (pv 7) (fun _ _ => rfl)) (pk_cons (pv 8) pk_nil))))
  (pss_cons (ps_if (PW.pt (pw_or (pt_cmpR op_ne (pe_callTy (call_strO ⟨T.at_BookU_strU, T.fn_BookU_strU⟩ GRstr (hr.mono (by decide)) pass0) (by rfl) T.z_str (by decide +kernel) (pa_cons (pv 4) pa_nil)) (pv 9) (nomark _)) (pw_or (pt_cmpR op_ne (pe_callTy (call_strO ⟨T.at_BookU_strU, T.fn_BookU_strU⟩ GRstr (hr.mono (by decide)) pass0) (by rfl) T.z_str (by decide +kernel) (pa_cons (pv 10) pa_nil)) (pe_call G__law_book_text (hr.mono (by decide)) (by rfl) T.mg__law_book_text T.kp__law_book_text T.b__law_book_text .nil pass0 (pa_cons (pv 1) (pa_cons (pv 5) pa_nil))) (nomark _)) (pw_or1 (pt_cmpR op_ne (pe_fld (pv 10) rfl) (pv 1) (nomark _))))))
  (pss_one (ps_ret pe_bl))
  pss_nil)
  (pss_one (ps_set (i := 4) sc__law_right.nd rfl (Or.inl rfl) (pv 10)))))))))
  (pss_cons (ps_set (i := 11) sc__law_right.nd rfl (Or.inl rfl) (pe_callTy call_tuple_of (by rfl) T.z_tuple (by decide +kernel) (pa_cons (pe_lc (own := [("view", 12), ("one", 13), ("twin", 14)]) (g := gTup K 3 (gCons (gName 12) (gCons (gName 13) (gCons (gName 14) gNil)))) rfl sc__law_right.nd (pi_zipN (by rfl) T.z_zip (pa_cons (pe_call0 G__law_looks (hr.mono (by decide)) (by rfl) T.mg__law_looks T.kp__law_looks T.b__law_looks .nil pass0) (pa_cons (pv 2) (pa_cons (pv 5) pa_nil)))) (blkOk_by (own := [("view", 12), ("one", 13), ("twin", 14)]) (N := ["source", "built", "manners", "book", "turned", "due", "turn", "at", "manner", "before", "later", "unlike", "view", "one", "twin", "thing"]) (sc := defScope s__law_right) (by decide +kernel)) (fun _ _ _ _ _ => (pg_tup (by rfl) (pgs_cons (pg_name (i := 12) sc__law_right.nd rfl (Or.inl rfl)) (pgs_cons (pg_name (i := 13) sc__law_right.nd rfl (Or.inl rfl)) (pgs_cons (pg_name (i := 14) sc__law_right.nd rfl (Or.inl rfl)) pgs_nil))))) (fun _ _ _ _ _ => (pts_one (pt_cmpR op_ne (pv 13) (pv 14) (nomark _)))) (fun _ _ _ _ _ => (pv 12))) pa_nil)))
  (pss_cons (ps_if (PW.pt (pw_or (pt_cmpR (op_neD hr.units) (pe_meth (pv 3) T.cl_Book T.m_Book_unlike G_Book_unlike (hr.mono (by decide)) T.b_Book_unlike .nil pass0 (pa_cons (pv 4) pa_nil)) (pv 11) (nomark _)) (pw_or1 (pt_cmpR (op_neD hr.units) (pe_methW0 (ks := ["other"]) (E := fun _ => E0) (pv 4) T.cl_Book T.m_Book_unlike GWunl (hr.mono (by decide)) passN0 (pk_cons (pv 3) pk_nil)) (pv 11) (nomark _)))))
  (pss_one (ps_ret pe_bl))
  pss_nil)
  (pss_cons (ps_set (i := 14) sc__law_right.nd rfl (Or.inl rfl) (ClX.pe_cmeth (pe_glob (v := .ref a.c_Book) (by rfl) T.mg_Book rfl) T.cr T.cm_read GRread (hr.mono (by decide)) passL (pa_cons (pe_call G__law_book_text (hr.mono (by decide)) (by rfl) T.mg__law_book_text T.kp__law_book_text T.b__law_book_text .nil pass0 (pa_cons pe_str (pa_cons (pv 5) pa_nil))) pa_nil)))
  (pss_cons (ps_if (PW.pt (pw_or (pt_cmpR (op_neD hr.units) (pe_meth (pv 3) T.cl_Book T.m_Book_unlike G_Book_unlike (hr.mono (by decide)) T.b_Book_unlike .nil pass0 (pa_cons (pv 14) pa_nil)) (pv 11) (nomark _)) (pw_or (pt_cmpR (op_neD hr.units) (pe_meth (pv 3) T.cl_Book T.m_Book_unlike G_Book_unlike (hr.mono (by decide)) T.b_Book_unlike .nil pass0 (pa_cons (pv 3) pa_nil)) (pe_tup pa_nil) (nomark _)) (pw_or1 (pt_cmpR op_ne (pe_cmpR (op_eqO ⟨T.at_BookU_eqU, T.fn_BookU_eqU⟩ GReq (hr.mono (by decide)) pass0) (pv 3) (pv 4) (nomark _)) (pe_cmpR (op_eqD hr.units) (pv 11) (pe_tup pa_nil) (nomark _)) (nomark _))))))
  (pss_one (ps_ret pe_bl))
  pss_nil)
  (pss_cons (ps_par (i := 12) (j := 8) (by rfl) sc__law_right.nd rfl rfl (by decide) rfl rfl (pa_cons (pe_call G__law_of (hr.mono (by decide)) (by rfl) T.mg__law_of T.kp__law_of T.b__law_of .nil pass0 (pa_cons (pv 0) (pa_cons (pe_call0 G__law_looks (hr.mono (by decide)) (by rfl) T.mg__law_looks T.kp__law_looks T.b__law_looks .nil pass0) pa_nil))) (pa_cons (pe_call G__law_of (hr.mono (by decide)) (by rfl) T.mg__law_of T.kp__law_of T.b__law_of .nil pass0 (pa_cons (pv 0) (pa_cons (pe_lst (pa_cons pe_str (pa_cons pe_str (pa_cons pe_str pa_nil)))) pa_nil))) pa_nil)) (by rfl))
  (pss_cons (ps_for (passes_of rfl) rfl (pi_list (pe_lst (pa_cons pe_non (pa_cons pe_int (pa_cons pe_bl (pa_cons pe_str (pa_cons pe_str (pa_cons (pe_lst (pa_cons pe_str pa_nil)) (pa_cons (pe_tup (pa_cons pe_str pa_nil)) (pa_cons pe_str (pa_cons pe_str (pa_cons (pe_lst pa_nil) pa_nil)))))))))))) (pg_name (i := 15) sc__law_right.nd rfl (Or.inl rfl))
  (pss_one (ps_if (PW.pt (pw_or (pt_cmpR (op_neD hr.units) (pe_call G__law_told (hr.mono (by decide)) (by rfl) T.mg__law_told T.kp__law_told T.b__law_told .nil passL (pa_cons (pv 3) (pa_cons (pv 15) (pa_cons (pv 8) pa_nil)))) (pe_tup (pa_cons pe_str (pa_cons (pv 15) pa_nil))) (nomark _)) (pw_or1 (pt_cmpR (op_neD hr.units) (pe_call G__law_told (hr.mono (by decide)) (by rfl) T.mg__law_told T.kp__law_told T.b__law_told .nil passL (pa_cons (pv 3) (pa_cons (pv 15) (pa_cons (pv 15) pa_nil)))) (pe_tup (pa_cons pe_str (pa_cons (pv 15) pa_nil))) (nomark _)))))
  (pss_one (ps_ret pe_bl))
  pss_nil)))
  (pss_cons (ps_for (passes_of rfl) rfl (pi_list (pe_lst (pa_cons pe_non (pa_cons pe_int (pa_cons pe_bl (pa_cons pe_str (pa_cons pe_str (pa_cons (pe_lst (pa_cons pe_str pa_nil)) (pa_cons (pe_tup (pa_cons pe_str pa_nil)) (pa_cons pe_str (pa_cons pe_str (pa_cons (pe_lst pa_nil) pa_nil)))))))))))) (pg_name (i := 15) sc__law_right.nd rfl (Or.inl rfl))
  (pss_one (ps_if (pt_cmpR (op_neD hr.units) (pe_call G__law_told (hr.mono (by decide)) (by rfl) T.mg__law_told T.kp__law_told T.b__law_told .nil passL (pa_cons (pv 3) (pa_cons (pv 12) (pa_cons (pv 15) pa_nil)))) (pe_tup (pa_cons pe_str (pa_cons (pv 15) pa_nil))) (nomark _))
  (pss_one (ps_ret pe_bl))
  pss_nil)))
  (pss_one (ps_ret (pe_cmpR op_eq (pe_callTy (call_strO ⟨T.at_BookU_strU, T.fn_BookU_strU⟩ GRstr (hr.mono (by decide)) pass0) (by rfl) T.z_str (by decide +kernel) (pa_cons (pv 3) pa_nil)) (pe_call G__law_book_text (hr.mono (by decide)) (by rfl) T.mg__law_book_text T.kp__law_book_text T.b__law_book_text .nil pass0 (pa_cons (pv 1) (pa_cons (pv 2) pa_nil))) (nomark _))))))))))))))), ?_⟩
    refine ⟨_, rfl, by decide, fun p np => ⟨k + 99, b, p, BUILTS, rfl, hb.same (Lx.Same.new np), hb.ne np, upd_same, by decide, by decide, fun bt H1 hbt hb1 c1 => ?_⟩⟩
    have d1 : Chg [b] H H1 := (Chg.of (Lx.Same.new np)).trans c1
    refine ⟨_, rfl, k + 90, b, rfl, hb1, fun l ms H3 g nl hl3 lb hb3 c2 => ⟨_, _, rfl, ?_⟩⟩
    have d3 : Chg [b] H H3 := d1.trans c2
    refine ⟨rfl, _, rfl, _, rfl, bt, l, ms, rfl, hbt, g, hl3, fun H4 s4 => ⟨bt, ms, rfl, hbt, g, fun b5 H5 hB5 s5 => ?_⟩⟩
    have s35 := s4.trans s5
    have hl5 := s35 _ _ hl3
    have hb5 := hb3.same s35
    have d5 := d3.trans (Chg.of s35)
    have d5' := d5
    refine ⟨_, rfl, _, rfl, l, _, rfl, .inl (SqL.of hl5), fun o no => ⟨_, _, rfl, ?_⟩⟩
    have ob : o ≠ b := hb5.ne no
    have ol : o ≠ l := none_ne hl5 no
    have sA : Same H5 (upd H5 o (.lst (ms.map V.str))) := Lx.Same.new no
    refine ⟨_, rfl, k + 89, b, 13, rfl, hb5.same sA, by decide, by decide, fun r HB r0 r1 hbB cB => ?_⟩
    have hoB : HB o = some (.lst (ms.map V.str)) := cB _ _ (no1 ob) upd_same
    have hlB : HB l = some (.lst (ms.map V.str)) := cB _ _ (no1 lb) (sA _ _ hl5)
    have hBB : Book a.c_Book HB b5 bt ms := (hB5.same sA).mv2 (hb5.same sA) upd_same g (cB.mono fun x hx => List.mem_cons.mpr (.inl (List.mem_singleton.mp hx)))
    have dB : Chg [b] H HB := (d5.trans (Chg.of sA)).trans cB
    let Inv : Nat → L2.St → Hp → Prop := fun i σ H' => Chg [b, o] HB H' ∧ Bag (k + 20 + 2 * (r.toNat - i)) b H' ∧ ∃ (t : Addr) (ns : List Str) (v6 v7 v8 v9 v10 : Option V), Good ns ∧ H' o = some (.lst (ns.map V.str)) ∧ Book a.c_Book H' t bt ns ∧ Book a.c_Book H' b5 bt ms ∧ σ = [some (.ref b), some (.str bt), some (.ref l), some (.ref b5), some (.ref t), some (.ref o), v6, v7, v8, v9, v10, none, none, none, none, none]
    refine ⟨_, rfl, by omega, by omega, for_it walk_range Inv ⟨fun _ _ _ e => e, hbB.le (by omega), b5, ms, none, none, none, none, none, g, hoB, hBB, hBB, rfl⟩ (fun _ _ _ _ _ => trivial) ?_ ?_⟩
    · rintro i x σ Hi0 Hi hi ⟨ci, hbi, t, ns, v6, v7, v8, v9, v10, gn, hoi, hTi, hBi, rfl⟩ ⟨rfl, rfl⟩
      have hbi2 : Bag (k + 20 + 2 * (r.toNat - (i + 1)) + 2) b Hi := hbi.le (by omega)
      generalize hkk : k + 20 + 2 * (r.toNat - (i + 1)) = kk at hbi2
      refine ⟨_, rfl, kk + 1, b, 9, rfl, hbi2, by decide, by decide, fun at_ H1' a0 a9 hb1' c1' => ⟨_, rfl, by decide, fun p' np' => ⟨kk, b, p', WAYS, rfl, hb1'.same (Lx.Same.new np'), hb1'.ne np', upd_same, by decide, by decide, fun m H2' hm hb2' c2' => ⟨_, _, rfl, ?_⟩⟩⟩⟩
      have c02 : Chg [b] Hi H2' := (c1'.trans (Chg.of (Lx.Same.new np'))).trans c2'
      have hmW : m ∈ WAYS := hm
      have ho2 : H2' o = some (.lst (ns.map V.str)) := c02 _ _ (no1 ob) hoi
      have w1 : ∀ x ∈ [b], x ∈ [b, o] := fun x hx => List.mem_cons.mpr (.inl (List.mem_singleton.mp hx))
      have hT2 := hTi.mv2 hbi hoi gn (c02.mono w1)
      have hB2 := hBi.mv2 hbi hoi gn (c02.mono w1)
      have ai : at_.toNat < 9 := by omega
      have ae : (at_.toNat : Int) = at_ := Int.toNat_of_nonneg a0
      refine ⟨_, rfl, _, rfl, _, rfl, o, _, at_, at_.toNat, rfl, rfl, ho2, ix_at a0 (by rw [List.length_map, gn.1]; exact a9), ?_⟩
      have c3 : Chg [b, o] H2' (upd H2' o (.lst ((ns.map V.str).set at_.toNat (.str m)))) := Chg.updm (by simp)
      have hT3 := hT2.mv2 hb2' ho2 gn c3
      have hB3 := hB2.mv2 hb2' ho2 gn c3
      have hb3' : Bag kk b (upd H2' o (.lst ((ns.map V.str).set at_.toNat (.str m)))) := hb2'.mv (S := [o]) (no1 ob.symm) Chg.upd
      have ho3 : upd H2' o (.lst ((ns.map V.str).set at_.toNat (.str m))) o = some (.lst ((ns.set at_.toNat m).map V.str)) := by
        rw [upd_same, List.map_set]
      have gn3 : Good (ns.set at_.toNat m) := good_set gn hmW
      have c03 : Chg [b, o] HB (upd H2' o (.lst ((ns.map V.str).set at_.toNat (.str m)))) := (ci.trans (c02.mono w1)).trans c3
      generalize upd H2' o (.lst ((ns.map V.str).set at_.toNat (.str m))) = H3' at c3 hT3 hB3 hb3' ho3 c03 ⊢
      have hT30 := hT3
      obtain ⟨dt, TTt, Lt, e1, _, _⟩ := hT30
      refine ⟨_, rfl, t, dt, _, rfl, e1, t, bt, ns, rfl, hT3, hbt, gn, fun H4' s4' => ⟨⟨_, rfl⟩, ?_⟩⟩
      have e4 := s4' _ _ e1
      refine ⟨_, rfl, t, dt, _, rfl, e4, rfl, rfl, fun l5 H5' nl5 hl5' s5' => ?_⟩
      obtain ⟨lk, hlk⟩ : ∃ lk, LOOKS[at_.toNat]? = some lk := ⟨_, List.getElem?_eq_getElem (show at_.toNat < LOOKS.length from ai)⟩
      have hat : atI (LOOKS.map V.str) at_ = some (.str lk) := by
        have q := atI_nat (xs := LOOKS.map V.str) (j := at_.toNat) (v := V.str lk) (by rw [List.getElem?_map, hlk]; rfl)
        rw [ae] at q
        exact q
      have s35' := s4'.trans s5'
      refine ⟨_, rfl, l5, _, at_, _, rfl, rfl, SqL.of hl5', hat, _, rfl, ⟨rfl, rfl, t, .str lk, .str m, bt, ns, .str lk, .str m, rfl, hT3.same s35', hbt, gn, .str _, shaped_str (known_ok _ (List.mem_append_right _ (List.mem_append_left _ (List.mem_of_getElem? hlk)))), .str _, shaped_str (known_ok _ (List.mem_append_right _ (List.mem_append_right _ hmW))), .inr ⟨at_.toNat, lk, rfl, rfl, hlk, .inr ⟨m, rfl, rfl, hmW, fun b6 H6' hB6 s6' => ?_⟩⟩⟩⟩
      have s36' := s35'.trans s6'
      have hT6 := hT3.same s36'
      have hT60 := hT6
      obtain ⟨dt6, TTt6, Lt6, e6, _, _⟩ := hT60
      refine ⟨_, rfl, t, dt6, _, rfl, e6, t, bt, ns, rfl, hT6, hbt, gn, fun H7' s7' => ⟨⟨_, rfl⟩, _, rfl, rfl, _, rfl, if_false_of (by simp) ?_⟩⟩
      have hB67 := hB6.same s7'
      have hB670 := hB67
      obtain ⟨db, TTb, Lb, e7, _, _⟩ := hB670
      refine ⟨_, rfl, b6, db, _, rfl, e7, b6, bt, _, rfl, hB67, hbt, gn3, fun H8' s8' => ⟨⟨_, rfl⟩, _, rfl, _, rfl, bt, o, _, rfl, hbt, gn3, s8' _ _ (s7' _ _ (s36' _ _ ho3)), fun H9' s9' => ⟨rfl, _, rfl, if_false_of (by simp) ?_⟩⟩⟩
      have hB69 := (hB67.same s8').same s9'
      have s39' := ((s36'.trans s7').trans s8').trans s9'
      have hB690 := hB69
      obtain ⟨db9, TTb9, Lb9, e9, _, _⟩ := hB690
      refine ⟨_, rfl, b6, a.c_Book, db9, _, _, rfl, e9, T.cl_Book, T.na_Book_built, rfl, _, rfl, rfl, _, rfl, if_false_of (by simp) ?_⟩
      exact ⟨_, rfl, c03.trans (Chg.of s39'), (by rw [hkk]; exact hb3'.same s39'), b6, _, _, _, _, _, _, gn3, s39' _ _ ho3, hB69, hB3.same s39', rfl⟩
    · rintro σ HC ⟨cC, hbC, t, ns, v6, v7, v8, v9, v10, gn, hoC, hTC, hBC, rfl⟩
      have hbC := hbC.le (show k + 20 ≤ _ by omega)
      have dC : Chg [b] H HC := fun y u ny hy => by
        have q5 := d5 _ _ ny hy
        exact cC _ _ (no2 (fun z => ny (List.mem_singleton.mpr z)) (none_ne q5 no).symm) (dB _ _ ny hy)
      have hlC : HC l = some (.lst (ms.map V.str)) := cC _ _ (no2 lb ol.symm) hlB
      have l9 : (LOOKS.map V.str).length = 9 := rfl
      have m9 : (ms.map V.str).length = 9 := by rw [List.length_map, g.1]
      have n9 : (ns.map V.str).length = 9 := by rw [List.length_map, gn.1]
      refine ⟨rfl, fun L1 HD nL1 hL1 sD => ⟨_, rfl, _, rfl, [(L1, false), (l, false), (o, false)], rfl, .inr rfl, ?_, fun D nD => lc_it (walk_zip3 (K := K) (p := (L1, false)) (q := (l, false)) (r := (o, false)) l9 m9 n9) (fun i H' => Same HD H' ∧ H' D = some (.lst (((((LOOKS.zip (ms.zip ns)).take i).filter fun p => decide (p.2.1 ≠ p.2.2)).map (·.1)).map V.str))) ⟨Lx.Same.new nD, upd_same⟩ (fun i H' _ h => ⟨SqL.of (h.1 _ _ hL1), SqL.of (h.1 _ _ (sD _ _ hlC)), SqL.of (h.1 _ _ (sD _ _ hoC))⟩) ?_ ?_⟩⟩
      · intro p hp
        rcases List.mem_cons.mp hp with rfl | hp
        · exact ⟨_, SqL.of hL1⟩
        rcases List.mem_cons.mp hp with rfl | hp
        · exact ⟨_, SqL.of (sD _ _ hlC)⟩
        · obtain rfl := List.mem_singleton.mp hp
          exact ⟨_, SqL.of (sD _ _ hoC)⟩
      · rintro i y H2 H3 hi ⟨s2, hD⟩ ⟨tt, u1, u2, u3, rfl, nt, rfl, f1, f2, f3⟩
        obtain ⟨lk, hl1, rfl⟩ := get_str f1
        obtain ⟨m, h1, rfl⟩ := get_str f2
        obtain ⟨n, h2, rfl⟩ := get_str f3
        have hz : (LOOKS.zip (ms.zip ns))[i]? = some (lk, m, n) := List.getElem?_zip_eq_some.mpr ⟨hl1, List.getElem?_zip_eq_some.mpr ⟨h1, h2⟩⟩
        have hD2 := (Lx.Same.new (o := .tup [V.str lk, V.str m, V.str n]) nt) _ _ hD
        refine ⟨tt, _, rfl, SqT.of upd_same, rfl, _, _, rfl, _, _, rfl, _, _, rfl, rfl, rfl, _, rfl, _, rfl, rfl, _, rfl, ?_⟩
        by_cases q : m = n
        · refine if_false_of (by simp [q]) ⟨s2.trans (Lx.Same.new nt), ?_⟩
          rw [List.take_add_one, hz, List.filter_append]
          simpa [q] using hD2
        · refine if_true_of (by simp [q]) ⟨_, rfl, _, hD2, ?_, Lx.Same.mut (s2.trans (Lx.Same.new nt)) nD, ?_⟩
          · rw [List.length_map, List.length_map, sizeLine_eq]
            exact Nat.lt_of_le_of_lt (List.length_filter_le ..) (Nat.lt_of_le_of_lt (List.length_take_le' ..) (by rw [List.length_zip]; exact Nat.lt_of_le_of_lt (Nat.min_le_left ..) (by decide)))
          · rw [upd_same, List.take_add_one, hz, List.filter_append]
            simp [q]
      rintro HE ⟨sE, hD⟩
      rw [List.take_of_length_le (by rw [List.length_zip]; exact Nat.min_le_left ..)] at hD
      refine ⟨D, _, rfl, .inl ⟨SqL.of hD, fun U nU => ?_⟩⟩
      have hU : upd HE U (.tup ((unl ms ns).map V.str)) U = some (.tup ((unl ms ns).map V.str)) := upd_same
      have sCF : Same HC (upd HE U (.tup ((unl ms ns).map V.str))) := (sD.trans sE).trans (Lx.Same.new nU)
      have hUU : upd HE U (.tup ((((LOOKS.zip (ms.zip ns)).filter fun p => decide (p.2.1 ≠ p.2.2)).map (·.1)).map V.str)) = upd HE U (.tup ((unl ms ns).map V.str)) := rfl
      rw [hUU]
      generalize upd HE U (.tup ((unl ms ns).map V.str)) = HF at hU sCF ⊢
      have hBF := hBC.same sCF
      have hTF := hTC.same sCF
      have hBF0 := hBF
      obtain ⟨d5, T5, L5, e5, _, _⟩ := hBF0
      have shU : SeqAt.shaped (.tuple (dstrs (unl ms ns))) = true := unl_shaped ms ns
      have eqU : PyData.eqv (.tuple (dstrs (unl ms ns))) (.tuple (dstrs (unl ms ns))) = true := eqv_strs _
      refine ⟨_, rfl, b5, d5, _, rfl, e5, rfl, _, rfl, b5, t, bt, bt, ms, ns, rfl, hBF, hTF, g.1, gn.1, fun u1 HG hu1 sG => ⟨_, rfl, .tuple (dstrs (unl ms ns)), .tuple (dstrs (unl ms ns)), .tup (SqT.of hu1) (dp_strs _), .tup (SqT.of (sG _ _ hU)) (dp_strs _), shU, shU, _, rfl, if_false_of (by rw [eqU]; rfl) ?_⟩⟩
      have hTG := hTF.same sG
      have hTG0 := hTG
      obtain ⟨d6, T6, L6, e6, _, _⟩ := hTG0
      have hBG := hBF.same sG
      refine ⟨_, rfl, t, d6, _, rfl, e6, rfl, _, rfl, rfl, rfl, t, b5, bt, bt, ns, ms, rfl, hTG, hBG, gn.1, g.1, fun u2 HH hu2 sH => ?_⟩
      rw [← unl_comm] at hu2
      refine ⟨_, rfl, .tuple (dstrs (unl ms ns)), .tuple (dstrs (unl ms ns)), .tup (SqT.of hu2) (dp_strs _), .tup (SqT.of (sH _ _ (sG _ _ hU))) (dp_strs _), shU, shU, _, rfl, if_false_of (by rw [eqU]; rfl) ?_⟩
      have sFH := sG.trans sH
      have hoH : HH o = some (.lst (ns.map V.str)) := sFH _ _ (sCF _ _ hoC)
      refine ⟨rfl, _, rfl, "late", o, ns, rfl, by decide, gn, hoH, fun HI sI => ⟨"late", ns, rfl, by decide, gn, fun w1 HJ hW1 sJ => ?_⟩⟩
      have sFJ := (sFH.trans sI).trans sJ
      have hBJ := hBF.same sFJ
      have hBJ0 := hBJ
      obtain ⟨d7, T7, L7, e7, _, _⟩ := hBJ0
      refine ⟨_, rfl, b5, d7, _, rfl, e7, rfl, _, rfl, b5, w1, bt, "late", ms, ns, rfl, hBJ, hW1, g.1, gn.1, fun u3 HK hu3 sK => ⟨_, rfl, .tuple (dstrs (unl ms ns)), .tuple (dstrs (unl ms ns)), .tup (SqT.of hu3) (dp_strs _), .tup (SqT.of (sK _ _ (sFJ _ _ hU))) (dp_strs _), shU, shU, _, rfl, if_false_of (by rw [eqU]; rfl) ?_⟩⟩
      have hBK := hBJ.same sK
      have hBK0 := hBK
      obtain ⟨d8, T8, L8, e8, _, _⟩ := hBK0
      have shN : SeqAt.shaped (.tuple (dstrs [])) = true := by decide
      refine ⟨_, rfl, b5, d8, _, rfl, e8, rfl, _, rfl, b5, b5, bt, bt, ms, ms, rfl, hBK, hBK, g.1, g.1, fun u4 HL hu4 sL => ⟨by decide, fun p9 np9 => ⟨.tuple (dstrs []), .tuple (dstrs []), .tup (SqT.of ?_) (dp_strs _), .tup (SqT.of upd_same) (dp_strs []), shN, shN, _, rfl, if_false_of (by decide) ?_⟩⟩⟩
      · have e := (unl_nil g.1 g.1).mpr rfl
        rw [e] at hu4
        exact (Lx.Same.new np9) _ _ hu4
      have sKM := sL.trans (Lx.Same.new (o := .tup []) np9)
      have sFM := (sFJ.trans sK).trans sKM
      have hTM := hTF.same sFM
      have hBM := hBF.same sFM
      have hTM0 := hTM
      have hBM0 := hBM
      obtain ⟨d9, T9, L9, e9, _, _⟩ := hBM0
      obtain ⟨d10, T10, L10, e10, _, _⟩ := hTM0
      have tyB : ∀ {H' : Hp} {x e : Addr} {fs : List (Str × V)}, H' x = some (.ins a.c_Book e fs) → TyX K H' (.ref x) (.ref a.c_Book) := fun h => .base (.ins h T.cl_Book T.ci_at T.ci_get T.ci_tk T.nec.mro)
      refine ⟨_, rfl, _, rfl, b5, d9, _, .ref a.c_Book, rfl, e9, tyB e10, T.nf_B, b5, .ref t, bt, ms, rfl, hBM, g.1, .inl ⟨t, bt, ns, rfl, hTM, gn.1, ?_⟩⟩
      refine ⟨_, rfl, _, rfl, by decide, fun p11 np11 => ⟨.tuple (dstrs (unl ms ns)), .tuple (dstrs []), .tup (SqT.of ((Lx.Same.new np11) _ _ (sFM _ _ hU))) (dp_strs _), .tup (SqT.of upd_same) (dp_strs []), shU, shN, rfl, _, rfl, if_false_of ?_ ?_⟩⟩
      · have e1 : PyData.eqv (.tuple (dstrs (unl ms ns))) (.tuple (dstrs [])) = decide (unl ms ns = []) := eqv_dec _ _
        rw [e1]
        have e2 : decide (bt = bt ∧ ms = ns) = decide (unl ms ns = []) := by
          rw [decide_eq_decide, unl_nil g.1 gn.1]
          exact ⟨fun h => h.2, fun h => ⟨rfl, h⟩⟩
        have e3 : ∀ x y : Bool, x = y → (!decide (V.bl (if false = true then !x else x) = V.bl y)) = false := fun x y h => by
          subst h
          cases x <;> rfl
        exact e3 _ _ e2
      have sFN := sFM.trans (Lx.Same.new (o := .tup []) np11)
      generalize upd (upd HL p9 (.tup [])) p11 (.tup []) = HN at sFN ⊢
      have sCN := sCF.trans sFN
      have hbN := hbC.same sCN
      have hBN := hBC.same sCN
      have dN := dC.trans (Chg.of sCN)
      have hlN := sCN _ _ hlC
      refine ⟨_, rfl, rfl, fun lv HO1 nlv hlv sO1 => ⟨k + 19, b, lv, LOOKS, rfl, hbN.same sO1, hbN.ne nlv, hlv, by decide, by decide, fun view HO2 hview hbO2 cO2 => ⟨_, rfl, by decide, fun pm npm => ⟨k + 18, b, pm, WAYS, rfl, hbO2.same (Lx.Same.new npm), hbO2.ne npm, upd_same, by decide, by decide, fun mn HP hmn hbP cP => ⟨_, _, rfl, ?_⟩⟩⟩⟩⟩
      have cNP : Chg [b] HN HP := (((Chg.of sO1).trans cO2).trans (Chg.of (Lx.Same.new npm))).trans cP
      have dP := dN.trans cNP
      have hBP : Book a.c_Book HP b5 bt ms := hBN.mv hbN cNP
      have hlP : HP l = some (.lst (ms.map V.str)) := cNP _ _ (no1 lb) hlN
      have hmnW : mn ∈ WAYS := hmn
      obtain ⟨iv, hiv⟩ := List.getElem?_of_mem hview
      refine ⟨by decide, fun p1 n1 => ⟨by decide, fun p2 n2 => ⟨by decide, fun p3 n3 => ⟨(by show 10 ≤ sizeLine; decide), fun S nS => ?_⟩⟩⟩⟩
      let VS : List V := [.non, .int 0, .bl true, .str "", .str "walks", .ref p1, .ref p2, .str "keep", .str "late", .ref p3]
      let HQ : Hp := upd (upd (upd (upd HP p1 (.lst [V.str "walk"])) p2 (.tup [V.str "part"])) p3 (.lst [])) S (.lst VS)
      have ss : Same HP HQ := (((Lx.Same.new n1).trans (Lx.Same.new n2)).trans (Lx.Same.new n3)).trans (Lx.Same.new nS)
      have hS : HQ S = some (.lst VS) := upd_same
      have hp1 : HQ p1 = some (.lst [V.str "walk"]) := (((Lx.Same.new n2).trans (Lx.Same.new n3)).trans (Lx.Same.new nS)) _ _ upd_same
      have hp2 : HQ p2 = some (.tup [V.str "part"]) := ((Lx.Same.new n3).trans (Lx.Same.new nS)) _ _ upd_same
      have hp3 : HQ p3 = some (.lst []) := (Lx.Same.new nS) _ _ upd_same
      have hv : DpAll K HQ VS ths1 :=
        .cons .non (.cons (.int 0) (.cons (.bl true) (.cons (.str _) (.cons (.str _) (.cons (.lst (SqL.of hp1) (.cons (.str _) .nil)) (.cons (.tup (SqT.of hp2) (.cons (.str _) .nil)) (.cons (.str _) (.cons (.str _) (.cons (.lst (SqL.of hp3) .nil) .nil)))))))))
      have shm : SeqAt.shaped (.str mn) = true := shaped_str (known_ok _ (List.mem_append_right _ (List.mem_append_right _ hmnW)))
      have shv : SeqAt.shaped (.str view) = true := shaped_str (known_ok _ (List.mem_append_right _ (List.mem_append_left _ hview)))
      refine ⟨S, rfl, ⟨_, SqL.of hS⟩, for_it (walk_list (K := K) (a := S) (xs := VS)) (fun i σ H' => Same HQ H' ∧ ∃ v6 v7 v9 v10 v15, σ = [some (.ref b), some (.str bt), some (.ref l), some (.ref b5), some (.ref t), some (.ref o), v6, v7, some (.str mn), v9, v10, some (.ref U), some (.str view), none, some (.ref w1), v15]) ⟨fun _ _ e => e, v6, v7, v9, v10, none, rfl⟩ (fun _ _ _ _ h => SqL.of (h.1 _ _ hS)) ?_ ?_⟩
      · rintro i y σ H1' H2' hi ⟨s1', w6, w7, w9, w10, w15, rfl⟩ ⟨rfl, hy⟩
        obtain ⟨d, hd1, hd⟩ := dpa_get hv hy
        obtain ⟨o1, o2, o3, o4⟩ := ok1_ok (List.all_eq_true.mp ths1_ok d (List.mem_of_getElem? hd1))
        have s0 := ss.trans s1'
        have hB0 := hBP.same s0
        have hd2 := dp_same s1' d y hd
        refine ⟨_, rfl, _, rfl, _, rfl, b5, y, .str mn, bt, ms, d, .str mn, rfl, hB0, hbt, g, hd2, o1, .str _, shm, .inl ⟨o2, fun p4 H3' hp4 np4 s3' => ⟨_, rfl, (by show 2 ≤ sizeLine; decide), fun p5 np5 => ?_⟩⟩⟩
        have s5' := s3'.trans (Lx.Same.new (o := .tup [V.str "look", y]) np5)
        have hd5 := dp_same s5' d y hd2
        refine ⟨.tuple [.str "look", d], .tuple [.str "look", d], .tup (SqT.of ((Lx.Same.new np5) _ _ hp4)) (.cons (.str _) (.cons hd5 .nil)), .tup (SqT.of upd_same) (.cons (.str _) (.cons hd5 .nil)), o4, o4, _, rfl, if_false_of (by rw [o3]; rfl) ?_⟩
        refine ⟨_, rfl, _, rfl, _, rfl, b5, y, y, bt, ms, d, d, rfl, hB0.same s5', hbt, g, hd5, o1, hd5, o1, .inl ⟨o2, fun p6 H6' hp6 np6 s6' => ⟨_, rfl, (by show 2 ≤ sizeLine; decide), fun p7 np7 => ?_⟩⟩⟩
        have s7' := s6'.trans (Lx.Same.new (o := .tup [V.str "look", y]) np7)
        have hd7 := dp_same s7' d y hd5
        refine ⟨.tuple [.str "look", d], .tuple [.str "look", d], .tup (SqT.of ((Lx.Same.new np7) _ _ hp6)) (.cons (.str _) (.cons hd7 .nil)), .tup (SqT.of upd_same) (.cons (.str _) (.cons hd7 .nil)), o4, o4, _, rfl, if_false_of (by rw [o3]; rfl) ?_⟩
        exact ⟨(s1'.trans s5').trans s7', _, _, _, _, _, rfl⟩
      rintro σ HR ⟨sQR, w6, w7, w9, w10, w15, rfl⟩
      have sPR := ss.trans sQR
      have hBR := hBP.same sPR
      have hlR := sPR _ _ hlP
      have dR := dP.trans (Chg.of sPR)
      have hbR := hbP.same sPR
      refine ⟨by decide, fun q1 m1 => ⟨by decide, fun q2 m2 => ⟨by decide, fun q3 m3 => ⟨(by show 10 ≤ sizeLine; decide), fun S2 nS2 => ?_⟩⟩⟩⟩
      let VT : List V := [.non, .int 0, .bl true, .str "", .str "asks", .ref q1, .ref q2, .str "walk", .str "early", .ref q3]
      let HS : Hp := upd (upd (upd (upd HR q1 (.lst [V.str "keep"])) q2 (.tup [V.str "ask"])) q3 (.lst [])) S2 (.lst VT)
      have st : Same HR HS := (((Lx.Same.new m1).trans (Lx.Same.new m2)).trans (Lx.Same.new m3)).trans (Lx.Same.new nS2)
      have hS2 : HS S2 = some (.lst VT) := upd_same
      have hq1 : HS q1 = some (.lst [V.str "keep"]) := (((Lx.Same.new m2).trans (Lx.Same.new m3)).trans (Lx.Same.new nS2)) _ _ upd_same
      have hq2 : HS q2 = some (.tup [V.str "ask"]) := ((Lx.Same.new m3).trans (Lx.Same.new nS2)) _ _ upd_same
      have hq3 : HS q3 = some (.lst []) := (Lx.Same.new nS2) _ _ upd_same
      have hv2 : DpAll K HS VT ths2 :=
        .cons .non (.cons (.int 0) (.cons (.bl true) (.cons (.str _) (.cons (.str _) (.cons (.lst (SqL.of hq1) (.cons (.str _) .nil)) (.cons (.tup (SqT.of hq2) (.cons (.str _) .nil)) (.cons (.str _) (.cons (.str _) (.cons (.lst (SqL.of hq3) .nil) .nil)))))))))
      refine ⟨S2, rfl, ⟨_, SqL.of hS2⟩, for_it (walk_list (K := K) (a := S2) (xs := VT)) (fun i σ H' => Same HS H' ∧ ∃ v15, σ = [some (.ref b), some (.str bt), some (.ref l), some (.ref b5), some (.ref t), some (.ref o), w6, w7, some (.str mn), w9, w10, some (.ref U), some (.str view), none, some (.ref w1), v15]) ⟨fun _ _ e => e, w15, rfl⟩ (fun _ _ _ _ h => SqL.of (h.1 _ _ hS2)) ?_ ?_⟩
      · rintro i y σ H1' H2' hi ⟨s1', x15, rfl⟩ ⟨rfl, hy⟩
        obtain ⟨d, hd1, hd⟩ := dpa_get hv2 hy
        obtain ⟨o1, o2, o3, o4⟩ := ok2_ok (List.all_eq_true.mp ths2_ok d (List.mem_of_getElem? hd1))
        have s0 := st.trans s1'
        have hB0 := hBR.same s0
        have hd2 := dp_same s1' d y hd
        refine ⟨_, rfl, _, rfl, _, rfl, b5, .str view, y, bt, ms, .str view, d, rfl, hB0, hbt, g, .str _, shv, hd2, o1, .inr ⟨iv, view, rfl, rfl, hiv, o2, fun p4 H3' hp4 np4 s3' => ⟨_, rfl, (by show 2 ≤ sizeLine; decide), fun p5 np5 => ?_⟩⟩⟩
        have s5' := s3'.trans (Lx.Same.new (o := .tup [V.str "way", y]) np5)
        have hd5 := dp_same s5' d y hd2
        refine ⟨.tuple [.str "way", d], .tuple [.str "way", d], .tup (SqT.of ((Lx.Same.new np5) _ _ hp4)) (.cons (.str _) (.cons hd5 .nil)), .tup (SqT.of upd_same) (.cons (.str _) (.cons hd5 .nil)), o4, o4, _, rfl, if_false_of (by rw [o3]; rfl) ?_⟩
        exact ⟨s1'.trans s5', _, rfl⟩
      rintro σ HT ⟨sST, x15, rfl⟩
      have sRT := st.trans sST
      have hBT := hBR.same sRT
      have hBT0 := hBT
      obtain ⟨d11, T11, L11, e11, _, _⟩ := hBT0
      refine ⟨_, rfl, b5, d11, _, rfl, e11, b5, bt, ms, rfl, hBT, hbt, g, fun HU sU => ⟨⟨_, rfl⟩, _, rfl, _, rfl, bt, l, ms, rfl, hbt, g, sU _ _ (sRT _ _ hlR), fun HV sV => ⟨rfl, ?_⟩⟩⟩
      have sRV := (sRT.trans sU).trans sV
      have fin := q _ (dR.trans (Chg.of sRV)) ((hbR.same sRV).le (by omega))
      rw [decide_eq_true (show V.str (text bt ms) = V.str (text bt ms) from rfl)]
      exact fin
end
end K13
set_option Elab.async false
set_option linter.all false
set_option maxRecDepth 100000
set_option maxHeartbeats 4000000
namespace K13
open PySem L2 Lx TL
def spLaw (K : PySem.W.Frag) : Sp := fun vs H Q _ => ∃ (s : Addr) (ns : List Int), vs = [.ref s] ∧ SqL K H s (ns.map V.int) ∧ ns.length ≤ 63 ∧ ∀ H', Q (.bl true) H'
section
variable {P : Program} {w : World} {K : PySem.W.Frag} {mg : Str → Option Value} {base : Heap} {a : Ad}
theorem ok_law {f : Addr} {fd : FuncData} (F : Fun K "law" "law" s_law f fd) (T : Tx K mg a) (PF : PFile P "/claim/cut.py") : FnOk P w K mg base (L2.CX P w) 11 f fd ["script"] (spLaw K) := by
  have G__law_begin := ok_begin (P := P) (w := w) (base := base) T
  have G__law_right := ok_right (P := P) (w := w) (base := base) T PF
  refine F.okX sc_law (fun vs H Q E h => ?_) (fun cdv A outer s H vs Q E hr h => ?_)
  · obtain ⟨_, _, rfl, _⟩ := h
    rfl
  · obtain ⟨sc, ns, rfl, hs, hl, k⟩ := h
    refine ⟨_, (pss_cons (ps_for (passes_of rfl) rfl (pi_range1 (by rfl) T.z_range (pa_cons (pe_callB (call_max2 rfl) (by rfl) T.z_max (by decide +kernel) (pa_cons pe_int (pa_cons (pe_callB (call_min2 rfl) (by rfl) T.z_min (by decide +kernel) (pa_cons pe_int (pa_cons (pe_callB call_len_seq (by rfl) T.z_len (by decide +kernel) (pa_cons (pv 0) pa_nil)) pa_nil))) pa_nil))) pa_nil)) (pg_name (i := 1) sc_law.nd rfl (Or.inl rfl))
  (pss_cons (ps_set (i := 2) sc_law.nd rfl (Or.inr rfl) (pe_call G__law_begin (hr.mono (by decide)) (by rfl) T.mg__law_begin T.kp__law_begin T.b__law_begin .nil pass0 (pa_cons (pv 0) (pa_cons (pv 1) pa_nil))))
  (pss_one (ps_if (pt_not (pt_val (pe_callB (cr_all rfl) (by rfl) T.z_all (by decide +kernel) (pa_cons (pe_lc (own := [("turn", 3)]) (g := gName 3) rfl sc_law.nd (pi_range1 (by rfl) T.z_range (pa_cons pe_int pa_nil)) (blkOk_by (own := [("turn", 3)]) (N := ["script", "at", "source", "turn"]) (sc := defScope s_law) (by decide +kernel)) (fun _ _ _ _ _ => (pg_name (i := 3) sc_law.nd rfl (Or.inl rfl))) (fun _ _ _ _ _ => pts_nil) (fun _ _ _ _ _ => (pe_call G__law_right (hr.mono (by decide)) (by rfl) T.mg__law_right T.kp__law_right T.b__law_right .nil passL (pa_cons (pv 2) pa_nil)))) pa_nil))))
  (pss_one (ps_ret pe_bl))
  pss_nil))))
  (pss_one (ps_ret pe_bl))), ?_⟩
    refine ⟨_, rfl, sc, _, rfl, .inl hs, _, _, rfl, _, _, rfl, _, rfl, ?_, ?_, for_it walk_range (fun i σ H' => Same H H' ∧ ∃ v1 v2, σ = [some (.ref sc), v1, v2, none]) ⟨fun _ _ e => e, _, _, rfl⟩ (fun _ _ _ _ _ => trivial) ?_ ?_⟩
    · split <;> split <;> omega
    · split <;> split <;> omega
    · rintro i x σ Hi0 Hi hi ⟨si, v1, v2, rfl⟩ ⟨rfl, rfl⟩
      have hi4 : (i : Int) < 4 ∨ (i : Int) < 1 := by
        revert hi
        split <;> split <;> omega
      refine ⟨_, rfl, _, rfl, sc, _, ns, rfl, by omega, by omega, Same.seq si hs, fun b H1 nb s1 hb1 => ?_⟩
      have n0 : H b = none := Lx.Same.back si nb
      have mk : ∀ {H2 : Hp}, Chg [b] H1 H2 → Same H H2 := fun c2 => Lx.Same.chg (si.trans s1) (fun c hc => by rw [List.mem_singleton.mp hc]; exact n0) c2
      refine ⟨_, rfl, by decide, by decide, fun D nD => lc_it walk_range (fun i H' => Chg [b] H1 H' ∧ Bag (100 * (2 - i)) b H' ∧ H' D = some (.lst ((List.replicate i true).map V.bl))) ⟨Chg.new nD, (hb1.same (Lx.Same.new nD)).le (by decide), upd_same⟩ (fun _ _ _ _ => trivial) ?_ ?_⟩
      · rintro j y H2 H3 hj ⟨c2, hb2, hD⟩ ⟨rfl, rfl⟩
        have hj2 : j < 2 := hj
        have e2 : 100 * (2 - j) = 100 * (2 - (j + 1)) + 100 := by omega
        rw [e2] at hb2
        have Db : D ≠ b := hb1.ne nD
        refine ⟨rfl, _, rfl, _, b, rfl, hb2, fun H4 c4 hb4 => ⟨_, c4 _ _ (no1 Db) hD, ?_, ?_, ?_, ?_⟩⟩
        · rw [List.length_map, List.length_replicate, sizeLine_eq]
          omega
        · exact Chg.mut (c2.trans c4) nD
        · exact hb4.mv (S := [D]) (no1 Db.symm) Chg.upd
        · rw [upd_same, List.replicate_succ', List.map_append]
          rfl
      · rintro H2 ⟨c2, hb2, hD⟩
        refine ⟨D, _, rfl, SqL.of hD, _, rfl, if_false_of rfl ?_⟩
        exact ⟨mk c2, _, _, rfl⟩
    · rintro σ H1 ⟨_, v1, v2, rfl⟩
      exact k _
end
end K13
set_option Elab.async false
set_option linter.all false
set_option maxRecDepth 100000
set_option maxHeartbeats 16000000
namespace K13
open PySem L2 Lx
/-! ### the end -/
theorem all_mk {l : PySem.W.OpenLaw} {w : World} {K : PySem.W.Frag} {h : Heap} {mg : Str → Option Value} {fa c_LateError c_BadBook c_NoLook c_Book a_BookU_initU a_Book_usual a_Book_read a_Book_turned a_Book_unlike a_BookU_getitemU a_BookU_iterU a_BookU_strU a_BookU_eqU a__law_begin a__law_draw a__law_of a__law_looks a__law_ways a__law_book_text a__law_told a__law_right a_law dt_BookU_initU i_BadBook i_NoLook k_BUILT k_USUAL k_LOOKS k_WAYS r_usual r_read : Addr} (X : K.In h) (G : h.Ns mainGlobals mg) (hfa : mg "law" = some (.ref fa))
    {od_BookU_initU an_BookU_initU od_Book_usual an_Book_usual od_Book_read an_Book_read od_Book_turned an_Book_turned od_Book_unlike an_Book_unlike od_BookU_getitemU an_BookU_getitemU od_BookU_iterU an_BookU_iterU od_BookU_strU an_BookU_strU od_BookU_eqU an_BookU_eqU od__law_begin an__law_begin od__law_draw an__law_draw od__law_of an__law_of od__law_looks an__law_looks od__law_ways an__law_ways od__law_book_text an__law_book_text od__law_told an__law_told od__law_right an__law_right od_law an_law : Option Addr} {sl_BookU_initU sl_Book_usual sl_Book_read sl_Book_turned sl_Book_unlike sl_BookU_getitemU sl_BookU_iterU sl_BookU_strU sl_BookU_eqU sl__law_begin sl__law_draw sl__law_of sl__law_looks sl__law_ways sl__law_book_text sl__law_told sl__law_right sl_law : Array (Option Value)} {oc_BookU_initU kV_BookU_initU dc_BookU_initU pm_BookU_initU cd_BookU_initU ct_BookU_initU oc_Book_usual kV_Book_usual dc_Book_usual pm_Book_usual cd_Book_usual ct_Book_usual oc_Book_read kV_Book_read dc_Book_read pm_Book_read cd_Book_read ct_Book_read oc_Book_turned kV_Book_turned dc_Book_turned pm_Book_turned cd_Book_turned ct_Book_turned oc_Book_unlike kV_Book_unlike dc_Book_unlike pm_Book_unlike cd_Book_unlike ct_Book_unlike oc_BookU_getitemU kV_BookU_getitemU dc_BookU_getitemU pm_BookU_getitemU cd_BookU_getitemU ct_BookU_getitemU oc_BookU_iterU kV_BookU_iterU dc_BookU_iterU pm_BookU_iterU cd_BookU_iterU ct_BookU_iterU oc_BookU_strU kV_BookU_strU dc_BookU_strU pm_BookU_strU cd_BookU_strU ct_BookU_strU oc_BookU_eqU kV_BookU_eqU dc_BookU_eqU pm_BookU_eqU cd_BookU_eqU ct_BookU_eqU oc__law_begin kV__law_begin dc__law_begin pm__law_begin cd__law_begin ct__law_begin oc__law_draw kV__law_draw dc__law_draw pm__law_draw cd__law_draw ct__law_draw oc__law_of kV__law_of dc__law_of pm__law_of cd__law_of ct__law_of oc__law_looks kV__law_looks dc__law_looks pm__law_looks cd__law_looks ct__law_looks oc__law_ways kV__law_ways dc__law_ways pm__law_ways cd__law_ways ct__law_ways oc__law_book_text kV__law_book_text dc__law_book_text pm__law_book_text cd__law_book_text ct__law_book_text oc__law_told kV__law_told dc__law_told pm__law_told cd__law_told ct__law_told oc__law_right kV__law_right dc__law_right pm__law_right cd__law_right ct__law_right oc_law kV_law dc_law pm_law cd_law ct_law : Value} {u0_BookU_initU : Tok} {rs_usual rs_read : List Value}
    {ob_BookU_initU : Obj} {nt_BookU_initU : Nat}
    (g_LateError : PySem.W.nsIn K mainGlobals "LateError" = some (some (.ref c_LateError)))
    (g_BadBook : PySem.W.nsIn K mainGlobals "BadBook" = some (some (.ref c_BadBook)))
    (g_NoLook : PySem.W.nsIn K mainGlobals "NoLook" = some (some (.ref c_NoLook)))
    (g_Book : PySem.W.nsIn K mainGlobals "Book" = some (some (.ref c_Book)))
    (pg_Book : PySem.W.plainGet K c_Book Str.empty = true)
    (hd_Book : PySem.W.hasDictIn K c_Book = true)
    (po_Book : PySem.W.plainOver K c_Book = true)
    (sa_Book : PySem.W.findIn K (.ref c_Book) "__setattr__" = some (some (.builtin "object.__setattr__")))
    (ms_Book : PySem.W.makesIn K c_Book = true)
    (kc_Book : PySem.W.keepIn K (.ref c_Book) = true)
    (na_Book_built : PySem.W.findIn K (.ref c_Book) "built" = some none)
    (na_Book_table : PySem.W.findIn K (.ref c_Book) "table" = some none)
    (na_Book_order : PySem.W.findIn K (.ref c_Book) "order" = some none)
    (at_BookU_initU : PySem.W.findIn K (.ref c_Book) "__init__" = some (some (.ref a_BookU_initU)))
    (fn_BookU_initU : PySem.W.isFn K (.ref a_BookU_initU) = true)
    (l_BookU_initU : K.lookup a_BookU_initU = some ⟨oc_BookU_initU, od_BookU_initU, .func (PySem.W.fnOf "__init__" "Book.__init__" (defArgs s_BookU_initU) (defBody s_BookU_initU) (defScope s_BookU_initU) (.ref dt_BookU_initU) kV_BookU_initU dc_BookU_initU pm_BookU_initU an_BookU_initU cd_BookU_initU ct_BookU_initU), sl_BookU_initU⟩)
    (q_BookU_initU : PySem.W.codeIn K cd_BookU_initU "Book.__init__" = true)
    (k_BookU_initU : PySem.W.keepIn K (.ref a_BookU_initU) = true)
    (d_BookU_initU : K.lookup dt_BookU_initU = some ob_BookU_initU)
    (e_BookU_initU : ob_BookU_initU.data = .seq ([Value.str "late" u0_BookU_initU] : List Value).toArray nt_BookU_initU)
    (cv_usual : PySem.W.findCls K (.ref c_Book) (.type "type") "usual" = some (.get (.builtin "classmethod.__get__") (.ref r_usual) .none (.ref c_Book)))
    (rc_usual : PySem.W.recIn K r_usual "classmethod" = some (.ref a_Book_usual :: rs_usual))
    (l_Book_usual : K.lookup a_Book_usual = some ⟨oc_Book_usual, od_Book_usual, .func (PySem.W.fnOf "usual" "Book.usual" (defArgs s_Book_usual) (defBody s_Book_usual) (defScope s_Book_usual) .none kV_Book_usual dc_Book_usual pm_Book_usual an_Book_usual cd_Book_usual ct_Book_usual), sl_Book_usual⟩)
    (q_Book_usual : PySem.W.codeIn K cd_Book_usual "Book.usual" = true)
    (k_Book_usual : PySem.W.keepIn K (.ref a_Book_usual) = true)
    (cv_read : PySem.W.findCls K (.ref c_Book) (.type "type") "read" = some (.get (.builtin "classmethod.__get__") (.ref r_read) .none (.ref c_Book)))
    (rc_read : PySem.W.recIn K r_read "classmethod" = some (.ref a_Book_read :: rs_read))
    (l_Book_read : K.lookup a_Book_read = some ⟨oc_Book_read, od_Book_read, .func (PySem.W.fnOf "read" "Book.read" (defArgs s_Book_read) (defBody s_Book_read) (defScope s_Book_read) .none kV_Book_read dc_Book_read pm_Book_read an_Book_read cd_Book_read ct_Book_read), sl_Book_read⟩)
    (q_Book_read : PySem.W.codeIn K cd_Book_read "Book.read" = true)
    (k_Book_read : PySem.W.keepIn K (.ref a_Book_read) = true)
    (at_Book_turned : PySem.W.findIn K (.ref c_Book) "turned" = some (some (.ref a_Book_turned)))
    (fn_Book_turned : PySem.W.isFn K (.ref a_Book_turned) = true)
    (l_Book_turned : K.lookup a_Book_turned = some ⟨oc_Book_turned, od_Book_turned, .func (PySem.W.fnOf "turned" "Book.turned" (defArgs s_Book_turned) (defBody s_Book_turned) (defScope s_Book_turned) .none kV_Book_turned dc_Book_turned pm_Book_turned an_Book_turned cd_Book_turned ct_Book_turned), sl_Book_turned⟩)
    (q_Book_turned : PySem.W.codeIn K cd_Book_turned "Book.turned" = true)
    (k_Book_turned : PySem.W.keepIn K (.ref a_Book_turned) = true)
    (at_Book_unlike : PySem.W.findIn K (.ref c_Book) "unlike" = some (some (.ref a_Book_unlike)))
    (fn_Book_unlike : PySem.W.isFn K (.ref a_Book_unlike) = true)
    (l_Book_unlike : K.lookup a_Book_unlike = some ⟨oc_Book_unlike, od_Book_unlike, .func (PySem.W.fnOf "unlike" "Book.unlike" (defArgs s_Book_unlike) (defBody s_Book_unlike) (defScope s_Book_unlike) .none kV_Book_unlike dc_Book_unlike pm_Book_unlike an_Book_unlike cd_Book_unlike ct_Book_unlike), sl_Book_unlike⟩)
    (q_Book_unlike : PySem.W.codeIn K cd_Book_unlike "Book.unlike" = true)
    (k_Book_unlike : PySem.W.keepIn K (.ref a_Book_unlike) = true)
    (at_BookU_getitemU : PySem.W.findIn K (.ref c_Book) "__getitem__" = some (some (.ref a_BookU_getitemU)))
    (fn_BookU_getitemU : PySem.W.isFn K (.ref a_BookU_getitemU) = true)
    (l_BookU_getitemU : K.lookup a_BookU_getitemU = some ⟨oc_BookU_getitemU, od_BookU_getitemU, .func (PySem.W.fnOf "__getitem__" "Book.__getitem__" (defArgs s_BookU_getitemU) (defBody s_BookU_getitemU) (defScope s_BookU_getitemU) .none kV_BookU_getitemU dc_BookU_getitemU pm_BookU_getitemU an_BookU_getitemU cd_BookU_getitemU ct_BookU_getitemU), sl_BookU_getitemU⟩)
    (q_BookU_getitemU : PySem.W.codeIn K cd_BookU_getitemU "Book.__getitem__" = true)
    (k_BookU_getitemU : PySem.W.keepIn K (.ref a_BookU_getitemU) = true)
    (at_BookU_iterU : PySem.W.findIn K (.ref c_Book) "__iter__" = some (some (.ref a_BookU_iterU)))
    (fn_BookU_iterU : PySem.W.isFn K (.ref a_BookU_iterU) = true)
    (l_BookU_iterU : K.lookup a_BookU_iterU = some ⟨oc_BookU_iterU, od_BookU_iterU, .func (PySem.W.fnOf "__iter__" "Book.__iter__" (defArgs s_BookU_iterU) (defBody s_BookU_iterU) (defScope s_BookU_iterU) .none kV_BookU_iterU dc_BookU_iterU pm_BookU_iterU an_BookU_iterU cd_BookU_iterU ct_BookU_iterU), sl_BookU_iterU⟩)
    (q_BookU_iterU : PySem.W.codeIn K cd_BookU_iterU "Book.__iter__" = true)
    (k_BookU_iterU : PySem.W.keepIn K (.ref a_BookU_iterU) = true)
    (at_BookU_strU : PySem.W.findIn K (.ref c_Book) "__str__" = some (some (.ref a_BookU_strU)))
    (fn_BookU_strU : PySem.W.isFn K (.ref a_BookU_strU) = true)
    (l_BookU_strU : K.lookup a_BookU_strU = some ⟨oc_BookU_strU, od_BookU_strU, .func (PySem.W.fnOf "__str__" "Book.__str__" (defArgs s_BookU_strU) (defBody s_BookU_strU) (defScope s_BookU_strU) .none kV_BookU_strU dc_BookU_strU pm_BookU_strU an_BookU_strU cd_BookU_strU ct_BookU_strU), sl_BookU_strU⟩)
    (q_BookU_strU : PySem.W.codeIn K cd_BookU_strU "Book.__str__" = true)
    (k_BookU_strU : PySem.W.keepIn K (.ref a_BookU_strU) = true)
    (at_BookU_eqU : PySem.W.findIn K (.ref c_Book) "__eq__" = some (some (.ref a_BookU_eqU)))
    (fn_BookU_eqU : PySem.W.isFn K (.ref a_BookU_eqU) = true)
    (l_BookU_eqU : K.lookup a_BookU_eqU = some ⟨oc_BookU_eqU, od_BookU_eqU, .func (PySem.W.fnOf "__eq__" "Book.__eq__" (defArgs s_BookU_eqU) (defBody s_BookU_eqU) (defScope s_BookU_eqU) .none kV_BookU_eqU dc_BookU_eqU pm_BookU_eqU an_BookU_eqU cd_BookU_eqU ct_BookU_eqU), sl_BookU_eqU⟩)
    (q_BookU_eqU : PySem.W.codeIn K cd_BookU_eqU "Book.__eq__" = true)
    (k_BookU_eqU : PySem.W.keepIn K (.ref a_BookU_eqU) = true)
    (at__law_begin : PySem.W.nsIn K mainGlobals "_law_begin" = some (some (.ref a__law_begin)))
    (l__law_begin : K.lookup a__law_begin = some ⟨oc__law_begin, od__law_begin, .func (PySem.W.fnOf "_law_begin" "_law_begin" (defArgs s__law_begin) (defBody s__law_begin) (defScope s__law_begin) .none kV__law_begin dc__law_begin pm__law_begin an__law_begin cd__law_begin ct__law_begin), sl__law_begin⟩)
    (q__law_begin : PySem.W.codeIn K cd__law_begin "_law_begin" = true)
    (k__law_begin : PySem.W.keepIn K (.ref a__law_begin) = true)
    (at__law_draw : PySem.W.nsIn K mainGlobals "_law_draw" = some (some (.ref a__law_draw)))
    (l__law_draw : K.lookup a__law_draw = some ⟨oc__law_draw, od__law_draw, .func (PySem.W.fnOf "_law_draw" "_law_draw" (defArgs s__law_draw) (defBody s__law_draw) (defScope s__law_draw) .none kV__law_draw dc__law_draw pm__law_draw an__law_draw cd__law_draw ct__law_draw), sl__law_draw⟩)
    (q__law_draw : PySem.W.codeIn K cd__law_draw "_law_draw" = true)
    (k__law_draw : PySem.W.keepIn K (.ref a__law_draw) = true)
    (at__law_of : PySem.W.nsIn K mainGlobals "_law_of" = some (some (.ref a__law_of)))
    (l__law_of : K.lookup a__law_of = some ⟨oc__law_of, od__law_of, .func (PySem.W.fnOf "_law_of" "_law_of" (defArgs s__law_of) (defBody s__law_of) (defScope s__law_of) .none kV__law_of dc__law_of pm__law_of an__law_of cd__law_of ct__law_of), sl__law_of⟩)
    (q__law_of : PySem.W.codeIn K cd__law_of "_law_of" = true)
    (k__law_of : PySem.W.keepIn K (.ref a__law_of) = true)
    (at__law_looks : PySem.W.nsIn K mainGlobals "_law_looks" = some (some (.ref a__law_looks)))
    (l__law_looks : K.lookup a__law_looks = some ⟨oc__law_looks, od__law_looks, .func (PySem.W.fnOf "_law_looks" "_law_looks" (defArgs s__law_looks) (defBody s__law_looks) (defScope s__law_looks) .none kV__law_looks dc__law_looks pm__law_looks an__law_looks cd__law_looks ct__law_looks), sl__law_looks⟩)
    (q__law_looks : PySem.W.codeIn K cd__law_looks "_law_looks" = true)
    (k__law_looks : PySem.W.keepIn K (.ref a__law_looks) = true)
    (at__law_ways : PySem.W.nsIn K mainGlobals "_law_ways" = some (some (.ref a__law_ways)))
    (l__law_ways : K.lookup a__law_ways = some ⟨oc__law_ways, od__law_ways, .func (PySem.W.fnOf "_law_ways" "_law_ways" (defArgs s__law_ways) (defBody s__law_ways) (defScope s__law_ways) .none kV__law_ways dc__law_ways pm__law_ways an__law_ways cd__law_ways ct__law_ways), sl__law_ways⟩)
    (q__law_ways : PySem.W.codeIn K cd__law_ways "_law_ways" = true)
    (k__law_ways : PySem.W.keepIn K (.ref a__law_ways) = true)
    (at__law_book_text : PySem.W.nsIn K mainGlobals "_law_book_text" = some (some (.ref a__law_book_text)))
    (l__law_book_text : K.lookup a__law_book_text = some ⟨oc__law_book_text, od__law_book_text, .func (PySem.W.fnOf "_law_book_text" "_law_book_text" (defArgs s__law_book_text) (defBody s__law_book_text) (defScope s__law_book_text) .none kV__law_book_text dc__law_book_text pm__law_book_text an__law_book_text cd__law_book_text ct__law_book_text), sl__law_book_text⟩)
    (q__law_book_text : PySem.W.codeIn K cd__law_book_text "_law_book_text" = true)
    (k__law_book_text : PySem.W.keepIn K (.ref a__law_book_text) = true)
    (at__law_told : PySem.W.nsIn K mainGlobals "_law_told" = some (some (.ref a__law_told)))
    (l__law_told : K.lookup a__law_told = some ⟨oc__law_told, od__law_told, .func (PySem.W.fnOf "_law_told" "_law_told" (defArgs s__law_told) (defBody s__law_told) (defScope s__law_told) .none kV__law_told dc__law_told pm__law_told an__law_told cd__law_told ct__law_told), sl__law_told⟩)
    (q__law_told : PySem.W.codeIn K cd__law_told "_law_told" = true)
    (k__law_told : PySem.W.keepIn K (.ref a__law_told) = true)
    (at__law_right : PySem.W.nsIn K mainGlobals "_law_right" = some (some (.ref a__law_right)))
    (l__law_right : K.lookup a__law_right = some ⟨oc__law_right, od__law_right, .func (PySem.W.fnOf "_law_right" "_law_right" (defArgs s__law_right) (defBody s__law_right) (defScope s__law_right) .none kV__law_right dc__law_right pm__law_right an__law_right cd__law_right ct__law_right), sl__law_right⟩)
    (q__law_right : PySem.W.codeIn K cd__law_right "_law_right" = true)
    (k__law_right : PySem.W.keepIn K (.ref a__law_right) = true)
    (at_law : PySem.W.nsIn K mainGlobals "law" = some (some (.ref a_law)))
    (l_law : K.lookup a_law = some ⟨oc_law, od_law, .func (PySem.W.fnOf "law" "law" (defArgs s_law) (defBody s_law) (defScope s_law) .none kV_law dc_law pm_law an_law cd_law ct_law), sl_law⟩)
    (q_law : PySem.W.codeIn K cd_law "law" = true)
    (k_law : PySem.W.keepIn K (.ref a_law) = true)
    (z_abs : PySem.W.nsIn K mainGlobals "abs" = some none)
    (z_all : PySem.W.nsIn K mainGlobals "all" = some none)
    (z_classmethod : PySem.W.nsIn K mainGlobals "classmethod" = some none)
    (z_dict : PySem.W.nsIn K mainGlobals "dict" = some none)
    (z_int : PySem.W.nsIn K mainGlobals "int" = some none)
    (z_isinstance : PySem.W.nsIn K mainGlobals "isinstance" = some none)
    (z_iter : PySem.W.nsIn K mainGlobals "iter" = some none)
    (z_len : PySem.W.nsIn K mainGlobals "len" = some none)
    (z_list : PySem.W.nsIn K mainGlobals "list" = some none)
    (z_max : PySem.W.nsIn K mainGlobals "max" = some none)
    (z_min : PySem.W.nsIn K mainGlobals "min" = some none)
    (z_range : PySem.W.nsIn K mainGlobals "range" = some none)
    (z_sorted : PySem.W.nsIn K mainGlobals "sorted" = some none)
    (z_str : PySem.W.nsIn K mainGlobals "str" = some none)
    (z_tuple : PySem.W.nsIn K mainGlobals "tuple" = some none)
    (z_zip : PySem.W.nsIn K mainGlobals "zip" = some none)
    (pf : PFile l.prog "/claim/cut.py")
    (hi_BadBook : PySem.W.findIn K (.ref c_BadBook) "__init__" = some (some (.ref i_BadBook)))
    (hi_NoLook : PySem.W.findIn K (.ref c_NoLook) "__init__" = some (some (.ref i_NoLook)))
    (sb_BadBook : sxB K "/claim/cut.py" c_BadBook i_BadBook "thing" "ValueError" "ValueError.__new__" "ValueError.__init__" [.type "ValueError", .type "Exception", .type "BaseException", .type "object"] = true)
    (sb_NoLook : sxB K "/claim/cut.py" c_NoLook i_NoLook "look" "LookupError" "LookupError.__new__" "LookupError.__init__" [.type "LookupError", .type "Exception", .type "BaseException", .type "object"] = true)
    (xb_NoLook : xfB K c_NoLook = true)
    (xb_BadBook : xfB K c_BadBook = true)
    (xn_BadBook : PySem.W.findIn K (.ref c_BadBook) "thing" = some none)
    (ex_BN : PySem.W.exmOne K (.ref c_BadBook) (.ref c_NoLook) = some false)
    (ex_BB : PySem.W.exmOne K (.ref c_BadBook) (.ref c_BadBook) = some true)
    (xn_NoLook : PySem.W.findIn K (.ref c_NoLook) "look" = some none)
    (ex_NoLook : PySem.W.exmOne K (.ref c_NoLook) (.ref c_NoLook) = some true)
    (n_BUILT : PySem.W.nsIn K mainGlobals "BUILT" = some (some (.ref k_BUILT)))
    (n_USUAL : PySem.W.nsIn K mainGlobals "USUAL" = some (some (.ref k_USUAL)))
    (cr_rd : PySem.W.readsIn K c_Book (.type "type") = true)
    (cr_ga : PySem.W.specialIn K (.ref c_Book) "__getattribute__" = some (some (.builtin "type.__getattribute__")))
    (v_LOOKS : PySem.W.findCls K (.ref c_Book) (.type "type") "LOOKS" = some (.val (.ref k_LOOKS)))
    (v_WAYS : PySem.W.findCls K (.ref c_Book) (.type "type") "WAYS" = some (.val (.ref k_WAYS)))
    (tb_BUILT : ktupB K k_BUILT BUILTS = true)
    (tb_USUAL : ktupB K k_USUAL USUALS = true)
    (tb_LOOKS : ktupB K k_LOOKS LOOKS = true)
    (tb_WAYS : ktupB K k_WAYS WAYS = true)
    (fg : PySem.W.fnIn K a_BookU_getitemU = true)
    (ne1 : PySem.W.findIn K (.ref c_Book) "__ne__" = some (some (.builtin "object.__ne__")))
    (ne2 : PySem.W.mroIn K c_Book (.type "object") = some true)
    (nl1 : PySem.W.findIn K (.ref c_Book) "__len__" = some none)
    (nl2 : PySem.W.findIn K (.ref c_Book) "__length_hint__" = some none)
    (ci1 : PySem.W.findIn K (.ref c_Book) "__class__" = some (some (.builtin "object.__class__")))
    (ci2 : PySem.W.specialIn K (.builtin "object.__class__") "__get__" = some (some (.builtin "getset_descriptor.__get__")))
    (ci3 : PySem.W.takesIn K (.builtin "object.__class__") = some true)
    (nf_B : PySem.W.notFirst K c_Book (.ref c_Book) = true)
    (nf_S : PySem.W.notFirst K c_Book (.type "str") = true)
    (nf_L : PySem.W.notFirst K c_Book (.type "list") = true)
    (ki_B : PySem.W.kitOne K (.ref c_Book) (.ref c_Book) = some true)
    (ki_S : PySem.W.kitOne K (.type "str") (.ref c_Book) = some false)
    (ki_L : PySem.W.kitOne K (.type "list") (.ref c_Book) = some false)
    (fi_usual : PySem.W.fnIn K a_Book_usual = true)
    (fi_read : PySem.W.fnIn K a_Book_read = true) :
    ∃ fd : FuncData, (∀ (s : Shared) (v : Value), BindsTo s fd ⟨[v], []⟩ [("script", v)]) ∧ ∀ base : Heap, K.In base → base.Ns mainGlobals mg → FnOk l.prog w K mg base (L2.CX l.prog w) 12 fa fd ["script"] (spLaw K) := by
  have e := hfa.symm.trans (PySem.W.mg_of X G at_law)
  cases e
  have T : Tx K mg ⟨c_LateError, c_BadBook, c_NoLook, c_Book, a_BookU_initU, a_Book_usual, a_Book_read, a_Book_turned, a_Book_unlike, a_BookU_getitemU, a_BookU_iterU, a_BookU_strU, a_BookU_eqU, a__law_begin, a__law_draw, a__law_of, a__law_looks, a__law_ways, a__law_book_text, a__law_told, a__law_right, _, _, _, _, _, _, _, _, _, _, _, _, _, _, _, _, _, i_BadBook, i_NoLook, k_BUILT, k_USUAL, k_LOOKS, k_WAYS, r_usual, r_read⟩ := {
    mg_LateError := PySem.W.mg_of X G g_LateError,
    mg_BadBook := PySem.W.mg_of X G g_BadBook,
    mg_NoLook := PySem.W.mg_of X G g_NoLook,
    mg_Book := PySem.W.mg_of X G g_Book,
    cl_Book := ⟨pg_Book, hd_Book, po_Book, sa_Book⟩,
    mk_Book := ⟨ms_Book, at_BookU_initU, fn_BookU_initU, kc_Book⟩,
    na_Book_built := na_Book_built,
    na_Book_table := na_Book_table,
    na_Book_order := na_Book_order,
    at_BookU_initU := at_BookU_initU,
    fn_BookU_initU := fn_BookU_initU,
    F_BookU_initU := ⟨⟨oc_BookU_initU, od_BookU_initU, .ref dt_BookU_initU, kV_BookU_initU, dc_BookU_initU, pm_BookU_initU, an_BookU_initU, cd_BookU_initU, ct_BookU_initU, sl_BookU_initU, rfl, l_BookU_initU, q_BookU_initU, .inr ⟨by simp, dt_BookU_initU, ob_BookU_initU, _, nt_BookU_initU, rfl, d_BookU_initU, e_BookU_initU, (.cons ⟨_, rfl⟩ .nil)⟩, .inl rfl⟩, k_BookU_initU⟩,
    F_Book_usual := fun_mk (st := s_Book_usual) l_Book_usual q_Book_usual k_Book_usual,
    F_Book_read := fun_mk (st := s_Book_read) l_Book_read q_Book_read k_Book_read,
    at_Book_turned := at_Book_turned,
    fn_Book_turned := fn_Book_turned,
    F_Book_turned := fun_mk (st := s_Book_turned) l_Book_turned q_Book_turned k_Book_turned,
    at_Book_unlike := at_Book_unlike,
    fn_Book_unlike := fn_Book_unlike,
    F_Book_unlike := fun_mk (st := s_Book_unlike) l_Book_unlike q_Book_unlike k_Book_unlike,
    at_BookU_getitemU := at_BookU_getitemU,
    fn_BookU_getitemU := fn_BookU_getitemU,
    F_BookU_getitemU := fun_mk (st := s_BookU_getitemU) l_BookU_getitemU q_BookU_getitemU k_BookU_getitemU,
    at_BookU_iterU := at_BookU_iterU,
    fn_BookU_iterU := fn_BookU_iterU,
    F_BookU_iterU := fun_mk (st := s_BookU_iterU) l_BookU_iterU q_BookU_iterU k_BookU_iterU,
    at_BookU_strU := at_BookU_strU,
    fn_BookU_strU := fn_BookU_strU,
    F_BookU_strU := fun_mk (st := s_BookU_strU) l_BookU_strU q_BookU_strU k_BookU_strU,
    at_BookU_eqU := at_BookU_eqU,
    fn_BookU_eqU := fn_BookU_eqU,
    F_BookU_eqU := fun_mk (st := s_BookU_eqU) l_BookU_eqU q_BookU_eqU k_BookU_eqU,
    mg__law_begin := PySem.W.mg_of X G at__law_begin,
    F__law_begin := fun_mk (st := s__law_begin) l__law_begin q__law_begin k__law_begin,
    mg__law_draw := PySem.W.mg_of X G at__law_draw,
    F__law_draw := fun_mk (st := s__law_draw) l__law_draw q__law_draw k__law_draw,
    mg__law_of := PySem.W.mg_of X G at__law_of,
    F__law_of := fun_mk (st := s__law_of) l__law_of q__law_of k__law_of,
    mg__law_looks := PySem.W.mg_of X G at__law_looks,
    F__law_looks := fun_mk (st := s__law_looks) l__law_looks q__law_looks k__law_looks,
    mg__law_ways := PySem.W.mg_of X G at__law_ways,
    F__law_ways := fun_mk (st := s__law_ways) l__law_ways q__law_ways k__law_ways,
    mg__law_book_text := PySem.W.mg_of X G at__law_book_text,
    F__law_book_text := fun_mk (st := s__law_book_text) l__law_book_text q__law_book_text k__law_book_text,
    mg__law_told := PySem.W.mg_of X G at__law_told,
    F__law_told := fun_mk (st := s__law_told) l__law_told q__law_told k__law_told,
    mg__law_right := PySem.W.mg_of X G at__law_right,
    F__law_right := fun_mk (st := s__law_right) l__law_right q__law_right k__law_right,
    z_abs := PySem.W.mg_none_of X G z_abs,
    z_all := PySem.W.mg_none_of X G z_all,
    z_classmethod := PySem.W.mg_none_of X G z_classmethod,
    z_dict := PySem.W.mg_none_of X G z_dict,
    z_int := PySem.W.mg_none_of X G z_int,
    z_isinstance := PySem.W.mg_none_of X G z_isinstance,
    z_iter := PySem.W.mg_none_of X G z_iter,
    z_len := PySem.W.mg_none_of X G z_len,
    z_list := PySem.W.mg_none_of X G z_list,
    z_max := PySem.W.mg_none_of X G z_max,
    z_min := PySem.W.mg_none_of X G z_min,
    z_range := PySem.W.mg_none_of X G z_range,
    z_sorted := PySem.W.mg_none_of X G z_sorted,
    z_str := PySem.W.mg_none_of X G z_str,
    z_tuple := PySem.W.mg_none_of X G z_tuple,
    z_zip := PySem.W.mg_none_of X G z_zip,
    xf_BadBook := xfB_ok xb_BadBook,
    xn_BadBook := xn_BadBook,
    ex_BN := ex_BN,
    ex_BB := ex_BB,
    sx_BadBook := sxB_ok sb_BadBook,
    sx_NoLook := sxB_ok sb_NoLook,
    xf_NoLook := xfB_ok xb_NoLook,
    xn_NoLook := xn_NoLook,
    ex_NoLook := ex_NoLook,
    g_BUILT := PySem.W.mg_of X G n_BUILT,
    g_USUAL := PySem.W.mg_of X G n_USUAL,
    cr := ⟨cr_rd, cr_ga⟩,
    cv_LOOKS := ⟨v_LOOKS, rfl⟩,
    cv_WAYS := ⟨v_WAYS, rfl⟩,
    fi_getitem := fg,
    nec := ⟨ne1, ne2⟩,
    nol := ⟨nl1, nl2⟩,
    ci_at := ci1,
    ci_get := ci2,
    ci_tk := ci3,
    t_BUILT := ktupB_ok tb_BUILT,
    t_USUAL := ktupB_ok tb_USUAL,
    t_LOOKS := ktupB_ok tb_LOOKS,
    t_WAYS := ktupB_ok tb_WAYS,
    nf_B := nf_B,
    nf_S := nf_S,
    nf_L := nf_L,
    ki_B := ki_B,
    ki_S := ki_S,
    ki_L := ki_L,
    cm_usual := ⟨cv_usual, ⟨_, rc_usual⟩, fi_usual⟩,
    cm_read := ⟨cv_read, ⟨_, rc_read⟩, fi_read⟩ }
  exact ⟨PySem.W.fnOf "law" "law" (defArgs s_law) (defBody s_law) (defScope s_law) .none kV_law dc_law pm_law an_law cd_law ct_law, fun s v => .of_eq rfl, fun base _ _ =>
    (ok_law (fun_mk (st := s_law) l_law q_law k_law) T pf).mono (by decide)⟩
theorem walk {l : PySem.W.OpenLaw} {q : Program} {loose : List Str} {XP : (Str → Option Value) → Heap → Prop} {YP : World → Heap → Prop} {d : DefRec} {K : Params → PySem.W.Frag} (hn : l.most = some 63) (hdf : d.params.defaults = [])
    (hY : ∀ (w : World) (h : Heap), YP w h → (K w.params).In h)
    (F : ∀ (w : World) (mg : Str → Option Value) (fa : Addr) (h : Heap), (K w.params).In h → h.Ns mainGlobals mg → mg d.name = some (.ref fa) →
      ∃ fd : FuncData, (∀ (s : Shared) (u : Value), BindsTo s fd ⟨[u], []⟩ [("script", u)]) ∧ ∀ base : Heap, (K w.params).In base → base.Ns mainGlobals mg → FnOk l.prog w (K w.params) mg base (L2.CX l.prog w) 12 fa fd ["script"] (spLaw (K w.params))) :
    PySem.W.WalkO q loose XP YP l.row.toRowW d [] (fun f vs => PySem.call f vs) :=
  L2.walk_of (n := 63) (k := 12) (x := "script") (CX := fun w => L2.CX l.prog w) (sp := fun w => spLaw (K w.params)) hn (by decide) hdf ⟨rfl, by decide, by decide⟩ hY F (fun _ _ a ns hl _ hS => ⟨a, ns, rfl, hS, hl, fun _ => rfl⟩) fun _ _ _ _ _ ⟨_, _, _, _, _, _, _, _, _, _, _, _, h⟩ => h
end K13

open PySem PySem.W PyProof.Rows in
set_option maxRecDepth 100000 in
set_option maxHeartbeats 0 in
theorem PySem.Challenge.cw_latequestions_k13_books_turned_holds : PySem.Challenge.rw_latequestions_k13_books_turned.Holds := by
  w_on; o_law; k_head; (case hw => w_witness2)
  k_fill
  refine K13.walk (l := PySem.Challenge.rw_latequestions_k13_books_turned) rfl rfl (fun w h Y => PySem.W.kIn_of Y) ?F
  case F =>
    intro w mg fa h KX G hmg
    refine' K13.all_mk KX G hmg ?g_LateError ?g_BadBook ?g_NoLook ?g_Book ?pg_Book ?hd_Book ?po_Book ?sa_Book ?ms_Book ?kc_Book ?na_Book_built ?na_Book_table ?na_Book_order ?at_BookU_initU ?fn_BookU_initU ?l_BookU_initU ?q_BookU_initU ?k_BookU_initU ?d_BookU_initU ?e_BookU_initU ?cv_usual ?rc_usual ?l_Book_usual ?q_Book_usual ?k_Book_usual ?cv_read ?rc_read ?l_Book_read ?q_Book_read ?k_Book_read ?at_Book_turned ?fn_Book_turned ?l_Book_turned ?q_Book_turned ?k_Book_turned ?at_Book_unlike ?fn_Book_unlike ?l_Book_unlike ?q_Book_unlike ?k_Book_unlike ?at_BookU_getitemU ?fn_BookU_getitemU ?l_BookU_getitemU ?q_BookU_getitemU ?k_BookU_getitemU ?at_BookU_iterU ?fn_BookU_iterU ?l_BookU_iterU ?q_BookU_iterU ?k_BookU_iterU ?at_BookU_strU ?fn_BookU_strU ?l_BookU_strU ?q_BookU_strU ?k_BookU_strU ?at_BookU_eqU ?fn_BookU_eqU ?l_BookU_eqU ?q_BookU_eqU ?k_BookU_eqU ?at__law_begin ?l__law_begin ?q__law_begin ?k__law_begin ?at__law_draw ?l__law_draw ?q__law_draw ?k__law_draw ?at__law_of ?l__law_of ?q__law_of ?k__law_of ?at__law_looks ?l__law_looks ?q__law_looks ?k__law_looks ?at__law_ways ?l__law_ways ?q__law_ways ?k__law_ways ?at__law_book_text ?l__law_book_text ?q__law_book_text ?k__law_book_text ?at__law_told ?l__law_told ?q__law_told ?k__law_told ?at__law_right ?l__law_right ?q__law_right ?k__law_right ?at_law ?l_law ?q_law ?k_law ?z_abs ?z_all ?z_classmethod ?z_dict ?z_int ?z_isinstance ?z_iter ?z_len ?z_list ?z_max ?z_min ?z_range ?z_sorted ?z_str ?z_tuple ?z_zip ?pf ?hi_BadBook ?hi_NoLook ?sb_BadBook ?sb_NoLook ?xb_NoLook ?xb_BadBook ?xn_BadBook ?ex_BN ?ex_BB ?xn_NoLook ?ex_NoLook ?n_BUILT ?n_USUAL ?cr_rd ?cr_ga ?v_LOOKS ?v_WAYS ?tb_BUILT ?tb_USUAL ?tb_LOOKS ?tb_WAYS ?fg ?ne1 ?ne2 ?nl1 ?nl2 ?ci1 ?ci2 ?ci3 ?nf_B ?nf_S ?nf_L ?ki_B ?ki_S ?ki_L ?fi_usual ?fi_read
    (case g_LateError => k_is)
    (case g_BadBook => k_is)
    (case g_NoLook => k_is)
    (case g_Book => k_is)
    (case pg_Book => k_is)
    (case hd_Book => k_is)
    (case po_Book => k_is)
    (case sa_Book => k_is)
    (case ms_Book => k_is)
    (case kc_Book => k_is)
    (case na_Book_built => k_is)
    (case na_Book_table => k_is)
    (case na_Book_order => k_is)
    (case at_BookU_initU => k_is)
    (case fn_BookU_initU => k_is)
    (case l_BookU_initU => k_is)
    (case q_BookU_initU => k_is)
    (case k_BookU_initU => k_is)
    (case d_BookU_initU => k_is)
    (case e_BookU_initU => rfl)
    (case cv_usual => k_is)
    (case rc_usual => k_is)
    (case l_Book_usual => k_is)
    (case q_Book_usual => k_is)
    (case k_Book_usual => k_is)
    (case cv_read => k_is)
    (case rc_read => k_is)
    (case l_Book_read => k_is)
    (case q_Book_read => k_is)
    (case k_Book_read => k_is)
    (case at_Book_turned => k_is)
    (case fn_Book_turned => k_is)
    (case l_Book_turned => k_is)
    (case q_Book_turned => k_is)
    (case k_Book_turned => k_is)
    (case at_Book_unlike => k_is)
    (case fn_Book_unlike => k_is)
    (case l_Book_unlike => k_is)
    (case q_Book_unlike => k_is)
    (case k_Book_unlike => k_is)
    (case at_BookU_getitemU => k_is)
    (case fn_BookU_getitemU => k_is)
    (case l_BookU_getitemU => k_is)
    (case q_BookU_getitemU => k_is)
    (case k_BookU_getitemU => k_is)
    (case at_BookU_iterU => k_is)
    (case fn_BookU_iterU => k_is)
    (case l_BookU_iterU => k_is)
    (case q_BookU_iterU => k_is)
    (case k_BookU_iterU => k_is)
    (case at_BookU_strU => k_is)
    (case fn_BookU_strU => k_is)
    (case l_BookU_strU => k_is)
    (case q_BookU_strU => k_is)
    (case k_BookU_strU => k_is)
    (case at_BookU_eqU => k_is)
    (case fn_BookU_eqU => k_is)
    (case l_BookU_eqU => k_is)
    (case q_BookU_eqU => k_is)
    (case k_BookU_eqU => k_is)
    (case at__law_begin => k_is)
    (case l__law_begin => k_is)
    (case q__law_begin => k_is)
    (case k__law_begin => k_is)
    (case at__law_draw => k_is)
    (case l__law_draw => k_is)
    (case q__law_draw => k_is)
    (case k__law_draw => k_is)
    (case at__law_of => k_is)
    (case l__law_of => k_is)
    (case q__law_of => k_is)
    (case k__law_of => k_is)
    (case at__law_looks => k_is)
    (case l__law_looks => k_is)
    (case q__law_looks => k_is)
    (case k__law_looks => k_is)
    (case at__law_ways => k_is)
    (case l__law_ways => k_is)
    (case q__law_ways => k_is)
    (case k__law_ways => k_is)
    (case at__law_book_text => k_is)
    (case l__law_book_text => k_is)
    (case q__law_book_text => k_is)
    (case k__law_book_text => k_is)
    (case at__law_told => k_is)
    (case l__law_told => k_is)
    (case q__law_told => k_is)
    (case k__law_told => k_is)
    (case at__law_right => k_is)
    (case l__law_right => k_is)
    (case q__law_right => k_is)
    (case k__law_right => k_is)
    (case at_law => k_is)
    (case l_law => k_is)
    (case q_law => k_is)
    (case k_law => k_is)
    (case z_abs => k_is)
    (case z_all => k_is)
    (case z_classmethod => k_is)
    (case z_dict => k_is)
    (case z_int => k_is)
    (case z_isinstance => k_is)
    (case z_iter => k_is)
    (case z_len => k_is)
    (case z_list => k_is)
    (case z_max => k_is)
    (case z_min => k_is)
    (case z_range => k_is)
    (case z_sorted => k_is)
    (case z_str => k_is)
    (case z_tuple => k_is)
    (case z_zip => k_is)
    (case pf => exact ⟨by first | rfl | decide +kernel | kernel_rfl, by first | rfl | decide +kernel | kernel_rfl⟩)
    (case hi_BadBook => first | k_is | kernel_rfl | rfl | decide +kernel)
    (case hi_NoLook => first | k_is | kernel_rfl | rfl | decide +kernel)
    (case sb_BadBook => first | k_is | kernel_rfl | rfl | decide +kernel)
    (case sb_NoLook => first | k_is | kernel_rfl | rfl | decide +kernel)
    (case xb_NoLook => first | k_is | kernel_rfl | rfl | decide +kernel)
    (case xb_BadBook => first | k_is | kernel_rfl | rfl | decide +kernel)
    (case xn_BadBook => first | k_is | kernel_rfl | rfl | decide +kernel)
    (case ex_BN => first | k_is | kernel_rfl | rfl | decide +kernel)
    (case ex_BB => first | k_is | kernel_rfl | rfl | decide +kernel)
    (case xn_NoLook => first | k_is | kernel_rfl | rfl | decide +kernel)
    (case ex_NoLook => first | k_is | kernel_rfl | rfl | decide +kernel)
    (case n_BUILT => first | k_is | kernel_rfl | rfl | decide +kernel)
    (case n_USUAL => first | k_is | kernel_rfl | rfl | decide +kernel)
    (case cr_rd => first | k_is | kernel_rfl | rfl | decide +kernel)
    (case cr_ga => first | k_is | kernel_rfl | rfl | decide +kernel)
    (case v_LOOKS => first | k_is | kernel_rfl | rfl | decide +kernel)
    (case v_WAYS => first | k_is | kernel_rfl | rfl | decide +kernel)
    (case tb_BUILT => first | k_is | kernel_rfl | rfl | decide +kernel)
    (case tb_USUAL => first | k_is | kernel_rfl | rfl | decide +kernel)
    (case tb_LOOKS => first | k_is | kernel_rfl | rfl | decide +kernel)
    (case tb_WAYS => first | k_is | kernel_rfl | rfl | decide +kernel)
    (case fg => first | k_is | kernel_rfl | rfl | decide +kernel)
    (case ne1 => first | k_is | kernel_rfl | rfl | decide +kernel)
    (case ne2 => first | k_is | kernel_rfl | rfl | decide +kernel)
    (case nl1 => first | k_is | kernel_rfl | rfl | decide +kernel)
    (case nl2 => first | k_is | kernel_rfl | rfl | decide +kernel)
    (case ci1 => first | k_is | kernel_rfl | rfl | decide +kernel)
    (case ci2 => first | k_is | kernel_rfl | rfl | decide +kernel)
    (case ci3 => first | k_is | kernel_rfl | rfl | decide +kernel)
    (case nf_B => first | k_is | kernel_rfl | rfl | decide +kernel)
    (case nf_S => first | k_is | kernel_rfl | rfl | decide +kernel)
    (case nf_L => first | k_is | kernel_rfl | rfl | decide +kernel)
    (case ki_B => first | k_is | kernel_rfl | rfl | decide +kernel)
    (case ki_S => first | k_is | kernel_rfl | rfl | decide +kernel)
    (case ki_L => first | k_is | kernel_rfl | rfl | decide +kernel)
    (case fi_usual => first | k_is | kernel_rfl | rfl | decide +kernel)
    (case fi_read => first | k_is | kernel_rfl | rfl | decide +kernel)
#print axioms PySem.Challenge.cw_latequestions_k13_books_turned_holds
