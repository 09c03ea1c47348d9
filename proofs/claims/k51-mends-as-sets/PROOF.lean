import PyProof.Rows.All
import Wide.All
import OpenK.AllK
import Wide.FinOn
import HandS.ForMost
import HandS.More
import HandS.Star
import HandS.Walk
import HandS.DictComp
import HandS.Steps
import HandS.IsInst
import KE.KExcSuper
import HandS.Base
import HandS.Call
import HandS.Exc
import HandS.ExcOwn
import HandS.ExcField
import HandS.ExcSuper
import HandS.TryMany
import HandS.WordsExc
import HandS.Dict
import KE.KTab
import HandS.Defaults
import HandS.Deep
import HandS.ClsMeth
import HandS.Zip
import HandS.Words
import HandS.List
import HandS.Iter
import HandS.Zip0
import OpenK.KMeth
import HandS.IterVal
import HandS.OwnIter
import HandS.SortRule
import PyProof.Rows.SortKeyStr
import HandS.Strs
import HandS.Wide
import HandS.Style
import HandS.Text
import HandS.ExcIs
import KE.KExcIs
import KE.KRevSl
import HandS.Codes
import HandS.Comp
import HandS.TupAny
import HandS.ForExc
import HandS.Ends
import PyProof.ReprRoads
import PyProof.ReprBulk
import PyProof.FitsInt
import PyProof.Rows.RegStrFacts
import PyProof.Conv_bool
import KE.KCallOwn
import PyProof.StrBlock2
import HandS.MakeKw
import HandS.SetFor
import HandS.FStr
import PySem.Challenge.RW_latequestions_k51_mends_as_sets
set_option Elab.async false
set_option linter.all false
set_option maxRecDepth 100000
set_option maxHeartbeats 2000000
/-! own operations of an instance: len(x), v in x, truth of x, by the def that the class has -/
namespace Lx
open PySem PySem.Spec PyProof.Rows L2
section
variable {X : Cx} {CX : CXT} {k : Nat} {f C : Addr} {sp : Sp} {E : XK}
/-- a def called somewhere below the running body -/
theorem run_at {A : Around} {pins : List (Addr × Obj)} {σ : L2.St} {H : Hp} {s : Shared} {Q : VK} {us : List Value} {vs : List V} (F : FnR X.prog X.w X.K X.mg X.base CX k f sp) (hr : Room k A) (hfr : A.frames = X.A.frames) (hx : Passes CX X E)
    (I : Inv X pins σ H s) (r : Vals vs us) (h : sp vs H Q E) : wpAny (model X.prog X.w) A (call (.ref f) us) (EP X pins σ Q) X.xe s := by
  have e0 : Env0 X.prog X.w X.K X.mg X.base A X.stack s H := by
    have e := I.env0
    exact ⟨by rw [hfr]; exact e.frames, e.mod, e.bs, e.bsz, e.funs, e.frf, e.hok, e.bare⟩
  refine wpAny_call (codeAny_mono (F A X.stack s H us vs Q E hr e0 r h) fun r s' hq => ?_)
  cases r with
  | error e => exact hx pins σ H s e s' I hq
  | ok fl =>
    cases fl with
    | ret u => exact I.after hq
    | next => exact False.elim hq
    | brk => exact False.elim hq
    | cont => exact False.elim hq
/-- the instance as the model sees it -/
theorem inst_at {pins : List (Addr × Obj)} {σ : L2.St} {H : Hp} {s : Shared} {a dx : Addr} {fs : List (Str × V)} (I : Inv X pins σ H s) (h : H a = some (.ins C dx fs)) : ∃ ox od, PySem.W.InstAt s.heap a ox C od := by
  obtain ⟨mA, O, _⟩ := ins_get I.hok h
  obtain ⟨od, J, _⟩ := O.look
  exact ⟨_, _, J⟩
/-- what a class must have for an own special method -/
structure Spec1 (K : PySem.W.Frag) (C : Addr) (m : Str) (g : Addr) : Prop where
  at_ : PySem.W.findIn K (.ref C) m = some (some (.ref g))
  fn : PySem.W.isFn K (.ref g) = true
def rLenO (K : PySem.W.Frag) (C : Addr) (sp : Sp) (E : XK) : List V → Hp → VK → Prop := fun xs H Q => ∃ a dx fs, xs = [.ref a] ∧ H a = some (.ins C dx fs) ∧
  sp [.ref a] H (fun v H' => ∃ n : Int, v = .int n ∧ 0 ≤ n ∧ n < 2 ^ 63 ∧ Q (.int n) H') E
/-- len(x) by the own def -/
theorem call_lenO (S : Spec1 X.K C "__len__" f) (F : FnR X.prog X.w X.K X.mg X.base CX k f sp) (hr : Room (k + 1) X.A) (hx : Passes CX X E) : CallR X (.builtin "len") (rLenO X.K C sp E) := by
  intro pins s σ H xs us Q I r h
  obtain ⟨a, dx, fs, rfl, ha, h⟩ := h
  obtain ⟨u, rfl, rfl⟩ := vals1 r
  obtain ⟨ox, od, J⟩ := inst_at I ha
  obtain ⟨m, hF⟩ := I.fr
  refine PySem.W.len_K hF I.ok.mod.kin J S.at_ S.fn ?_
  refine wpAny_mono (run_at (A := X.A.in1) (us := [.ref a]) (vs := [.ref a]) F hr.in1 rfl hx I (.cons rfl .nil) h) (fun v s' q => ?_) fun _ _ z => z
  obtain ⟨w', H', I', rv, n, rfl, h0, h1, q⟩ := q
  obtain ⟨t, rfl⟩ := rv
  exact ⟨⟨h0, h1⟩, .int n, H', I'.tok _, ⟨_, rfl⟩, q⟩
theorem contains_K {M : Model} {A : Around} {E : Value → Shared → Prop} {s : Shared} {K : PySem.W.Frag} {x C f : Addr} {ox : Obj} {od : Option Obj} {y : Value} {Q : Bool → Shared → Prop} (X : K.In s.heap) (I : PySem.W.InstAt s.heap x ox C od)
    (hs : PySem.W.findIn K (.ref C) "__contains__" = some (some (.ref f))) (hf : PySem.W.isFn K (.ref f) = true)
    (h : wpAny M A (call (.ref f) [.ref x, y]) (fun r s' => wpAny M A (truthy r) Q E s') E s) : wpAny M A (contains (.ref x) y) Q E s := by
  unfold contains
  refine wpAny_holding ?_
  show wpAny M A (specialOf (.ref x) "__contains__" >>= fun _ => _) Q E s
  refine wpAny_bind (wpAny_bind (I.type.here ((PySem.W.looks_findIn X hs).here ?_)))
  show wpAny M A (if (some (Value.ref f) == some Value.none) = true then _ else _) Q E s
  rw [if_neg (by simp)]
  refine wpAny_bind (m := callSpecialUnlessNone? (.ref x) "__contains__" [y] _) ?_
  unfold callSpecialUnlessNone?
  refine wpAny_bind (wpAny_bind (I.type.here ((PySem.W.looks_findIn X hs).here ?_)))
  refine wpAny_holding (wpAny_bind ((PySem.W.bind_fn X _ (beq_iff_eq.mp hf)).here ?_))
  show wpAny M A (if (Value.ref f == Value.none) = true then _ else _) _ E s
  rw [if_neg (by simp)]
  exact wpAny_bind (wpAny_mono h (fun r s' q => wpAny_pure q) fun _ _ z => z)
def rInO (K : PySem.W.Frag) (neg : Bool) (C : Addr) (sp : Sp) (E : XK) : R2 := fun y x H Q => ∃ a dx fs, x = .ref a ∧ H a = some (.ins C dx fs) ∧
  sp [.ref a, y] H (fun v H' => ∃ b : Bool, v = .bl b ∧ Q (.bl (if neg then !b else b)) H') E
/-- y in x by the own def that gives True or False -/
theorem op_inO (S : Spec1 X.K C "__contains__" f) (F : FnR X.prog X.w X.K X.mg X.base CX k f sp) (hr : Room k X.A) (hx : Passes CX X E) : OpR X (compareOp .In) (rInO X.K false C sp E) := by
  intro pins s σ H y x v u Q I ry rx h
  obtain ⟨a, dx, fs, rfl, ha, h⟩ := h
  obtain rfl : u = Value.ref a := rx
  obtain ⟨ox, od, J⟩ := inst_at I ha
  show wpAny _ _ (contains (.ref a) v >>= fun b => pure (Value.bool b)) _ _ _
  refine wpAny_bind (contains_K I.kIn J S.at_ S.fn (wpAny_mono (run_at (A := X.A) (us := [.ref a, v]) (vs := [.ref a, y]) F hr rfl hx I (.cons rfl (.cons ry .nil)) h) (fun r s' q => ?_) fun _ _ z => z))
  obtain ⟨w', H', I', rv, b, rfl, q⟩ := q
  cases rv
  exact wpAny_truthy_bool (wpAny_pure ⟨.bl b, H', I', rfl, q⟩)
theorem op_notInO (S : Spec1 X.K C "__contains__" f) (F : FnR X.prog X.w X.K X.mg X.base CX k f sp) (hr : Room k X.A) (hx : Passes CX X E) : OpR X (compareOp .NotIn) (rInO X.K true C sp E) := by
  intro pins s σ H y x v u Q I ry rx h
  obtain ⟨a, dx, fs, rfl, ha, h⟩ := h
  obtain rfl : u = Value.ref a := rx
  obtain ⟨ox, od, J⟩ := inst_at I ha
  show wpAny _ _ (contains (.ref a) v >>= fun b => pure (Value.bool (!b))) _ _ _
  refine wpAny_bind (contains_K I.kIn J S.at_ S.fn (wpAny_mono (run_at (A := X.A) (us := [.ref a, v]) (vs := [.ref a, y]) F hr rfl hx I (.cons rfl (.cons ry .nil)) h) (fun r s' q => ?_) fun _ _ z => z))
  obtain ⟨w', H', I', rv, b, rfl, q⟩ := q
  cases rv
  exact wpAny_truthy_bool (wpAny_pure ⟨.bl (!b), H', I', rfl, q⟩)
/-- bool(x) | truth by the own __bool__ -/
def rTruO (K : PySem.W.Frag) (C : Addr) (sp : Sp) (E : XK) : V → Hp → (Bool → Hp → Prop) → Prop := fun x H Q => ∃ a dx fs, x = .ref a ∧ H a = some (.ins C dx fs) ∧
  sp [.ref a] H (fun v H' => ∃ b : Bool, v = .bl b ∧ Q b H') E
theorem tru_own (S : Spec1 X.K C "__bool__" f) (F : FnR X.prog X.w X.K X.mg X.base CX k f sp) (hr : Room k X.A) (hx : Passes CX X E) : TruR X (rTruO X.K C sp E) := by
  intro pins s σ H x v Q I rx h
  obtain ⟨a, dx, fs, rfl, ha, h⟩ := h
  obtain rfl : v = Value.ref a := rx
  obtain ⟨ox, od, J⟩ := inst_at I ha
  obtain ⟨m, hF⟩ := I.fr
  refine PySem.W.truthy_K hF I.ok.mod.kin J S.at_ S.fn ?_
  refine wpAny_mono (run_at (A := X.A) (us := [.ref a]) (vs := [.ref a]) F hr rfl hx I (.cons rfl .nil) h) (fun r s' q => ?_) fun _ _ z => z
  obtain ⟨w', H', I', rv, b, rfl, q⟩ := q
  cases rv
  exact ⟨H', I', q⟩
theorem call_repr_bl : CallR X (.builtin "repr") (fun xs H Q => ∃ b, xs = [.bl b] ∧ Q (.str (if b then "True" else "False")) H) := by
  intro pins s σ H xs us Q I r h
  obtain ⟨b, rfl, q⟩ := h
  obtain ⟨u, rfl, rfl⟩ := vals1 r
  exact PySem.P.repr_of_bool ⟨.str _, H, I.tok _, ⟨_, rfl⟩, q⟩
end
end Lx
set_option Elab.async false
set_option linter.all false
set_option maxRecDepth 100000
set_option maxHeartbeats 2000000
/-! heaps that change at one address; dict comprehensions over any walk; two lists of one content -/
namespace Lx
open PySem PySem.Spec PyProof.Rows L2
/-- all that was tracked is as it was, but at the addresses of S -/
def Chg (S : List Addr) (H H' : Hp) : Prop := ∀ a o, a ∉ S → H a = some o → H' a = some o
theorem Chg.refl {S : List Addr} {H : Hp} : Chg S H H := fun _ _ _ h => h
theorem Chg.of {S : List Addr} {H H' : Hp} (s : Same H H') : Chg S H H' := fun a o _ h => s a o h
theorem Chg.trans {S : List Addr} {H H1 H2 : Hp} (x : Chg S H H1) (y : Chg S H1 H2) : Chg S H H2 := fun a o n h => y a o n (x a o n h)
theorem Chg.mono {S T : List Addr} {H H' : Hp} (x : Chg S H H') (h : ∀ a ∈ S, a ∈ T) : Chg T H H' := fun a o n e => x a o (fun z => n (h a z)) e
theorem Chg.upd {b : Addr} {S : List Addr} {H : Hp} {o : HO} : Chg (b :: S) H (L2.upd H b o) := fun a u n h => by
  rw [upd_ne (fun e => n (by rw [e]; exact List.mem_cons_self))]
  exact h
theorem Chg.updm {b : Addr} {S : List Addr} {H : Hp} {o : HO} (m : b ∈ S) : Chg S H (L2.upd H b o) := fun a u n h => by
  rw [upd_ne (fun e => n (by rw [e]; exact m))]
  exact h
theorem Same.new {H : Hp} {p : Addr} {o : HO} (n : H p = none) : Same H (L2.upd H p o) := fun a u h => by
  rw [upd_ne (ne_of_none h n)]
  exact h
theorem Chg.new {S : List Addr} {H : Hp} {p : Addr} {o : HO} (n : H p = none) : Chg S H (L2.upd H p o) := Chg.of (Same.new n)
theorem none_ne {H : Hp} {a p : Addr} {o : HO} (h : H a = some o) (n : H p = none) : p ≠ a := fun e => by
  rw [e, h] at n
  cases n
/-- an old heap is kept by what changes things that it does not know -/
theorem Same.chg {H0 H H' : Hp} {S : List Addr} (s : Same H0 H) (n : ∀ b ∈ S, H0 b = none) (c : Chg S H H') : Same H0 H' := fun a o h => c a o (fun m => by
  rw [n a m] at h
  cases h) (s a o h)
theorem Same.mut {H0 H : Hp} {b : Addr} {o : HO} (s : Same H0 H) (n : H0 b = none) : Same H0 (L2.upd H b o) := Same.chg (S := [b]) s (fun c hc => by
  rw [List.mem_singleton.mp hc]
  exact n) Chg.upd
/-- what the old heap does not know may change -/
theorem Chg.mut {S : List Addr} {H H' : Hp} {p : Addr} {o : HO} (c : Chg S H H') (n : H p = none) : Chg S H (L2.upd H' p o) := fun a u m h => by
  rw [upd_ne (ne_of_none h n)]
  exact c a u m h
/-- a fresh thing behind a change was fresh before -/
theorem Chg.back {S : List Addr} {H H' : Hp} {p : Addr} (c : Chg S H H') (n : H' p = none) (h : p ∉ S) : H p = none := by
  cases e : H p with
  | none => rfl
  | some o =>
    rw [c _ _ h e] at n
    cases n
theorem all1 {P : Addr → Prop} {b : Addr} (h : P b) : ∀ x ∈ [b], P x := fun x hx => by
  rw [List.mem_singleton.mp hx]
  exact h
theorem all2 {P : Addr → Prop} {b c : Addr} (h : P b) (h2 : P c) : ∀ x ∈ [b, c], P x := fun x hx => by
  rcases List.mem_cons.mp hx with e | hx
  · rw [e]; exact h
  · rw [List.mem_singleton.mp hx]; exact h2
theorem all3 {P : Addr → Prop} {b c d : Addr} (h : P b) (h2 : P c) (h3 : P d) : ∀ x ∈ [b, c, d], P x := fun x hx => by
  rcases List.mem_cons.mp hx with e | hx
  · rw [e]; exact h
  · exact all2 h2 h3 x hx
theorem no1 {a b : Addr} (h : a ≠ b) : a ∉ [b] := fun m => h (List.mem_singleton.mp m)
theorem no2 {a b c : Addr} (h : a ≠ b) (h2 : a ≠ c) : a ∉ [b, c] := fun m => by
  rcases List.mem_cons.mp m with e | m
  · exact h e
  · exact no1 h2 m
theorem no3 {a b c d : Addr} (h : a ≠ b) (h2 : a ≠ c) (h3 : a ≠ d) : a ∉ [b, c, d] := fun m => by
  rcases List.mem_cons.mp m with e | m
  · exact h e
  · exact no2 h2 h3 m
/-- a fresh address stands apart from all that is there -/
theorem new_no {S : List Addr} {H : Hp} {p : Addr} (n : H p = none) (h : ∀ b ∈ S, ∃ o, H b = some o) : p ∉ S := fun m => by
  obtain ⟨o, e⟩ := h p m
  rw [n] at e
  cases e
/-- a thing that stands apart from S -/
def Lv (S : List Addr) (H : Hp) (a : Addr) (o : HO) : Prop := a ∉ S ∧ H a = some o
theorem Lv.mv {S : List Addr} {a : Addr} {H H' : Hp} {o : HO} (l : Lv S H a o) (c : Chg S H H') : Lv S H' a o := ⟨l.1, c a o l.1 l.2⟩
theorem keep_set {H : Hp} {x a : Addr} {o u : HO} (h : a ≠ x) (e : H a = some o) : L2.upd H x u a = some o := by
  rw [upd_ne h]
  exact e
theorem Same.back {H H' : Hp} {p : Addr} (s : Same H H') (n : H' p = none) : H p = none := by
  cases e : H p with
  | none => rfl
  | some o =>
    rw [s _ _ e] at n
    cases n
theorem seqT_same {K : PySem.W.Frag} {H H' : Hp} {a : Addr} {xs : List V} (e : Same H H') (h : SqT K H a xs) : SqT K H' a xs := by
  rcases h with (h | ⟨o, h⟩) | h
  · exact .inl (.inl (e _ _ h))
  · exact .inl (.inr ⟨o, e _ _ h⟩)
  · exact .inr h
/-- a dict comprehension over any walk -/
theorem dc_it {J : It} {n : Nat} {G : Hp → Prop} {Y : Nat → Hp → V → Hp → Prop} (w : Walk J n G Y) {g : TG} {tt : TT} {tk tv : TE} {vs : List Nat} {σ : L2.St} {H1 : Hp} {D : Addr} {Qd : Hp → Prop} (Pv : Nat → Hp → Prop) (h0 : Pv 0 (upd H1 D (.dK []))) (hG : ∀ i H, i ≤ n → Pv i H → G H)
    (hs : ∀ i x H H', i < n → Pv i H → Y i H x H' → g x (wipe σ vs) H' fun σ2 H2 => wipe σ2 vs = wipe σ vs ∧ tt σ2 H2 fun b H3 =>
      if b = true then tk σ2 H3 fun y H4 => tv σ2 H4 fun z H5 => ∃ kvs k, y = kV k ∧ H5 D = some (.dK kvs) ∧ kvs.length < sizeLine ∧ Pv (i + 1) (upd H5 D (.dK (putK kvs k z))) else Pv (i + 1) H3) (hd : ∀ H, Pv n H → Qd H) :
    ∃ W : Nat → Nat → Hp → Prop, (∃ m, W 0 m (upd H1 D (.dK []))) ∧ ∀ i m H, W i m H →
      (J.stop i H ∧ Qd H) ∨ (J.go i H ∧ ∃ Nx : Hp → Prop, (∀ H', Nx H' → ∃ m', m' < m ∧ W (i + 1) m' H') ∧ ∀ x H', J.yld i H x H' → g x (wipe σ vs) H' fun σ2 H2 => wipe σ2 vs = wipe σ vs ∧ tt σ2 H2 fun b H3 =>
        if b = true then tk σ2 H3 fun y H4 => tv σ2 H4 fun z H5 => ∃ kvs k, y = kV k ∧ H5 D = some (.dK kvs) ∧ kvs.length < sizeLine ∧ Nx (upd H5 D (.dK (putK kvs k z))) else Nx H3) := by
  refine ⟨fun i m H => m = n - i ∧ i ≤ n ∧ Pv i H, ⟨n, by simp, Nat.zero_le _, h0⟩, ?_⟩
  rintro i m H ⟨rfl, hi, p⟩
  have q := hG i H hi p
  by_cases hlt : i < n
  · refine .inr ⟨w.goes i H hlt q, Pv (i + 1), fun H' p' => ⟨n - (i + 1), by omega, rfl, hlt, p'⟩, fun x H' y => hs i x H H' hlt p (w.yields i H x H' hlt q y)⟩
  · have e : i = n := by omega
    subst e
    exact .inl ⟨w.stops H q, hd H p⟩
/-! ### plain lists -/
theorem nodup_len {α : Type} [DecidableEq α] : ∀ (l m : List α), l.Nodup → (∀ x ∈ l, x ∈ m) → l.length ≤ m.length
  | [], _, _, _ => Nat.zero_le _
  | a :: l, m, hn, hs => by
    have ha := hs a List.mem_cons_self
    have ih := nodup_len l (m.erase a) (List.nodup_cons.mp hn).2 fun x hx => by
      have hxa : x ≠ a := fun e => (List.nodup_cons.mp hn).1 (e ▸ hx)
      exact (List.mem_erase_of_ne hxa).mpr (hs x (List.mem_cons_of_mem _ hx))
    rw [List.length_erase_of_mem ha] at ih
    have := List.length_pos_of_mem ha
    rw [List.length_cons]; omega
theorem nodup_same {α : Type} [DecidableEq α] (l m : List α) (hl : l.Nodup) (hm : m.Nodup) (h : ∀ x, x ∈ l ↔ x ∈ m) : l.length = m.length :=
  Nat.le_antisymm (nodup_len l m hl fun x => (h x).mp) (nodup_len m l hm fun x => (h x).mpr)
/-- the different items, by their first places -/
def dd {α : Type} [DecidableEq α] (ns : List α) : List α := ns.foldl (fun acc n => if n ∈ acc then acc else acc ++ [n]) []
theorem dd_snoc {α : Type} [DecidableEq α] (ns : List α) (n : α) : dd (ns ++ [n]) = if n ∈ dd ns then dd ns else dd ns ++ [n] := by
  unfold dd; rw [List.foldl_append]; rfl
theorem dd_facts {α : Type} [DecidableEq α] (ns : List α) : (dd ns).Nodup ∧ (∀ x, x ∈ dd ns ↔ x ∈ ns) ∧ (dd ns).length ≤ ns.length := by
  suffices h : ∀ k, (dd (ns.take k)).Nodup ∧ (∀ x, x ∈ dd (ns.take k) ↔ x ∈ ns.take k) ∧ (dd (ns.take k)).length ≤ (ns.take k).length by
    have := h ns.length
    rwa [List.take_length] at this
  intro k
  induction k with
  | zero => simp [dd]
  | succ k ih =>
    by_cases hk : k < ns.length
    · rw [List.take_succ_eq_append_getElem hk, dd_snoc]
      obtain ⟨h1, h2, h3⟩ := ih
      split
      · rename_i hm
        refine ⟨h1, fun x => ?_, by rw [List.length_append]; omega⟩
        rw [h2, List.mem_append, List.mem_singleton]
        constructor
        · exact Or.inl
        · rintro (h | rfl)
          · exact h
          · exact (h2 _).mp hm
      · rename_i hm
        refine ⟨?_, fun x => ?_, by simp only [List.length_append, List.length_singleton]; omega⟩
        · rw [List.nodup_append]
          refine ⟨h1, by simp, fun a ha b hb e => ?_⟩
          rw [List.mem_singleton] at hb
          subst hb; subst e
          exact hm ha
        · rw [List.mem_append, List.mem_append, h2]
    · rw [List.take_of_length_le (by omega)] at ih ⊢
      exact ih
theorem inV_int (n : Int) (ns : List Int) : inV (.int n) (ns.map V.int) = decide (n ∈ ns) := by
  unfold inV
  induction ns with
  | nil => rfl
  | cons m r ih =>
    rw [List.map_cons, List.any_cons, ih]
    have e : eqV (.int m) (.int n) = decide (n = m) := by
      show (m == n) = decide (n = m)
      rw [Bool.beq_comm, Bool.beq_eq_decide_eq]
    rw [e]
    by_cases h : n = m
    · subst h; simp
    · by_cases h2 : n ∈ r
      · simp [h, h2]
      · simp [h, h2]
theorem flat_ints (ns : List Int) : (ns.map V.int).all flatV = true := by
  rw [List.all_eq_true]
  intro x hx
  obtain ⟨n, _, rfl⟩ := List.mem_map.mp hx
  rfl
theorem get_int {ns : List Int} {i : Nat} {x : V} (h : (ns.map V.int)[i]? = some x) : ∃ n, ns[i]? = some n ∧ x = .int n := by
  rw [List.getElem?_map] at h
  cases e : ns[i]? with
  | none => rw [e] at h; cases h
  | some u => rw [e] at h; exact ⟨u, rfl, (Option.some.inj h).symm⟩
theorem cut_front {xs : List V} {k : Nat} (h : k ≤ xs.length) : cutV xs none (some (k : Int)) = xs.take k := by
  unfold cutV
  rw [HT.sIx_none, HT.sIx_nat]
  simp [Nat.min_eq_left h]
theorem cut_front_le {xs : List V} {k : Nat} : cutV xs none (some (k : Int)) = xs.take k := by
  unfold cutV
  rw [HT.sIx_none, HT.sIx_nat, List.drop_zero, Nat.sub_zero]
  rw [List.take_eq_take_iff]; omega
theorem cut_back {xs : List V} {k : Nat} : cutV xs (some (k : Int)) none = xs.drop k := by
  unfold cutV
  rw [HT.sIx_none, HT.sIx_nat]
  by_cases h : k ≤ xs.length
  · rw [Nat.min_eq_left h, List.take_of_length_le (by rw [List.length_drop]; omega)]
  · rw [Nat.min_eq_right (by omega), List.drop_of_length_le (Nat.le_refl _), List.drop_of_length_le (by omega)]
    try simp
end Lx
set_option Elab.async false
set_option linter.all false
set_option maxRecDepth 100000
set_option maxHeartbeats 2000000
/-! readings joined behind a conditional expression -/
namespace Lx
open PySem PySem.Spec PyProof.Rows L2
section
variable {σ : L2.St} {H : Hp} {t : TT} {ta tb : TE} {Q : VK} {c : Bool}
/-- a if t else b: both give an int, which one is forgotten -/
theorem if_int (ht : Ans t σ H c) (ha : c = true → ∃ n : Int, Val ta σ H (.int n)) (hb : c = false → ∃ n : Int, Val tb σ H (.int n)) (rest : ∀ n : Int, Q (.int n) H) : tIf t ta tb σ H Q := by
  refine ht _ ?_
  cases c with
  | true => obtain ⟨n, h⟩ := ha rfl; exact h _ (rest n)
  | false => obtain ⟨n, h⟩ := hb rfl; exact h _ (rest n)
/-- the same with what is known of the int -/
theorem if_intP (P : Int → Prop) (ht : Ans t σ H c) (ha : c = true → ∃ n : Int, P n ∧ Val ta σ H (.int n)) (hb : c = false → ∃ n : Int, P n ∧ Val tb σ H (.int n)) (rest : ∀ n : Int, P n → Q (.int n) H) : tIf t ta tb σ H Q := by
  refine ht _ ?_
  cases c with
  | true => obtain ⟨n, hp, h⟩ := ha rfl; exact h _ (rest n hp)
  | false => obtain ⟨n, hp, h⟩ := hb rfl; exact h _ (rest n hp)
/-- values of any kind -/
theorem if_valP (P : V → Prop) (ht : Ans t σ H c) (ha : c = true → ∃ v : V, P v ∧ Val ta σ H v) (hb : c = false → ∃ v : V, P v ∧ Val tb σ H v) (rest : ∀ v : V, P v → Q v H) : tIf t ta tb σ H Q := by
  refine ht _ ?_
  cases c with
  | true => obtain ⟨n, hp, h⟩ := ha rfl; exact h _ (rest n hp)
  | false => obtain ⟨n, hp, h⟩ := hb rfl; exact h _ (rest n hp)
end
theorem dec_true {c : Prop} [Decidable c] (h : decide c = true) : c := of_decide_eq_true h
theorem dec_false {c : Prop} [Decidable c] (h : decide c = false) : ¬ c := of_decide_eq_false h
end Lx
set_option Elab.async false
set_option linter.all false
set_option maxRecDepth 100000
set_option maxHeartbeats 2000000
/-! rules whose reading names the written part K itself (within a comprehension's block the context is another one, its K the same) -/
namespace Lx
open PySem PySem.Spec PyProof.Rows L2
section
variable {X : Cx} {K : PySem.W.Frag}
theorem ix_listK (e : X.K = K) : IxR X (rIxL K) := e ▸ ix_list
theorem ix_tupK (e : X.K = K) : IxR X (rIxT K) := e ▸ ix_tup
theorem sl_listK (e : X.K = K) : SlR X (rSlL K) := e ▸ sl_list
theorem sl_tupK (e : X.K = K) : SlR X (rSlT K) := e ▸ sl_tup
theorem op_in_seqK (e : X.K = K) : OpR X (compareOp .In) (rIn K false) := e ▸ op_in_seq
theorem op_notIn_seqK (e : X.K = K) : OpR X (compareOp .NotIn) (rIn K true) := e ▸ op_notIn_seq
theorem op_eqDK (e : X.K = K) (hu : X.A.units + 64 < cLine) : OpR X (compareOp .Eq) (rEqD K) := e ▸ op_eqD hu
theorem op_neDK (e : X.K = K) (hu : X.A.units + 64 < cLine) : OpR X (compareOp .NotEq) (rNeD K) := e ▸ op_neD hu
theorem op_catTK (e : X.K = K) : OpR X (binaryOp .Add) (rCatT K) := e ▸ op_catT
/-- len of a list or tuple -/
def rLenQ (K : PySem.W.Frag) : List V → Hp → VK → Prop := fun xs H Q => ∃ p ys, xs = [.ref p] ∧ (SqL K H p ys ∨ SqT K H p ys) ∧ Q (.int ys.length) H
theorem call_len_seqK (e : X.K = K) : CallR X (.builtin "len") (rLenQ K) := e ▸ call_len_seq
def rListOf (K : PySem.W.Frag) : List V → Hp → VK → Prop := fun xs H Q => ∃ p ys, xs = [.ref p] ∧ (SqL K H p ys ∨ SqT K H p ys) ∧ ∀ l, H l = none → Q (.ref l) (upd H l (.lst ys))
theorem call_list_ofK (e : X.K = K) : CallR X (.type "list") (rListOf K) := e ▸ call_list_of
theorem pe_fldK {o : Expr} {ta : TE} {f : Str} {pos : Pos} (e : X.K = K) (he : PE X o ta) (hb : attributeBase o f X.env (eval o X.env) = eval o X.env) : PE X (.Attribute o f pos) (tFld K ta f) := e ▸ pe_fld he hb
end
end Lx
set_option Elab.async false
set_option linter.all false
set_option maxRecDepth 100000
set_option maxHeartbeats 2000000
/-! operators that an own class defines, over the layer: ==, !=, [], str(x), | & ~, |= -/
namespace Lx
open PySem PySem.Spec PyProof.Rows L2
/-! ### != where the class has == alone -/
section
variable {prog : Program} {w : World} {A : Around} {E : Value → Shared → Prop} {s : Shared} {K : PySem.W.Frag} {x C L f : Addr} {h0 : Heap} {m : Str → Option Value} {ox : Obj} {od : Option Obj} {b tb : Value}
theorem ifBound_B {M : Model} {A : Around} {E : Value → Shared → Prop} {name : Str} {id : String} {args : List Value} {Q : Option Value → Shared → Prop} (X : K.In s.heap) (I : PySem.W.InstAt s.heap x ox C od) (hs : PySem.W.findIn K (.ref C) name = some (some (.builtin id)))
    (hb : ∀ self, bindSpecial (.builtin id) self = pure (.builtin id, [self])) (h : wpAny M A (call (.builtin id) (.ref x :: args)) (fun v => Q (some v)) E s) : wpAny M A (callSpecialIfBound? (.ref x) name args) Q E s := by
  simp only [callSpecialIfBound?, bindSpecialIfBound?]
  refine wpAny_holding (wpAny_bind (wpAny_bind (wpAny_bind (I.type.here ((PySem.W.looks_findIn X hs).here ?_)))))
  refine wpAny_bind (wpAny_askSetting (wpAny_ite ?_))
  have fin : wpAny M A (call (.builtin id) ([.ref x] ++ args) >>= fun v => pure (some v)) Q E s := wpAny_bind (wpAny_mono h (fun v s' h' => wpAny_pure h') fun _ _ h' => h')
  rw [hb]
  split
  · exact wpAny_bind (wpAny_pure (wpAny_pure (by exact fin)))
  · exact wpAny_tryCatch (wpAny_bind (wpAny_pure (wpAny_pure (by exact fin))))
open Builtin in
theorem one_ne (hu : A.units + 1 < cLine) (X : K.In s.heap) (I : PySem.W.InstAt s.heap x ox C od) (hne : PySem.W.findIn K (.ref C) "__ne__" = some (some (.builtin "object.__ne__"))) (hm : PySem.W.mroIn K C (.type "object") = some true)
    (hs : PySem.W.findIn K (.ref C) "__eq__" = some (some (.ref f))) (hf : PySem.W.isFn K (.ref f) = true) {Q : Value → Shared → Prop}
    (h : wpAny (model prog w) A.in1 (call (.ref f) [.ref x, b]) (fun v s' => ∃ k, v = .bool k ∧ Q (.bool (!k)) s') E s) :
    wpAny (model prog w) A (call (.builtin "object.__ne__") [.ref x, b]) Q E s := by
  refine wpAny_call (codeAny_call_builtin PySem.F.cmp_object.ne.plain PySem.F.cmpEntry_ne (PySem.W.check_slot (i := "object.__ne__") (owner := "object") (n := "__ne__") PySem.F.cmpKind_ne PySem.F.cmpSplit_ne (I.type.andThen (PySem.W.looks_mroIn X hm)) (PySem.F.cmpArgs_ne _ _) ?_))
  unfold Builtin.«object.__ne__»
  refine wpAny_bind (m := slotArgs "__ne__" 1 _) (wpAny_pure ?_)
  refine wpAny_bind (m := cRoomFor _ _) (wpAny_cRoomFor (by show A.units + 1 < cLine; exact hu) ?_)
  refine wpAny_bind (m := callSpecialIfBound? (.ref x) (Str.ofString "__eq__") _) (PySem.W.ifBound_K X I hs hf (wpAny_mono h (fun v s' hq => ?_) fun _ _ e => e))
  obtain ⟨k, rfl, hq⟩ := hq
  exact wpAny_bind (m := truthy (.bool _)) (wpAny_truthy_bool (wpAny_pure hq))
theorem ne_K {Q : Value → Shared → Prop} (hu : A.units + 1 < cLine) (F : Fr h0 L s.heap m) (X₀ : K.In h0) (I : PySem.W.InstAt s.heap x ox C od) (hb : PySem.W.Looks (model prog w) s.heap (typeOf b) tb) (hn : PySem.W.notFirst K C tb = true)
    (hne : PySem.W.findIn K (.ref C) "__ne__" = some (some (.builtin "object.__ne__"))) (hm : PySem.W.mroIn K C (.type "object") = some true)
    (hs : PySem.W.findIn K (.ref C) "__eq__" = some (some (.ref f))) (hf : PySem.W.isFn K (.ref f) = true)
    (h : wpAny (model prog w) A.in1 (call (.ref f) [.ref x, b]) (fun v s' => ∃ k, v = .bool k ∧ Q (.bool (!k)) s') E s) : wpAny (model prog w) A (richCompare .NotEq (.ref x) b) Q E s := by
  have X := X₀.keeps F.keep
  have one : wpAny (model prog w) A (tryCompare (.ref x) (cmpInfo .NotEq).2.1 b) (fun r s' => ∃ v, r = some v ∧ Q v s') E s := by
    unfold tryCompare
    refine wpAny_bind (m := callSpecialIfBound? (.ref x) (Str.ofString "__ne__") _) (ifBound_B X I hne PySem.F.cmp_object.ne.bind (one_ne hu X I hne hm hs hf (wpAny_mono h (fun v s' hq => ?_) fun _ _ e => e)))
    obtain ⟨k, rfl, hq⟩ := hq
    exact ⟨k, rfl, wpAny_pure ⟨_, rfl, hq⟩⟩
  unfold richCompare
  simp only [oneThing_ref]
  refine wpAny_holding (wpAny_bind (wpAny_cRoomFor (Nat.lt_of_succ_lt hu) ?_))
  refine wpAny_bind (I.type.here (wpAny_bind (hb.here ?_)))
  split
  · rename_i q
    have e : PySem.W.subIn K tb (.ref C) = some false := by
      rcases Bool.or_eq_true_iff.mp hn with e | e
      · rw [beq_iff_eq.mp e] at q; simp at q
      · exact beq_iff_eq.mp e
    refine wpAny_bind ((PySem.W.looks_subIn X e).here ?_)
    simp only [Bool.false_eq_true, if_false]
    refine wpAny_bind (wpAny_mono one (fun r s' z => ?_) fun _ _ e => e)
    obtain ⟨v, rfl, hq⟩ := z
    exact wpAny_pure hq
  · refine wpAny_bind (wpAny_pure ?_)
    simp only [Bool.false_eq_true, if_false]
    refine wpAny_bind (wpAny_mono one (fun r s' z => ?_) fun _ _ e => e)
    obtain ⟨v, rfl, hq⟩ := z
    exact wpAny_pure hq
end
/-! ### over the layer -/
section
variable {X : Cx} {CX : CXT} {k : Nat} {f C : Addr} {sp : Sp} {E : XK}
/-- == by the own def, whatever stands on the right -/
def rEqO (K : PySem.W.Frag) (neg : Bool) (C : Addr) (sp : Sp) (E : XK) : R2 := fun x y H Q => ∃ a dx fs t, x = .ref a ∧ H a = some (.ins C dx fs) ∧ TyX K H y t ∧ PySem.W.notFirst K C t = true ∧
  sp [.ref a, y] H (fun v H' => ∃ b : Bool, v = .bl b ∧ Q (.bl (if neg then !b else b)) H') E
theorem op_eqO (S : Spec1 X.K C "__eq__" f) (F : FnR X.prog X.w X.K X.mg X.base CX k f sp) (hr : Room k X.A) (hx : Passes CX X E) : OpR X (compareOp .Eq) (rEqO X.K false C sp E) := by
  intro pins s σ H x y v u Q I rx ry h
  obtain ⟨a, dx, fs, t, rfl, ha, ty, hn, h⟩ := h
  obtain rfl : v = Value.ref a := rx
  obtain ⟨ox, od, J⟩ := inst_at I ha
  obtain ⟨m, hF⟩ := I.fr
  obtain ⟨P, Z, p, _⟩ := kit_of I ry ty
  show wpAny _ _ (richCompare .Eq (.ref a) u) _ _ _
  refine PySem.W.cmp_K (op := .Eq) (tb := t) hr.units0 hF I.ok.mod.kin J (Z.ty _ _ I.kIn p) hn S.at_ S.fn ?_
  refine wpAny_mono (run_at (A := X.A) (us := [.ref a, u]) (vs := [.ref a, y]) F hr rfl hx I (.cons rfl (.cons ry .nil)) h) (fun r s' q => ?_) fun _ _ z => z
  obtain ⟨w', H', I', rv, b, rfl, q⟩ := q
  cases rv
  exact ⟨.bl b, H', I', rfl, q⟩
/-- what != wants of the class besides -/
structure NeC (K : PySem.W.Frag) (C : Addr) : Prop where
  ne : PySem.W.findIn K (.ref C) "__ne__" = some (some (.builtin "object.__ne__"))
  mro : PySem.W.mroIn K C (.type "object") = some true
theorem op_neO (S : Spec1 X.K C "__eq__" f) (N : NeC X.K C) (F : FnR X.prog X.w X.K X.mg X.base CX k f sp) (hr : Room (k + 1) X.A) (hx : Passes CX X E) : OpR X (compareOp .NotEq) (rEqO X.K true C sp E) := by
  intro pins s σ H x y v u Q I rx ry h
  obtain ⟨a, dx, fs, t, rfl, ha, ty, hn, h⟩ := h
  obtain rfl : v = Value.ref a := rx
  obtain ⟨ox, od, J⟩ := inst_at I ha
  obtain ⟨m, hF⟩ := I.fr
  obtain ⟨P, Z, p, _⟩ := kit_of I ry ty
  show wpAny _ _ (richCompare .NotEq (.ref a) u) _ _ _
  refine ne_K (tb := t) (by have := hr.units; omega) hF I.ok.mod.kin J (Z.ty _ _ I.kIn p) hn N.ne N.mro S.at_ S.fn ?_
  refine wpAny_mono (run_at (A := X.A.in1) (us := [.ref a, u]) (vs := [.ref a, y]) F hr.in1 rfl hx I (.cons rfl (.cons ry .nil)) h) (fun r s' q => ?_) fun _ _ z => z
  obtain ⟨w', H', I', rv, b, rfl, q⟩ := q
  cases rv
  exact ⟨b, rfl, .bl (!b), H', I', rfl, q⟩
/-- x[i] by the own def -/
def rGetO (K : PySem.W.Frag) (C : Addr) (sp : Sp) (E : XK) : R2 := fun x y H Q => ∃ a dx fs, x = .ref a ∧ H a = some (.ins C dx fs) ∧ sp [.ref a, y] H Q E
/-- own x op y, both of the class -/
def rBinO (C : Addr) (sp : Sp) (E : XK) : R2 := fun x y H Q => ∃ a dx fs b dy gs, x = .ref a ∧ H a = some (.ins C dx fs) ∧ y = .ref b ∧ H b = some (.ins C dy gs) ∧
  sp [.ref a, .ref b] H (fun v H' => (∃ p, v = .ref p) ∧ Q v H') E
theorem op_binO {op : Operator} {nm : Str} (hnm : PySem.dunder op.info.2 = nm) (hc : PySem.W.selfFirst X.K C = true) (S : Spec1 X.K C nm f) (F : FnR X.prog X.w X.K X.mg X.base CX k f sp) (hr : Room k X.A) (hx : Passes CX X E) : OpR X (binaryOp op) (rBinO C sp E) := by
  intro pins s σ H x y v u Q I rx ry h
  obtain ⟨a, dx, fs, b, dy, gs, rfl, ha, rfl, hb, h⟩ := h
  obtain rfl : v = Value.ref a := rx
  obtain rfl : u = Value.ref b := ry
  obtain ⟨ox, od, J⟩ := inst_at I ha
  obtain ⟨oy, ody, J2⟩ := inst_at I hb
  obtain ⟨m, hF⟩ := I.fr
  refine PySem.W.binop_K hF I.ok.mod.kin J J2.type hc (by rw [hnm]; exact S.at_) S.fn ?_
  refine wpAny_mono (run_at (A := X.A) (us := [.ref a, .ref b]) (vs := [.ref a, .ref b]) F hr rfl hx I (.cons rfl (.cons rfl .nil)) h) (fun r s' q => ?_) fun _ _ z => z
  obtain ⟨w', H', I', rv, ⟨p, rfl⟩, q⟩ := q
  cases rv
  exact ⟨.ref p, H', I', rfl, q⟩
/-- own x op= y -/
def ipO (C : Addr) (sp : Sp) (E : XK) : TIp := fun x y H Q => ∃ a dx fs, x = .ref a ∧ H a = some (.ins C dx fs) ∧ sp [.ref a, y] H (fun v H' => (∃ p, v = .ref p) ∧ Q v H') E
theorem ip_own {op : Operator} {nm : Str} (hnm : PySem.dunderI op.info.2 = nm) (hc : PySem.W.selfFirst X.K C = true) (S : Spec1 X.K C nm f) (F : FnR X.prog X.w X.K X.mg X.base CX k f sp) (hr : Room k X.A) (hx : Passes CX X E) : PIp X op (ipO C sp E) := by
  intro pins s σ H x y v u Q I rx ry h
  obtain ⟨a, dx, fs, rfl, ha, h⟩ := h
  obtain rfl : v = Value.ref a := rx
  obtain ⟨ox, od, J⟩ := inst_at I ha
  obtain ⟨m, hF⟩ := I.fr
  refine PySem.W.ksp_inplace hF I.ok.mod.kin J hc (by rw [hnm]; exact S.at_) S.fn ?_
  refine wpAny_mono (run_at (A := X.A) (us := [.ref a, u]) (vs := [.ref a, y]) F hr rfl hx I (.cons rfl (.cons ry .nil)) h) (fun r s' q => ?_) fun _ _ z => z
  obtain ⟨w', H', I', rv, ⟨p, rfl⟩, q⟩ := q
  cases rv
  exact ⟨.ref p, H', I', rfl, q⟩
/-- ~x -/
def rInvO (C : Addr) (sp : Sp) (E : XK) : V → Hp → VK → Prop := fun x H Q => ∃ a dx fs, x = .ref a ∧ H a = some (.ins C dx fs) ∧ sp [.ref a] H Q E
theorem un_invO (S : Spec1 X.K C "__invert__" f) (F : FnR X.prog X.w X.K X.mg X.base CX k f sp) (hr : Room k X.A) (hx : Passes CX X E) : UnR X (unaryOp .Invert) (rInvO C sp E) := by
  intro pins s σ H x v Q I rx h
  obtain ⟨a, dx, fs, rfl, ha, h⟩ := h
  obtain rfl : v = Value.ref a := rx
  obtain ⟨ox, od, J⟩ := inst_at I ha
  obtain ⟨m, hF⟩ := I.fr
  exact PySem.W.ksp_inv hF I.ok.mod.kin J S.at_ S.fn (run_at (A := X.A) (us := [.ref a]) (vs := [.ref a]) F hr rfl hx I (.cons rfl .nil) h)
/-- str(x) by the own __str__ -/
def rStrO (C : Addr) (sp : Sp) (E : XK) : List V → Hp → VK → Prop := fun xs H Q => ∃ a dx fs, xs = [.ref a] ∧ H a = some (.ins C dx fs) ∧ sp [.ref a] H (fun v H' => (∃ z : Str, v = .str z) ∧ Q v H') E
theorem call_strO (S : Spec1 X.K C "__str__" f) (F : FnR X.prog X.w X.K X.mg X.base CX k f sp) (hr : Room (k + 2) X.A) (hx : Passes CX X E) : CallR X (.type "str") (rStrO C sp E) := by
  intro pins s σ H xs us Q I r h
  obtain ⟨a, dx, fs, rfl, ha, h⟩ := h
  obtain ⟨u, rfl, rfl⟩ := vals1 r
  obtain ⟨ox, od, J⟩ := inst_at I ha
  refine PySem.W.kso_call (hr.in1.in1.units0) I.kIn J S.at_ S.fn ?_
  refine wpAny_mono (run_at (A := X.A.in1.in1) (us := [.ref a]) (vs := [.ref a]) F hr.in1.in1 rfl hx I (.cons rfl .nil) h) (fun v s' q => ?_) fun _ _ z => z
  obtain ⟨w', H', I', rv, ⟨z, rfl⟩, q⟩ := q
  obtain ⟨t, rfl⟩ := rv
  exact ⟨.str z, H', I', ⟨t, rfl⟩, q⟩
end
end Lx
set_option Elab.async false
set_option linter.all false
set_option maxRecDepth 100000
set_option maxHeartbeats 2000000
/-! exception classes whose built-in base has its `__new__` from another one (KeyError: LookupError's) -/
namespace Lx
open PySem PySem.W PySem.Calls PyProof.Rows HandSPX
/-- what the base's `__init__` is -/
structure InitOf (B initId : String) : Prop where
  init : Slot B "__init__" initId
  entry : entryFor table initId = some Builtin.«BaseException.__init__»
  kind : builtinKind initId = some .slot
  row : Manifest.signature? initId = some ⟨.positional, "*", B, .self, [⟨"args", .varPos, false⟩]⟩
  noStar : (B != "*") = true
theorem InitOf.of {B newId initId : String} (F : ExcCallFacts B newId initId) : InitOf B initId := ⟨F.init, F.initEntry, F.initKind, F.initRow, F.noStar⟩
/-- whose `__new__` it is, what the classes over the own one are -/
def NewOf (newId : String) (bmB : List Value) : Prop := ∃ (B0 i0 : String) (bm0 : List Value), ExcBaseFacts B0 newId i0 bm0 ∧ bmB.contains (.type B0) = true ∧ bmB.contains (.type "AttributeError") = false ∧ bmB.contains (.type "NameError") = false
theorem NewOf.of {B newId initId : String} {bm : List Value} (F : ExcBaseFacts B newId initId bm) : NewOf newId bm := ⟨B, initId, bm, F, F.hasB, F.noAttr, F.noName⟩
section
variable {prog : Program} {w : World} {A : Around} {E : Value → Shared → Prop} {R : Result → Shared → Prop} {h : Heap} {g : Array GenState} {d : Drawn} {t : Nat} {os : OsState}
variable {nm q : Str} {C N : Addr} {bs bm bmB : List Value} {hdct : Bool} {sn : List Str} {sub : List Value} {ab : Bool} {col : Option Bool} {dd : Option Addr} {k0 k1 k2 k3 k5 : Option Value} {B newId initId : String}
theorem bound_own {M : Model} (F : InitOf B initId) {e : Addr} {oe : Obj} {rest : List Value} {Q : Unit → Shared → Prop} (hC : h.get? C = some (excClassObj nm q C N bs bm hdct sn sub ab col dd k0 k1 k2 k3 k5 newId)) (he : h.get? e = some oe) (hcls : oe.cls = .ref C)
    (fin : Q () ⟨h, g, d, t, os⟩) : wpAny M A (checkBoundCall initId ⟨.ref e :: rest, []⟩) Q E ⟨h, g, d, t, os⟩ := by
  have short := F.noStar
  simp only [checkBoundCall, F.kind, F.row]
  repeat (first | (with_reducible refine wpAny_loadPart_at he ?_; rw [hcls]) | with_reducible refine wpAny_loadPart_at hC ?_ | wp_step)
  refine wpAny_onRaise ?_
  have star : ∀ (a b : String) (n : Nat), Bind.check ⟨.positional, "*", B, .self, [⟨"args", .varPos, false⟩]⟩ a b n (List.map (fun x => x.fst) ({ pos := Value.ref e :: rest } : Args).kw) = pure () := fun a b n => check_star_args _ _ _ _ _ _
  rw [star]
  exact wpAny_pure fin
theorem own_new {A' : Around} {B0 i0 : String} {bm0 : List Value} (F : ExcBaseFacts B0 newId i0 bm0) {rest : List Value} (hC : h.get? C = some (excClassObj nm q C N bs bm hdct sn sub ab col dd k0 k1 k2 k3 k5 newId)) (fits : rest.length ≤ sizeLine)
    (cB : (Value.ref C :: bm).contains (.type B0) = true) (cA : (Value.ref C :: bm).contains (.type "AttributeError") = false) (cN : (Value.ref C :: bm).contains (.type "NameError") = false)
    (fin : R (.ok (.ret (.ref (h.objs.size + 1)))) ⟨(h.push (W.kdv_tup rest)).push (excO C h.objs.size), g, d, t, os⟩) :
    codeAny (model prog w) A' (.builtin newId ⟨.ref C :: rest, []⟩) R ⟨h, g, d, t, os⟩ := by
  have ends := F.ends
  refine codeAny_builtinAt F.entry ?_
  unfold Builtin.«BaseException.__new__»
  refine _root_.PySem.wpAt_bind ?_
  show _root_.PySem.wpAt _ _ _ (stack >>= _) _ _ _
  refine _root_.PySem.wpAt_bind (_root_.PySem.wpAt_stack fun p below => _root_.PySem.wpAt_of_wpAny ?_)
  wp_walk
  refine _root_.PySem.wpAt_of_wpAny ?_
  rw [F.owner]
  repeat (first | with_reducible refine wpAny_madeHere_exc F.canon hC ?_ | with_reducible refine wpAny_loadPart_at hC ?_ | (with_reducible refine wpAny_isSubtype_exc hC ?_; first | rw [cB] | rw [cA] | rw [cN]) | wp_step)
  show R _ _
  rw [Heap.size_push]
  exact fin
/-- C(..) of an own class: a bare exception, then its own `__init__` -/
theorem own_called (F : NewOf newId bmB) (hT : ∀ X : String, bm.contains (.type X) = bmB.contains (.type X)) {rest : List Value} {fI : Addr} (hC : h.get? C = some (excClassObj nm q C N bs bm hdct sn sub ab col dd k0 k1 k2 k3 k5 newId))
    (hi : W.Looks (model prog w) h (typeLookup (.ref C) "__init__") (some (.ref fI))) (hb : ∀ self, W.Looks (model prog w) h (bindSpecial (.ref fI) self) (.ref fI, [self])) (fits : rest.length ≤ sizeLine)
    (run : codeAny (model prog w) (A.under (.builtin "type.__call__" ⟨.ref C :: rest, []⟩)) (.call (.ref fI) ⟨.ref (h.objs.size + 1) :: rest, []⟩) (W.InitBack (h.objs.size + 1) R) ⟨(h.push (W.kdv_tup rest)).push (excO C h.objs.size), g, d, t, os⟩) :
    codeAny (model prog w) A (.call (.ref C) ⟨rest, []⟩) R ⟨h, g, d, t, os⟩ := by
  obtain ⟨B0, i0, bm0, F, in0, noA, noN⟩ := F
  have look := tc_lookup
  have bnd := tc_bind (.ref C)
  have isType : (⟨h, g, d, t, os⟩ : Shared).TypeIs (.ref C) "type" := ⟨_, hC, rfl⟩
  have cB : (Value.ref C :: bm).contains (.type B0) = true := by rw [List.contains_cons, hT, in0, Bool.or_true]
  have cA : (Value.ref C :: bm).contains (.type "AttributeError") = false := by rw [List.contains_cons, hT, noA]; rfl
  have cN : (Value.ref C :: bm).contains (.type "NameError") = false := by rw [List.contains_cons, hT, noN]; rfl
  refine codeAny_of_tree ?_
  show wpAny _ _ (callAny (.ref C) _) _ _ _
  repeat (any_goals (first | assumption | with_reducible refine wpAny_loadPart_at hC ?_ | wp_step))
  refine ⟨rfl, codeAny_call_builtin_at (Code.quiet_builtin _ (by decide +kernel)) entry_typeCall (wpAny_check_type_call_sub hC ?_)⟩
  repeat (first | with_reducible refine wpAny_loadPart_at hC ?_ | with_reducible refine wpAny_madeBy_exc hC ?_ | wp_step)
  refine codeAny_call_builtin_code (Code.quiet_builtin _ F.quiet) ?_
  · have noStar := F.noStar
    simp only [checkBuiltinCall, F.newKind, F.newSplit, F.newRow]
    repeat (first | refine wpAny_loadPart_at hC ?_ | (refine wpAny_isSubtype_exc hC ?_; rw [cB]) | refine wpAny_staticBase_exc hC ?_ | refine wpAny_madeBy_exc hC ?_ | simp only [bne_self_eq_false, Bool.false_eq_true, if_false] | wp_step)
    refine own_new F hC fits cB cA cN ?_
    have grow : ∀ b o, h.get? b = some o → ((h.push (W.kdv_tup rest)).push (excO C h.objs.size)).get? b = some o := fun b o e => Heap.get?_push_of_some _ (Heap.get?_push_of_some _ e)
    have hC2 := grow _ _ hC
    have made : ((h.push (W.kdv_tup rest)).push (excO C h.objs.size)).get? (h.objs.size + 1) = some (excO C h.objs.size) := by heap_get
    have cC : (Value.ref C :: bm).contains (.ref C) = true := by simp
    have look2 := hi.keeps grow
    have bnd2 := (hb (.ref (h.objs.size + 1))).keeps grow
    show wpAny _ _ _ _ _ _
    unfold isInstance
    repeat (first | with_reducible refine wpAny_loadPart_at made ?_ | (with_reducible refine wpAny_isSubtype_exc hC2 ?_; rw [cC]) | wp_step)
    show wpAny _ _ (isSubtype (.ref C) (.ref C)) _ _ (⟨(h.push (W.kdv_tup rest)).push (excO C h.objs.size), g, d, t, os⟩ : Shared)
    refine wpAny_isSubtype_exc hC2 ?_
    rw [cC]
    repeat (first | with_reducible refine wpAny_loadPart_at made ?_ | wp_step)
    show wpAny _ _ (typeLookup (.ref C) _) _ _ _
    refine look2.at (wpAny_holding (wpAny_bind (bnd2.at (wpAny_bind (wpAny_call (codeAny_mono run fun r s2 z => ?_))))))
    rcases r with e | (v | _ | _ | _)
    · exact z
    · exact z.elim
    · exact z.elim
    · exact z.elim
    · obtain ⟨rfl, z⟩ := z
      first
        | exact wpAny_pure (wpAny_pure z)
        | (wp_walk; exact z)
end
end Lx
set_option Elab.async false
set_option linter.all false
set_option maxRecDepth 100000
set_option maxHeartbeats 2000000
/-! LxExc: exception classes of the program's own whose `__init__` says super().__init__('..') and keeps its argument. -/
namespace Lx
open PySem PySem.W PySem.Calls PyProof.Rows

/-- the two statements of such an `__init__` -/
def sxBody (f : Str) : List Stmt → Bool
  | [.Expr (.Call (.Attribute (.Call (.Name s _) [] [] _) i _) [.Constant (.str _) _ _] [] _) _, .Assign [.Attribute (.Name e _) f1 _] (.Name f2 _) _] => s == ("super" : Str) && (i == ("__init__" : Str) && (e == ("self" : Str) && (f1 == f && f2 == f)))
  | _ => false
theorem sxBody_is {f : Str} {b : List Stmt} (h : sxBody f b = true) : ∃ (p0 p1 p2 p3 p4 p5 q1 q2 q3 q4 : Pos) (m : Str) (j : Nat),
    b = [.Expr (.Call (.Attribute (.Call (.Name "super" p0) [] [] p1) "__init__" p2) [.Constant (.str m) j p3] [] p4) p5, .Assign [.Attribute (.Name "self" q1) f q2] (.Name f q3) q4] := by
  unfold sxBody at h
  split at h
  · rename_i s p0 p1 i p2 m j p3 p4 p5 e q1 f1 q2 f2 q3 q4
    simp only [Bool.and_eq_true, beq_iff_eq] at h
    obtain ⟨rfl, rfl, rfl, rfl, rfl⟩ := h
    exact ⟨p0, p1, p2, p3, p4, p5, q1, q2, q3, q4, m, j, rfl⟩
  · cases h
def sxNames (f : Str) : List (Str × NameKind) := [("self", .local), (f, .local), ("__class__", .free), ("super", .globalImplicit)]
def sxScope (f : Str) : Scope := { kind := .function, names := sxNames f, isGenerator := false, isCoroutine := false, more := [] }
def sxArgs (f : Str) (r1 r2 : Pos) : Arguments := { posonlyargs := [], args := [{ arg := "self", annotation := none, pos := r1 }, { arg := f, annotation := none, pos := r2 }], vararg := none, kwonlyargs := [], kw_defaults := [], kwarg := none, defaults := [] }
def sxPar (f : Str) : Arguments → Bool
  | { posonlyargs := [], args := [{ arg := a, annotation := none, pos := _ }, { arg := b, annotation := none, pos := _ }], vararg := none, kwonlyargs := [], kw_defaults := [], kwarg := none, defaults := [] } => a == ("self" : Str) && b == f
  | _ => false
theorem sxPar_is {f : Str} {p : Arguments} (h : sxPar f p = true) : ∃ r1 r2, p = sxArgs f r1 r2 := by
  unfold sxPar at h
  split at h
  · rename_i a r1 b r2
    simp only [Bool.and_eq_true, beq_iff_eq] at h
    obtain ⟨rfl, rfl⟩ := h
    exact ⟨r1, r2, rfl⟩
  · cases h
theorem sx_binds {fd : FuncData} {f : Str} {r1 r2 : Pos} {u v : Value} (hp : fd.params = sxArgs f r1 r2) (hd : fd.defaults = .none) (hf : (f == ("self" : Str)) = false) :
    bindArgs fd ⟨[u, v], []⟩ = pure [(("self" : Str), u), (f, v)] := by
  obtain ⟨nm, q, params, body, scope, gl, cl, dfl, kwd, doc, pm, an, cd, ct, bl⟩ := fd
  dsimp only at hp hd
  subst hp hd
  unfold bindArgs
  simp [sxArgs, List.lookup, hf, seqItems?]
  rfl

/-- what the text says of the def -/
structure SxFd (K : Frag) (file : Str) (C cc : Addr) (f : Str) (fd : FuncData) : Prop where
  par : ∃ r1 r2, fd.params = sxArgs f r1 r2
  bod : ∃ b, fd.body = .stmts b ∧ sxBody f b = true
  sco : fd.scope = sxScope f
  glo : fd.globals = mainGlobals
  bui : fd.builtins = builtinsNs
  dfl : fd.defaults = .none
  clo : fd.closure = [(("__class__" : Str), cc)]
  cel : ∃ cl cld csl, K.lookup cc = some ⟨cl, cld, .cell (some (.ref C)), csl⟩
  cod : codeIn K fd.code fd.qualname = true
  fil : ∃ cda ccl cdd vs ccs tf, fd.code = .ref cda ∧ K.lookup cda = some ⟨ccl, cdd, .fields vs, ccs⟩ ∧ vs[2]? = some (.str file tf)
  nme : (f == ("self" : Str)) = false ∧ (f == ("__class__" : Str)) = false ∧ (f == ("super" : Str)) = false ∧ (f == ("__debug__" : Str)) = false
/-- what the text says of the class -/
structure SxT (K : Frag) (file : Str) (C fI : Addr) (f : Str) (B newId initId : String) (bmB : List Value) : Prop where
  ini : excInitIn K C bmB newId = true
  over : excOver K C bmB = true
  sup : ks_superIn K C C "__init__" = some (some (.builtin initId))
  sa : findIn K (.ref C) "__setattr__" = some (some (.builtin "object.__setattr__"))
  noN : findIn K (.ref C) f = some none
  iC : findIn K (.ref C) "__init__" = some (some (.ref fI))
  tI : typeIn K (.ref fI) = some (.type "function")
  kC : keepIn K (.ref C) = true
  exC : subIn K (.ref C) (.type "BaseException") = some true
  exB : subIn K (.ref C) (.type B) = some true
  tyC : typeIn K (.ref C) = some (.type "type")
  hdC : hasDictIn K C = true
  opq : nsIn K cStatics "thirdparty.any" = some none
  own : mroIn K C (.ref C) = some true
  isC : (clsIn K C).isSome = true
  fn : ∃ oc od fd osl cc, K.lookup fI = some ⟨oc, od, .func fd, osl⟩ ∧ SxFd K file C cc f fd
  supN : nsIn K mainGlobals "super" = some none
/-- the base: ValueError and so on -/
structure Bs (B newId initId : String) (bmB : List Value) : Prop where
  made : NewOf newId bmB
  ini : InitOf B initId
  kxs : KxsFacts B initId
  store : StoreFacts B bmB "object.__setattr__" "object"
theorem bs_Value : Bs "ValueError" "ValueError.__new__" "ValueError.__init__" [.type "ValueError", .type "Exception", .type "BaseException", .type "object"] := ⟨.of F.excBase_ValueError, .of F.excBase_ValueError.toExcCallFacts, kxs_ValueError, F.store_ValueError⟩
theorem bs_Lookup : Bs "LookupError" "LookupError.__new__" "LookupError.__init__" [.type "LookupError", .type "Exception", .type "BaseException", .type "object"] := ⟨.of F.excBase_LookupError, .of F.excBase_LookupError.toExcCallFacts, kxs_LookupError, F.store_LookupError⟩
theorem bs_Runtime : Bs "RuntimeError" "RuntimeError.__new__" "RuntimeError.__init__" [.type "RuntimeError", .type "Exception", .type "BaseException", .type "object"] := ⟨.of F.excBase_RuntimeError, .of F.excBase_RuntimeError.toExcCallFacts, kxs_RuntimeError, F.store_RuntimeError⟩
def bmKey : List Value := [.type "KeyError", .type "LookupError", .type "Exception", .type "BaseException", .type "object"]
theorem kxs_KeyError : KxsFacts "KeyError" "KeyError.__init__" := ⟨by show builtinType _ = _; rw [builtinType_eq_fast]; kernel_rfl, by first | kernel_rfl | rfl⟩
theorem store_KeyError : StoreFacts "KeyError" bmKey "object.__setattr__" "object" where
  mro := by kernel_rfl
  slot := .of (owner := "object") (n := "__setattr__") (by rw [typeLookup_type, builtinLookup_eq_fast]; kernel_rfl) (by decide +kernel) (by decide +kernel) (by decide +kernel)
    (by first | exact .inl (by decide +kernel) | exact .inr (by decide +kernel)) (by rw [isSubtype_type]; kernel_rfl)
  entry := F.store_LookupError.entry
  kind := F.store_LookupError.kind
  split := F.store_LookupError.split
  hasOwner := by decide +kernel
  args := F.store_LookupError.args
  passes := F.store_LookupError.passes
theorem init_KeyError : InitOf "KeyError" "KeyError.__init__" where
  init := .of (owner := "KeyError") (n := "__init__") (by rw [typeLookup_type, builtinLookup_eq_fast]; kernel_rfl) (by decide +kernel) (by decide +kernel) (by decide +kernel)
    (by first | exact .inl (by decide +kernel) | exact .inr (by decide +kernel)) (by rw [isSubtype_type]; kernel_rfl)
  entry := entryFor_alias (id' := "BaseException.__init__") (by rw [fastTable_eq_tree]; kernel_rfl) (by first | rfl | decide +kernel) (by decide +kernel) (by rw [fastTable_eq_tree]; kernel_rfl)
  kind := by kernel_rfl
  row := by kernel_rfl
  noStar := by decide +kernel
theorem bs_Key : Bs "KeyError" "LookupError.__new__" "KeyError.__init__" bmKey := ⟨⟨_, _, _, F.excBase_LookupError, by decide +kernel, by decide +kernel, by decide +kernel⟩, init_KeyError, kxs_KeyError, store_KeyError⟩

/-- behind `__init__`: the exception at x has a dict, at dx, with the field -/
structure SxEnd (h h' : Heap) (x C dx : Addr) (f : Str) (v : Value) : Prop where
  keep : ∀ b o, b ≠ x → h.get? b = some o → h'.get? b = some o
  obj : ∃ t1, h'.get? x = some { cls := .ref C, dict := some dx, data := .fields #[.ref t1, .none, .none, .none, .bool false, .none] }
  dbig : h.objs.size ≤ dx
  dne : dx ≠ x
  ns : h'.Ns1 dx (fun y => if y = f then some v else none)

section
variable {prog : Program} {w : World} {A : Around} {E : Value → Shared → Prop} {R : Result → Shared → Prop} {s : Shared} {K : Frag} {mg mb : Str → Option Value} {C fI : Addr} {f file : Str} {B newId initId : String} {bmB : List Value}
theorem kept_in {h h' : Heap} {x : Addr} (X : K.In h) (hx : K.lookup x = none) (k : ∀ b o, b ≠ x → h.get? b = some o → h'.get? b = some o) : K.In h' := fun a o e =>
  k a o (fun z => by rw [z, hx] at e; cases e) (X a o e)

/-- the first store into an exception's dict -/
theorem osa_first {x : Addr} {name : Str} {tk : Tok} {v : Value} {fv : Array Value} {h : Heap} {g : Array GenState} {d : Drawn} {t : Nat} {os : OsState} (BS : Bs B newId initId bmB) (X : K.In h)
    (hx : h.get? x = some { cls := .ref C, data := .fields fv }) (hov : excOver K C bmB = true) (hh : hasDictIn K C = true) (ha : findIn K (.ref C) name = some none)
    (hq : ∀ h' tk' dx, (∀ b o, b ≠ x → h.get? b = some o → h'.get? b = some o) → h.objs.size ≤ dx → dx ≠ x → h'.get? x = some { cls := .ref C, dict := some dx, data := .fields fv } →
      h'.Ns1 dx (fun y => if y = name then some v else none) → R (.ok (.ret .none)) ⟨h', g, d, tk', os⟩) :
    codeAny (model prog w) A (.call (.builtin "object.__setattr__") ⟨[.ref x, .str name tk, v], []⟩) R ⟨h, g, d, t, os⟩ := by
  have I : InstAt h x { cls := .ref C, data := .fields fv } C none := ⟨hx, rfl, rfl, trivial⟩
  have hxs : x ≠ h.objs.size := Nat.ne_of_lt (Heap.lt_size hx)
  have htk : takerIn K C name = some none := by
    unfold takerIn
    rw [ha]
    rfl
  refine osa_openX (r := none) (s := ⟨h, g, d, t, os⟩) BS.store X I hov htk fun b => ?_
  obtain ⟨cd, hc, hd'⟩ := any_some hh
  have hcls : Looks (model prog w) h (classData C) cd := looks_clsIn X hc
  obtain ⟨nm, bs, mro, ns, qn, hd, sn, sb, ab, col, del⟩ := cd
  dsimp only at hd'
  subst hd'
  show wpAny _ _ (Builtin.ObjectAttr.storeInOwnDict (.ref x) (.ref C) (.str name tk) name v b) _ _ _
  unfold Builtin.ObjectAttr.storeInOwnDict Builtin.ObjectAttr.ownDictForStores
  repeat (first | with_reducible refine HandSPX.store_in_new ?_ ?_ | with_reducible refine wpAny_loadPart_at hx ?_ | with_reducible refine hcls.at ?_ | wp_step)
  · exact ⟨_, #[], _, (Heap.get?_update_ne _ _ _ _ hxs.symm).trans (Heap.get?_push_at rfl rfl), rfl, fun e he => absurd he (by simp), fun _ => rfl⟩
  · intro h' tk' hn' hs
    have hx₁ : (h.push { cls := .type "dict", data := .dict #[] }).get? x = some { cls := .ref C, data := .fields fv } := Heap.get?_push_of_some _ hx
    refine hq h' tk' h.objs.size (fun b o hb ho => ?_) (Nat.le_refl _) hxs.symm ?_ hn'
    · exact (hs.2 b (Nat.ne_of_lt (Heap.lt_size ho))).trans ((Heap.get?_update_ne _ _ _ _ hb).trans (Heap.get?_push_of_some _ ho))
    · exact (hs.2 x hxs).trans (Heap.get?_update_self _ hx₁ rfl)
end
end Lx
set_option Elab.async false
set_option linter.all false
set_option maxRecDepth 100000
set_option maxHeartbeats 2000000
/-! LxExcI: such an `__init__` walked, such a class called. -/
namespace Lx
open PySem PySem.W PySem.Calls PyProof.Rows

section
variable {prog : Program} {w : World} {A : Around} {E : Value → Shared → Prop} {R : Result → Shared → Prop} {s : Shared} {K : Frag} {mg mb : Str → Option Value} {C fI : Addr} {f file : Str} {B newId initId : String} {bmB : List Value}
/-- the bound built-in `__init__`, called -/
theorem call_mw {u e t0 : Addr} {rest : List Value} {Q : Value → Shared → Prop} {h : Heap} {g : Array GenState} {d : Drawn} {t : Nat} {os : OsState} (BS : Bs B newId initId bmB) (X : K.In h) (q : excInitIn K C bmB newId = true)
    (he : h.get? e = some (HandSPX.excO C t0)) (hu : h.get? u = some (kxs_mw initId e)) (hrest : rest.length ≤ sizeLine)
    (hq : ∀ h' t1, (∀ b o, b ≠ e → h.get? b = some o → h'.get? b = some o) → h'.get? e = some (HandSPX.excO C t1) → Q .none ⟨h', g, d, t, os⟩) :
    wpAny (model prog w) A (call (.ref u) rest) Q E ⟨h, g, d, t, os⟩ := by
  obtain ⟨nm, N', qn, bs, bm, hdct, sn, sub, ab, col, dd, k0, k1, k2, k3, k5, hC, hT⟩ := excInit_of X q
  refine wpAny_call (codeAny_of_tree ?_)
  show wpAny _ A.in1 (callAny (.ref u) ⟨rest, []⟩) _ _ _
  simp only [callAny]
  refine wpAny_bind (wpAny_load hu ?_)
  have e1 : (Value.type "method-wrapper" == Value.type "method") = false := by decide
  have e2 : (Value.type "method-wrapper" == Value.type "method-wrapper") = true := by decide
  simp only [kxs_mw, e1, e2, Bool.or_true, if_true]
  refine KFB.if_so (by decide) ?_
  refine wpAny_bind (bound_own BS.ini hC he rfl ?_)
  refine wpAny_bind (wpAny_pure (wpAny_pure ?_))
  refine ⟨plainId_quiet BS.ini.init.plain _, codeAny_builtin BS.ini.entry ?_⟩
  exact exc_init_tree (cls := .ref C) (t0 := t0) (dv := none) (c2 := .none) (c3 := .none) (b4 := .bool false) he hrest fun h' k e' _ => hq h' _ k e'

/-- super().name(text), whatever lines it stands on -/
theorem mcall_at {M : Model} {c : Code} {env : Env} {p0 p1 p3 apos pos : Pos} {name m : Str} {j : Nat} {Q : Value → Shared → Prop}
    (h : ∀ pl : Sem Bool, _root_.PySem.wpAt M A c (attributeBase (.Call (.Name "super" p0) [] [] p1) name env (eval (.Call (.Name "super" p0) [] [] p1) env))
      (fun ov s₁ => wpAny M A (getMethod ov name pl) (fun fx s₂ => ∀ pos', wpAny M A (callWith pos' fx.1 fx.2 (backTo pos (starEach [.Constant (.str m) j p3] env)) []) Q E s₂) E s₁) E s) :
    _root_.PySem.wpAt M A c (eval (.Call (.Attribute (.Call (.Name "super" p0) [] [] p1) name apos) [.Constant (.str m) j p3] [] pos) env) Q E s := by
  obtain ⟨pl, e⟩ : ∃ pl : Sem Bool, eval (.Call (.Attribute (.Call (.Name "super" p0) [] [] p1) name apos) [.Constant (.str m) j p3] [] pos) env = (do
      let ov ← attributeBase (.Call (.Name "super" p0) [] [] p1) name env (eval (.Call (.Name "super" p0) [] [] p1) env)
      standAt apos.atName
      let fx ← holding [ov] (getMethod ov name pl)
      let cp ← methodCallPos true (.Call (.Name "super" p0) [] [] p1) env apos pos
      callWith cp fx.1 fx.2 (backTo pos (starEach [.Constant (.str m) j p3] env)) []) := ⟨_, rfl⟩
  rw [e]
  refine _root_.PySem.wpAt_bind (ks_wpAt_mono (h pl) (fun ov s₁ h₁ => _root_.PySem.wpAt_of_wpAny (wpAny_bind (wpAny_standAt (wpAny_bind (wpAny_holding (wpAny_mono h₁ (fun fx s₂ h₂ => ?_) fun _ _ x => x)))))) fun _ _ x => x)
  refine wpAny_bind ?_
  unfold methodCallPos
  by_cases hl : (apos.endLine == pos.line) = true
  · rw [if_pos (by rw [hl]; rfl)]
    exact wpAny_pure (h₂ _)
  · rw [if_neg (by rw [Bool.not_eq_true] at hl; rw [hl]; decide)]
    exact wpAny_bind (wpAny_pure (wpAny_pure (h₂ _)))
/-- what is asked of the frame -/
structure SxEnv (env : Env) (f : Str) (L fI cda cc : Addr) : Prop where
  kind : env.scope.kind = .function
  more : env.scope.more = []
  l1 : env.kindOf ("self" : Str) = some .local
  l2 : env.kindOf f = some .local
  l3 : env.kindOf ("__class__" : Str) = some .free
  l4 : env.kindOf ("super" : Str) = some .globalImplicit
  glob : env.globals = mainGlobals
  blt : env.builtins = builtinsNs
  cel : env.cells.lookup ("__class__" : Str) = some cc
  fn : env.func = some fI
  code : env.code = .ref cda
  loc : env.locals = L
theorem sx_body {env : Env} {L cda cc x t0 : Addr} {v : Value} {r1 r2 p0 p1 p2 p3 p4 p5 q1 q2 q3 q4 : Pos} {m : Str} {j : Nat} {cl ccl : Value} {cld cdd : Option Addr} {csl ccs : Array (Option Value)} {vs : Array Value} {tf : Tok} {oF : Obj} {fd : FuncData} {body : List Stmt} {m0 : Str → Option Value} {Q : Flow → Shared → Prop}
    {h : Heap} {g : Array GenState} {d : Drawn} {tk : Nat} {os : OsState} (BS : Bs B newId initId bmB) (T : SxT K file C fI f B newId initId bmB) (V : SxEnv env f L fI cda cc)
    (hP : ((prog.main.file : Str) == file) = true) (hPt : (prog.main.scope.names.lookup ("super" : Str)).isSome = false)
    (X : K.In h) (G : h.Ns mainGlobals mg) (Gb : h.Ns builtinsNs mb) (hmb : mb "super" = some (.type "super")) (hF : h.get? fI = some oF) (hFd : oF.data = .func fd) (hpar : fd.params = sxArgs f r1 r2)
    (hcel : K.lookup cc = some ⟨cl, cld, .cell (some (.ref C)), csl⟩) (hcdl : K.lookup cda = some ⟨ccl, cdd, .fields vs, ccs⟩) (hvs : vs[2]? = some (.str file tf)) (nd : (f == ("__debug__" : Str)) = false)
    (hx : h.get? x = some (HandSPX.excO C t0)) (hnx : K.lookup x = none) (hxL : x ≠ L) (hn : h.Ns L m0) (m1 : m0 ("self" : Str) = some (.ref x)) (m2 : m0 f = some v)
    (hq : ∀ h' tk' dx t1, (∀ b o, b ≠ x → h.get? b = some o → h'.get? b = some o) → h.objs.size ≤ dx → dx ≠ x → h'.get? x = some { cls := .ref C, dict := some dx, data := .fields #[.ref t1, .none, .none, .none, .bool false, .none] } →
      h'.Ns1 dx (fun y => if y = f then some v else none) → Q .next ⟨h', g, d, tk', os⟩) :
    _root_.PySem.wpAt (model prog w) A (.func body env) (execs [.Expr (.Call (.Attribute (.Call (.Name "super" p0) [] [] p1) "__init__" p2) [.Constant (.str m) j p3] [] p4) p5, .Assign [.Attribute (.Name "self" q1) f q2] (.Name f q3) q4] env) Q E ⟨h, g, d, tk, os⟩ := by
  obtain ⟨cdD, hcD, hdD⟩ := any_some T.hdC
  obtain ⟨oD, hD1, hD2⟩ : ∃ oD, h.get? C = some oD ∧ oD.data = .cls cdD := by
    unfold clsIn at hcD
    split at hcD
    · rename_i c d cd' sl ho'
      cases hcD
      exact ⟨_, X _ _ ho', rfl⟩
    · cases hcD
  have hxC : x ≠ C := fun z => by
    have y : h.get? C = some (HandSPX.excO C t0) := z ▸ hx
    rw [hD1] at y
    cases y
    cases hD2
  refine ks_wpAt_execs_cons (ks_wpAt_Expr_any ?_ (by unfold interactive; rw [V.more]; simp) rfl)
  refine mcall_at fun pl => ?_
  refine ks_wpAt_super_base V.l4 V.l3 (by decide) V.fn hF hFd (by rw [hpar]; rfl) V.code (X _ _ hcdl) rfl hvs hP hPt ?_
  refine ks_loadName_global V.kind V.l4 (loadGlobal_builtin (by rw [V.glob]; exact G) (mg_none_of X G T.supN) (by rw [V.blt]; exact Gb) hmb ⟨rfl, ?_⟩)
  refine wpAny_loadName_free V.kind V.l3 V.cel ⟨_, X _ _ hcel, rfl⟩ ?_
  refine wpAny_loadName_local (v := .ref x) V.kind V.l1 (by rw [V.loc]; exact hn) m1 ?_
  refine ks_wpAny_isType_cls hD1 hD2 ⟨rfl, ?_⟩
  refine ks_wpAny_call_super hD1 hD2 hx rfl (fun c e => by cases e) (looks_mroIn X T.own) (fun h2 hso k2 => ?_)
  have X2 : K.In h2 := X.keeps k2
  have hx2 := k2 _ _ hx
  have I2 : InstAt h2 x (HandSPX.excO C t0) C none := ⟨hx2, rfl, rfl, trivial⟩
  have hI : Looks (model prog w) h2 (isInstance (.ref x) (.type B)) true := I2.type.andThen (looks_subIn X2 T.exB)
  have hm := T.sup
  unfold ks_superIn at hm
  rw [hcD] at hm
  refine kxs_getMethod BS.kxs hso (looks_opaque X2 T.opq) (l₀ := cdD.mro) (fun A Q E s k q => wpAny_bind ((looks_clsIn X2 hcD) A _ E s k (wpAny_pure q))) rfl X2 hm hI hxC (by decide) (fun pos' => ?_)
  have k3 : ∀ b o, h2.get? b = some o → (h2.push (kxs_mw initId x)).get? b = some o := fun b o e => Heap.get?_push_of_some _ e
  have X3 : K.In (h2.push (kxs_mw initId x)) := X2.keeps k3
  have hu3 : (h2.push (kxs_mw initId x)).get? h2.objs.size = some (kxs_mw initId x) := Heap.get?_push_at rfl rfl
  show wpAny _ _ (callWith pos' (.ref h2.objs.size) [] [(false, eval (.Constant (.str m) j p3) env)] []) _ _ _
  refine kxs_callWith (i := initId) (x := x) rfl (Calls.evalArgs_plain (Calls.spliced_cons (Calls.Constant_str (pos := p3) (k := j) (Calls.spliced_nil ⟨hu3, ?_⟩))))
  refine call_mw BS X3 T.ini (k3 _ _ hx2) hu3 (by rw [sizeLine_eq]; exact (by decide : 1 ≤ 16777216)) (fun h4 t1 k4 e4 => ?_)
  have k04 : ∀ b o, b ≠ x → h.get? b = some o → h4.get? b = some o := fun b o nb e => k4 b o nb (k3 b o (k2 b o e))
  have X4 : K.In h4 := kept_in X hnx k04
  have hn4 : h4.Ns L m0 := by
    obtain ⟨oL, es, ep, hL, r⟩ := hn
    exact ⟨oL, es, ep, k04 _ _ (Ne.symm hxL) hL, r⟩
  refine ks_wpAt_execs_cons (ks_wpAt_Assign_Attr (_root_.PySem.wpAt_of_wpAny (wpAny_Name (wpAny_loadName_local V.kind V.l2 (by rw [V.loc]; exact hn4) m2 (wpAny_Name (wpAny_loadName_local (v := .ref x) V.kind V.l1 (by rw [V.loc]; exact hn4) m1 ?_) (by decide))) nd)) rfl)
  refine set_plain X4 (ox := HandSPX.excO C t1) (od := none) ⟨e4, rfl, rfl, trivial⟩ T.sa ?_
  refine osa_first BS X4 e4 T.over T.hdC T.noN (fun h5 tk5 dx k5 dn dne hx5 hn5 => ?_)
  have z : h.objs.size ≤ h4.objs.size := Nat.le_of_lt (Heap.lt_size (k4 _ _ (Nat.ne_of_gt (Heap.lt_size hx)) (k3 _ _ hso)))
  exact _root_.PySem.wpAt_of_wpAny (wpAny_execs_nil (hq h5 tk5 dx t1 (fun b o nb e => k5 b o nb (k04 b o nb e)) (Nat.le_trans z dn) dne hx5 hn5))
theorem sx_init (BS : Bs B newId initId bmB) (T : SxT K file C fI f B newId initId bmB) (hP : ((prog.main.file : Str) == file) = true) (hPt : (prog.main.scope.names.lookup ("super" : Str)).isSome = false)
    {x t0 : Addr} {v : Value} (X : K.In s.heap) (G : s.heap.Ns mainGlobals mg) (Gb : s.heap.Ns builtinsNs mb) (hmb : mb "super" = some (.type "super")) (hlim : s.heap.NoLimit) (hx : s.heap.get? x = some (HandSPX.excO C t0)) (hnx : K.lookup x = none)
    (hroom : A.depth < recursionLimit) (hq : ∀ h' tk dx, SxEnd s.heap h' x C dx f v → R (.ok (.ret .none)) { s with heap := h', toks := tk }) :
    codeAny (model prog w) A (.call (.ref fI) ⟨[.ref x, v], []⟩) R s := by
  obtain ⟨oc, od, fd, osl, cc, ho, D⟩ := T.fn
  obtain ⟨r1, r2, hpar⟩ := D.par
  obtain ⟨b, hbod, hb⟩ := D.bod
  obtain ⟨p0, p1, p2, p3, p4, p5, q1, q2, q3, q4, m, j, rfl⟩ := sxBody_is hb
  obtain ⟨cl, cld, csl, hcel⟩ := D.cel
  obtain ⟨cda, ccl, cdd, vs, ccs, tf, hcode, hcdl, hvs⟩ := D.fil
  obtain ⟨nf1, nf2, nf3, nf4⟩ := D.nme
  have l1 : (sxNames f).lookup ("self" : Str) = some NameKind.local := by simp [sxNames, List.lookup]
  have l2 : (sxNames f).lookup f = some NameKind.local := by simp [sxNames, List.lookup, nf1]
  have l3 : (sxNames f).lookup ("__class__" : Str) = some NameKind.free := by
    simp [sxNames, List.lookup, show ((("__class__" : Str)) == f) = false from by rw [BEq.comm]; exact nf2]
    decide
  have l4 : (sxNames f).lookup ("super" : Str) = some NameKind.globalImplicit := by
    simp [sxNames, List.lookup, show ((("super" : Str)) == f) = false from by rw [BEq.comm]; exact nf3]
    decide
  have hsc := D.sco
  have hcel' : ∀ y ∈ fd.scope.names, y.2 ≠ NameKind.cell := by
    intro y hy
    rw [hsc] at hy
    simp only [sxScope, sxNames, List.mem_cons, List.not_mem_nil, or_false] at hy
    rcases hy with rfl | rfl | rfl | rfl <;> (intro z; cases z)
  refine ks_codeAny_call_defAt (binds := [(("self" : Str), .ref x), (f, v)]) hroom (X _ _ ho) rfl hlim (codeRec_of X D.cod) hbod (BindsTo.of_eq (sx_binds hpar D.dfl nf1)) hcel' ?_ (fun h₁ hns hk₁ => ?_) (by rw [hsc]; rfl) (by rw [hsc]; rfl) (by rw [hsc]; rfl)
  · intro y hy
    rw [hsc]
    simp only [List.mem_cons, List.not_mem_nil, or_false] at hy
    rcases hy with rfl | rfl
    · exact l1
    · exact l2
  · have X₁ : K.In h₁ := X.keeps hk₁
    have V : SxEnv (callEnv fd s.heap.objs.size fI) f s.heap.objs.size fI cda cc := {
      kind := by show fd.scope.kind = _; rw [hsc]; rfl
      more := by show fd.scope.more = _; rw [hsc]; rfl
      l1 := by show fd.scope.names.lookup _ = _; rw [hsc]; exact l1
      l2 := by show fd.scope.names.lookup _ = _; rw [hsc]; exact l2
      l3 := by show fd.scope.names.lookup _ = _; rw [hsc]; exact l3
      l4 := by show fd.scope.names.lookup _ = _; rw [hsc]; exact l4
      glob := D.glo
      blt := D.bui
      cel := by show fd.closure.lookup _ = _; rw [D.clo]; rfl
      fn := rfl
      code := hcode
      loc := rfl }
    have hxL : x ≠ s.heap.objs.size := Nat.ne_of_lt (Heap.lt_size hx)
    have zz : s.heap.objs.size ≤ h₁.objs.size := Nat.le_of_lt hns.lt
    have nf1' : (("self" : Str) == f) = false := by rw [BEq.comm]; exact nf1
    refine sx_body (x := x) (v := v) BS T V hP hPt X₁ (G.keeps hk₁) (Gb.keeps hk₁) hmb (X₁ _ _ ho) rfl hpar hcel hcdl hvs nf4 (hk₁ _ _ hx) hnx hxL hns (by simp [List.lookup, nf1']) (by simp [List.lookup]) (fun h' tk' dx t1 k dn dne hx' hn' => ?_)
    exact hq h' tk' dx ⟨fun b o nb e => k b o nb (hk₁ b o e), ⟨t1, hx'⟩, Nat.le_trans zz dn, dne, hn'⟩

/-- a made one, as the heap behind the call has it -/
structure SxMade (h h' : Heap) (e C d : Addr) (f : Str) (v : Value) : Prop where
  keep : ∀ b o, h.get? b = some o → h'.get? b = some o
  new : h.objs.size ≤ e
  obj : ∃ t1, h'.get? e = some { cls := .ref C, dict := some d, data := .fields #[.ref t1, .none, .none, .none, .bool false, .none] }
  dbig : h.objs.size ≤ d
  dne : d ≠ e
  ns : h'.Ns1 d (fun y => if y = f then some v else none)
theorem sx_made (BS : Bs B newId initId bmB) (T : SxT K file C fI f B newId initId bmB) (hP : ((prog.main.file : Str) == file) = true) (hPt : (prog.main.scope.names.lookup ("super" : Str)).isSome = false)
    {v : Value} (X : K.In s.heap) (G : s.heap.Ns mainGlobals mg) (Gb : s.heap.Ns builtinsNs mb) (hmb : mb "super" = some (.type "super")) (hlim : s.heap.NoLimit) (hroom : A.depth + 1 < recursionLimit)
    (hq : ∀ h' tk e d, SxMade s.heap h' e C d f v → R (.ok (.ret (.ref e))) { s with heap := h', toks := tk }) : codeAny (model prog w) A (.call (.ref C) ⟨[v], []⟩) R s := by
  obtain ⟨nm, N', qn, bs, bm, hdct, sn, sub, ab, col, dd, k0, k1, k2, k3, k5, hC, hT⟩ := excInit_of X T.ini
  obtain ⟨hp, g, dr, tk, os⟩ := s
  have k : ∀ b o, hp.get? b = some o → ((hp.push (kdv_tup [v])).push (HandSPX.excO C hp.objs.size)).get? b = some o := fun b o e => Heap.get?_push_of_some _ (Heap.get?_push_of_some _ e)
  have hget : ((hp.push (kdv_tup [v])).push (HandSPX.excO C hp.objs.size)).get? (hp.objs.size + 1) = some (HandSPX.excO C hp.objs.size) := by heap_get
  have hnx : K.lookup (hp.objs.size + 1) = none := by
    cases e : K.lookup (hp.objs.size + 1) with
    | none => rfl
    | some o =>
      have z : hp.get? (hp.objs.size + 1) = some o := X _ _ e
      exact absurd (Nat.lt_of_succ_lt (Heap.lt_size z)) (Nat.lt_irrefl _)
  refine own_called BS.made hT hC (looks_findIn X T.iC) (fun self => bind_fn X self T.tI) (by rw [sizeLine_eq]; exact (by decide : 1 ≤ 16777216)) ?_
  refine sx_init (s := ⟨(hp.push (kdv_tup [v])).push (HandSPX.excO C hp.objs.size), g, dr, tk, os⟩) BS T hP hPt (X.keeps k) (G.keeps k) (Gb.keeps k) hmb (hlim.keeps k) hget hnx ?_ fun h' tk' dx M => ?_
  · show A.depth + 1 < recursionLimit
    exact hroom
  · have old : ∀ b o, hp.get? b = some o → h'.get? b = some o := fun b o e => M.keep b o (Nat.ne_of_lt (Nat.lt_succ_of_lt (Heap.lt_size e))) (k b o e)
    have z : hp.objs.size + 1 + 1 ≤ dx := by
      have q := M.dbig
      first
        | (simpa only [Heap.size_push] using q)
        | exact q
    exact ⟨rfl, hq h' tk' (hp.objs.size + 1) dx ⟨old, Nat.le_succ _, M.obj, Nat.le_trans (Nat.le_trans (Nat.le_succ _) (Nat.le_succ _)) z, M.dne, M.ns⟩⟩
end
end Lx
set_option Elab.async false
set_option linter.all false
set_option maxRecDepth 100000
set_option maxHeartbeats 2000000
/-! LxExcR: the rule for such a class called ahead of a raise. -/
namespace Lx
open PySem PySem.Spec PyProof.Rows L2

theorem relO_one {v : V} {u : Value} {f : Str} (r : RelV v u) (g : Str) : RelO (List.lookup g [(f, v)]) (if g = f then some u else none) := by
  by_cases h : g = f
  · subst h
    rw [if_pos rfl]
    have q : List.lookup g [(g, v)] = some v := by simp [List.lookup]
    rw [q]
    exact r
  · rw [if_neg h]
    have q : (g == f) = false := by simpa using h
    simp [List.lookup, q, RelO]
/-- the program whose text it is: its file, and no super of its own -/
structure PFile (P : Program) (file : Str) : Prop where
  file : ((P.main.file : Str) == file) = true
  top : (P.main.scope.names.lookup ("super" : Str)).isSome = false
/-- C(e) ahead of a raise: an exception of the class at C, the field f is e's value -/
def tMkX (C : Addr) (f : Str) (te : TE) : L2.St → Hp → XK → Prop := fun σ H Q => te σ H fun v H1 => ∀ d, H1 d = none → Q (.ref C) (some d) (upd H1 d (.xd [(f, v)]))
section
variable {X : Cx} {C fI : Addr} {f file : Str} {B newId initId : String} {bmB : List Value}
theorem pmk_sx {x : Str} {a : Expr} {ta : TE} {p pos : Pos} {k : Nat} (BS : Bs B newId initId bmB) (T : SxT X.K file C fI f B newId initId bmB) (PF : PFile X.prog file) (hr : Room (k + 1) X.A) (gC : X.mg x = some (.ref C)) (ha : PE X a ta) (hg : Gl X x)
    (hdb : (x == ("__debug__" : Str)) = false := by decide) (he : starEach (a :: []) X.env = (false, eval a X.env) :: starEach [] X.env := by rfl) (hpl : (backTo pos (starEach [] X.env)).any (·.1) = false := by rfl) :
    PMk X (.Call (.Name x p) [a] [] pos) (tMkX C f ta) := by
  intro pins s σ H Q I h
  refine wpAny_Call_Name_kw (ld_glob I hg gC ?_ hdb)
  have hsp : spliced (backTo pos (starEach [a] X.env)) = spliced [(false, eval a X.env)] := by rw [he]; rfl
  refine PySem.W.callWith_K (h₀ := X.base) I.ok.mod.kin T.kC ?_ he hpl
  rw [hsp]
  refine Calls.spliced_cons (thn (ha.run pins s σ H (fun v H1 => ∀ d, H1 d = none → Q (.ref C) (some d) (upd H1 d (.xd [(f, v)]))) I h) fun u s1 hh => Calls.spliced_nil ?_)
  obtain ⟨v, H1, I1, rv, q1⟩ := hh
  refine ⟨I1.kIn, ?_⟩
  show wpAny _ _ (call (.ref C) [u]) _ _ _
  obtain ⟨mb, hb1, hb2⟩ := I1.mod.blt
  have hmb : mb "super" = some (.type "super") := (hb2 _ (by decide)).trans PyProof.Rows.Boot.«super»
  have hlim := I1.nolimit
  obtain ⟨hp, g, dr, tk, os⟩ := s1
  refine wpAny_call (sx_made BS T PF.file PF.top I1.kIn (I1.mod.glob.keeps I1.bk) (hb1.keeps I1.bk) hmb hlim (by have := hr.dp; omega) fun h' tk' e d M => ?_)
  show MkP X pins σ Q (.ref e) ⟨h', g, dr, tk', os⟩
  obtain ⟨t1, hoe⟩ := M.obj
  obtain ⟨G', g1, g2⟩ := restrict h' fun b => decide (b ≠ e)
  have gk : ∀ b, b ≠ e → G'.get? b = h'.get? b := fun b hb => g1 b (decide_eq_true hb)
  have ge : G'.get? e = none := g2 e (by simp)
  have old : ∀ b o, hp.get? b = some o → G'.get? b = some o := fun b o q => (gk b (Nat.ne_of_lt (Nat.lt_of_lt_of_le (Heap.lt_size q) M.new))).trans (M.keep b o q)
  have ob : ObjOk X.prog X.w (upd H1 d (.xd [(f, v)])) G' d (.xd [(f, v)]) := ⟨_, M.ns.at (fun o q => (gk d M.dne).trans q), fun g => relO_one rv g⟩
  have J : Inv X pins σ (upd H1 d (.xd [(f, v)])) ⟨G', g, dr, tk', os⟩ := I1.laid (t' := tk') old M.dbig ob
  refine ⟨e, _, _, ⟨G', g, dr, tk', os⟩, _, .ref C, some d, rfl, J, fun b o q => ?_, ge, hoe, ⟨rfl, rfl⟩, rfl, rfl, ?_, rfl, I1.bare, raises_own T.exC T.tyC, q1 d (I1.hok.fresh M.dbig)⟩
  · by_cases hb : b = e
    · have q' : G'.get? b = some o := q
      rw [hb, ge] at q'
      cases q'
    · exact (gk b hb).symm.trans q
  · rw [upd_ne (Ne.symm M.dne)]
    exact I1.hok.fresh M.new
/-- raise C(e) -/
theorem ps_raiseX {x : Str} {a : Expr} {ta : TE} {W : WX} {p pos pos2 : Pos} {k : Nat} (hc : X.calm = true) (BS : Bs B newId initId bmB) (T : SxT X.K file C fI f B newId initId bmB) (PF : PFile X.prog file) (hr : Room (k + 1) X.A) (tk : Takes X W) (gC : X.mg x = some (.ref C)) (ha : PE X a ta) (hg : Gl X x := by rfl)
    (hdb : (x == ("__debug__" : Str)) = false := by decide) (he : starEach (a :: []) X.env = (false, eval a X.env) :: starEach [] X.env := by rfl) (hpl : (backTo pos (starEach [] X.env)).any (·.1) = false := by rfl) :
    PS X (.Raise (some (.Call (.Name x p) [a] [] pos)) none pos2) (fun _ σ H => tMkX C f ta σ H fun cls d H' => W cls d σ H') := ps_raise hc tk (pmk_sx BS T PF hr gC ha hg hdb he hpl)
end
end Lx
set_option Elab.async false
set_option linter.all false
set_option maxRecDepth 100000
set_option maxHeartbeats 2000000
/-! LxExcB: what the text says of such a class, asked of the written part by one Bool. -/
namespace Lx
open PySem PySem.W PySem.Calls

def sxScB (f : Str) (s : Scope) : Bool := decide (s.kind = .function) && (decide (s.names = sxNames f) && (!s.isGenerator && (!s.isCoroutine && s.more.isEmpty)))
theorem sxScB_ok {f : Str} {s : Scope} (h : sxScB f s = true) : s = sxScope f := by
  unfold sxScB at h
  simp only [Bool.and_eq_true, Bool.not_eq_true', decide_eq_true_eq, List.isEmpty_iff] at h
  obtain ⟨kd, nms, g, c, m⟩ := s
  obtain ⟨h1, h2, h3, h4, h5⟩ := h
  dsimp only at h1 h2 h3 h4 h5
  subst h1 h2 h3 h4 h5
  rfl
def sxBodB (f : Str) : FuncBody → Bool
  | .stmts b => sxBody f b
  | _ => false
def sxNil : Value → Bool
  | .none => true
  | _ => false
def sxCloB (K : Frag) (C : Addr) : List (Str × Addr) → Bool
  | [(n, cc)] => n == ("__class__" : Str) && (match K.lookup cc with
    | some ⟨_, _, .cell (some (.ref D)), _⟩ => D == C
    | _ => false)
  | _ => false
def sxFilB (K : Frag) (file : Str) : Value → Bool
  | .ref c => (match K.lookup c with
    | some ⟨_, _, .fields vs, _⟩ => (match (vs[2]? : Option Value) with
      | some (Value.str g _) => g == file
      | _ => false)
    | _ => false)
  | _ => false
def sxNmB (f : Str) : Bool := !(f == ("self" : Str)) && (!(f == ("__class__" : Str)) && (!(f == ("super" : Str)) && !(f == ("__debug__" : Str))))
def sxFdB (K : Frag) (file : Str) (C : Addr) (f : Str) (fd : FuncData) : Bool :=
  sxPar f fd.params && (sxBodB f fd.body && (sxScB f fd.scope && (fd.globals == mainGlobals && (fd.builtins == builtinsNs && (sxNil fd.defaults && (sxCloB K C fd.closure && (codeIn K fd.code fd.qualname && (sxFilB K file fd.code && sxNmB f))))))))
theorem sxFdB_ok {K : Frag} {file : Str} {C : Addr} {f : Str} {fd : FuncData} (h : sxFdB K file C f fd = true) : ∃ cc, SxFd K file C cc f fd := by
  unfold sxFdB at h
  simp only [Bool.and_eq_true, beq_iff_eq] at h
  obtain ⟨h1, h2, h3, h4, h5, h6, h7, h8, h9, h10⟩ := h
  obtain ⟨b, hb1, hb2⟩ : ∃ b, fd.body = .stmts b ∧ sxBody f b = true := by
    unfold sxBodB at h2
    split at h2
    · rename_i b e
      exact ⟨b, e, h2⟩
    · cases h2
  have h6' : fd.defaults = .none := by
    unfold sxNil at h6
    split at h6
    · rename_i e
      exact e
    · cases h6
  obtain ⟨cc, hc1, hc2⟩ : ∃ cc, fd.closure = [(("__class__" : Str), cc)] ∧ ∃ cl cld csl, K.lookup cc = some ⟨cl, cld, .cell (some (.ref C)), csl⟩ := by
    unfold sxCloB at h7
    split at h7
    · rename_i n cc e
      rw [Bool.and_eq_true, beq_iff_eq] at h7
      obtain ⟨rfl, h7⟩ := h7
      split at h7
      · rename_i o cl cld D csl e2
        rw [beq_iff_eq] at h7
        subst h7
        exact ⟨cc, e, _, _, _, e2⟩
      · cases h7
    · cases h7
  have h9' : ∃ cda ccl cdd vs ccs tf, fd.code = .ref cda ∧ K.lookup cda = some ⟨ccl, cdd, .fields vs, ccs⟩ ∧ vs[2]? = some (.str file tf) := by
    unfold sxFilB at h9
    split at h9
    · rename_i c e
      split at h9
      · rename_i o ccl cdd vs ccs e2
        split at h9
        · rename_i o2 g tf e3
          rw [beq_iff_eq] at h9
          subst h9
          exact ⟨c, _, _, _, _, _, e, e2, e3⟩
        · cases h9
      · cases h9
    · cases h9
  have h10' : (f == ("self" : Str)) = false ∧ (f == ("__class__" : Str)) = false ∧ (f == ("super" : Str)) = false ∧ (f == ("__debug__" : Str)) = false := by
    unfold sxNmB at h10
    simp only [Bool.and_eq_true, Bool.not_eq_true'] at h10
    exact h10
  exact ⟨cc, ⟨sxPar_is h1, ⟨b, hb1, hb2⟩, sxScB_ok h3, h4, h5, h6', hc1, hc2, h8, h9', h10'⟩⟩
def sxB (K : Frag) (file : Str) (C fI : Addr) (f : Str) (B newId initId : String) (bmB : List Value) : Bool :=
  excInitIn K C bmB newId && (excOver K C bmB && (decide (ks_superIn K C C "__init__" = some (some (.builtin initId))) && (decide (findIn K (.ref C) "__setattr__" = some (some (.builtin "object.__setattr__"))) && (decide (findIn K (.ref C) f = some none) &&
  (decide (findIn K (.ref C) "__init__" = some (some (.ref fI))) && (decide (typeIn K (.ref fI) = some (.type "function")) && (keepIn K (.ref C) && (decide (subIn K (.ref C) (.type "BaseException") = some true) && (decide (subIn K (.ref C) (.type B) = some true) &&
  (decide (typeIn K (.ref C) = some (.type "type")) && (hasDictIn K C && (decide (nsIn K cStatics "thirdparty.any" = some none) && (decide (mroIn K C (.ref C) = some true) && ((clsIn K C).isSome && (decide (nsIn K mainGlobals "super" = some none) &&
  (match K.lookup fI with | some ⟨_, _, .func fd, _⟩ => sxFdB K file C f fd | _ => false))))))))))))))))
theorem sxB_ok {K : Frag} {file : Str} {C fI : Addr} {f : Str} {B newId initId : String} {bmB : List Value} (h : sxB K file C fI f B newId initId bmB = true) : SxT K file C fI f B newId initId bmB := by
  unfold sxB at h
  simp only [Bool.and_eq_true, decide_eq_true_eq] at h
  obtain ⟨h1, h2, h3, h4, h5, h6, h7, h8, h9, h10, h11, h12, h13, h14, h15, h16, h17⟩ := h
  refine ⟨h1, h2, h3, h4, h5, h6, h7, h8, h9, h10, h11, h12, h13, h14, h15, ?_, h16⟩
  split at h17
  · rename_i o oc od fd osl e
    obtain ⟨cc, D⟩ := sxFdB_ok h17
    exact ⟨oc, od, fd, osl, cc, e, D⟩
  · cases h17
end Lx
set_option Elab.async false
set_option linter.all false
set_option maxRecDepth 100000
set_option maxHeartbeats 2000000
/-! LxKw: keyword arguments kept in a dict by the def (**ways), and taken from one by the call (**m). -/
namespace Lx
open PySem PySem.W PySem.Calls PyProof.Rows

/-- what stands in the dict for the keywords -/
inductive KwE (w : World) : List (Str × Value) → List DictEntry → Prop
  | nil : KwE w [] []
  | cons {k : Str} {v : Value} {t : Tok} {kws : List (Str × Value)} {es : List DictEntry} : KwE w kws es → KwE w ((k, v) :: kws) (⟨hashStr w k, .str k t, v⟩ :: es)
theorem KwE.snoc {w : World} : ∀ {kws : List (Str × Value)} {es : List DictEntry} {k : Str} {v : Value} {t : Tok}, KwE w kws es → KwE w (kws ++ [(k, v)]) (es ++ [⟨hashStr w k, .str k t, v⟩])
  | _, _, _, _, _, .nil => .cons .nil
  | _, _, _, _, _, .cons r => .cons r.snoc
theorem KwE.length {w : World} : ∀ {kws : List (Str × Value)} {es : List DictEntry}, KwE w kws es → es.length = kws.length
  | _, _, .nil => rfl
  | _, _, .cons r => by rw [List.length_cons, List.length_cons, r.length]
theorem KwE.keys {w : World} : ∀ {kws : List (Str × Value)} {es : List DictEntry}, KwE w kws es → ∀ e ∈ es, ∃ k t, k ∈ kws.map (·.1) ∧ e.key = .str k t ∧ e.hash = hashStr w k
  | _, _, .nil => fun e he => nomatch he
  | _, _, .cons r => fun e he => by
    rcases List.mem_cons.mp he with rfl | he
    · exact ⟨_, _, List.mem_cons_self .., rfl, rfl⟩
    · obtain ⟨k, t, h1, h2, h3⟩ := r.keys e he
      exact ⟨k, t, List.mem_cons_of_mem _ h1, h2, h3⟩
theorem key_str (k : Str) (t : Tok) : L2.keyIs (Sum.inr k) (.str k t) = true := by simp [L2.keyIs, Value.isStrOf]
theorem KwE.pairs {P : Program} {w : World} : ∀ {kws : List (Str × Value)} {es : List DictEntry}, KwE w kws es → Pairs (L2.mixKind P w) es (kws.map fun p => ((Sum.inr p.1 : L2.Key), p.2))
  | _, _, .nil => .nil
  | _, _, .cons (k := k) (t := t) r => .cons (key_str k t) rfl r.pairs
theorem KwE.absent {w : World} {kws : List (Str × Value)} {es : List DictEntry} {n : Str} (r : KwE w kws es) (hn : n ∉ kws.map (·.1)) : ∀ e ∈ es, e.key.isStr n = false := fun e he => by
  obtain ⟨k, t, h1, h2, _⟩ := r.keys e he
  rw [h2]
  show (k == n) = false
  exact beq_eq_false_iff_ne.mpr fun z => hn (z ▸ h1)
theorem KwE.noref {w : World} {kws : List (Str × Value)} {es : List DictEntry} (r : KwE w kws es) : ∀ e ∈ es, e.refKey = false := fun e he => by
  obtain ⟨k, t, h1, h2, _⟩ := r.keys e he
  unfold DictEntry.refKey
  rw [h2]
theorem putL_absent {n : Str} {h : Int} {k v : Value} : ∀ {es : List DictEntry}, (∀ e ∈ es, e.key.isStr n = false) → putL n h k v es = es ++ [⟨h, k, v⟩]
  | [], _ => rfl
  | e :: es, a => by
    unfold putL
    rw [a e (List.mem_cons_self ..), if_neg Bool.false_ne_true, putL_absent fun x hx => a x (List.mem_cons_of_mem _ hx)]
    rfl

section
variable {P : Program} {w : World} {A : Around} {E : Value → Shared → Prop}
/-- one more name -/
theorem ns_put {d : Addr} {n : Str} {v : Value} {es : List DictEntry} {m : Nat} {Q : Unit → Shared → Prop} {h : Heap} {g : Array GenState} {dr : Drawn} {t : Nat} {os : OsState} (hd : h.get? d = some (dictOf es m)) (ha : ∀ e ∈ es, e.key.isStr n = false) (hr : ∀ e ∈ es, e.refKey = false)
    (hq : Q () ⟨h.update d (Obj.putName n (hashStr w n) (.str n t) v), g, dr, t + 1, os⟩) : wpAny (model P w) A (nsSet d n v) Q E ⟨h, g, dr, t, os⟩ := by
  unfold nsSet
  refine wpAny_bind (wpAny_bind (wpAny_askSetting (wpAny_pure (wpAny_bind (wpAny_mkText (wpAny_bind (wpAny_loadPart hd ?_)))))))
  dsimp only
  have c : (!es.toArray.any (·.key.isStr n) && es.toArray.any (·.refKey)) = false := by
    have z : es.toArray.any (·.refKey) = false := by
      rw [← Array.any_toList]
      cases e : es.any (·.refKey) with
      | false => rfl
      | true =>
        obtain ⟨x, hx, hx'⟩ := List.any_eq_true.mp e
        rw [hr x hx] at hx'
        cases hx'
    rw [z, Bool.and_false]
  rw [aRefKeyMayBeTheName_at, c]
  exact wpAny_updatePart hd hq
/-- the names of a list, one behind the other -/
theorem ns_puts {d : Addr} : ∀ {rest done : List (Str × Value)} {es : List DictEntry} {m : Nat} {Q : PUnit → Shared → Prop} {h : Heap} {g : Array GenState} {dr : Drawn} {t : Nat} {os : OsState}, h.get? d = some (dictOf es m) → KwE w done es → ((done ++ rest).map (·.1)).Nodup →
    (∀ h' t' es' m', h'.get? d = some (dictOf es' m') → KwE w (done ++ rest) es' → (∀ b, b ≠ d → h'.get? b = h.get? b) → h'.objs.size = h.objs.size → Q PUnit.unit ⟨h', g, dr, t', os⟩) →
    wpAny (model P w) A (forIn rest PUnit.unit fun x _ => do nsSet d x.1 x.2; pure (ForInStep.yield PUnit.unit)) Q E ⟨h, g, dr, t, os⟩
  | [], done, es, m, Q, h, g, dr, t, os, hd, r, nd, hq => by
    rw [List.forIn_nil]
    exact wpAny_pure (hq h t es m hd (by rw [List.append_nil]; exact r) (fun _ _ => rfl) rfl)
  | (k, v) :: rest, done, es, m, Q, h, g, dr, t, os, hd, r, nd, hq => by
    rw [List.forIn_cons]
    have nk : k ∉ done.map (·.1) := fun z => by
      rw [List.map_append, List.nodup_append] at nd
      exact nd.2.2 k z k (by simp) rfl
    have ab := r.absent nk
    refine wpAny_bind (wpAny_bind (ns_put hd ab r.noref ?_))
    have hd' : (h.update d (Obj.putName k (hashStr w k) (.str k t) v)).get? d = some (dictOf (es ++ [⟨hashStr w k, .str k t, v⟩]) (putN k es m)) := by
      rw [Heap.get?_update_self _ hd (by rw [putName_dict]; rfl), putName_dict, putL_absent ab]
    refine wpAny_pure ?_
    refine ns_puts (done := done ++ [(k, v)]) hd' r.snoc (by rw [List.append_assoc]; exact nd) fun h' t' es' m' e1 e2 e3 e4 => ?_
    exact hq h' t' es' m' e1 (by rw [List.append_assoc] at e2; exact e2) (fun b hb => (e3 b hb).trans (Heap.get?_update_ne _ _ _ _ hb)) (e4.trans (Heap.size_update ..))
/-- the dict that a **ways gets -/
def kwDict (kws : List (Str × Value)) : Sem Addr := do
  let d ← alloc { cls := .type "dict", data := .dict #[] }
  forIn kws PUnit.unit fun x _ => do nsSet d x.1 x.2; pure (ForInStep.yield PUnit.unit)
  pure d
theorem kw_dict {kws : List (Str × Value)} {Q : Addr → Shared → Prop} {h : Heap} {g : Array GenState} {dr : Drawn} {t : Nat} {os : OsState} (nd : (kws.map (·.1)).Nodup)
    (hq : ∀ h' t' es m, h'.get? h.objs.size = some (dictOf es m) → KwE w kws es → (∀ b o, h.get? b = some o → h'.get? b = some o) → h'.objs.size = h.objs.size + 1 → Q h.objs.size ⟨h', g, dr, t', os⟩) :
    wpAny (model P w) A (kwDict kws) Q E ⟨h, g, dr, t, os⟩ := by
  unfold kwDict
  refine wpAny_bind (wpAny_alloc (wpAny_bind ?_))
  refine ns_puts (done := []) (es := []) (m := 0) (Heap.get?_push_at rfl rfl) .nil nd fun h' t' es m e1 e2 e3 e4 => wpAny_pure (hq h' t' es m e1 e2 (fun b o e => ?_) (e4.trans (Heap.size_push ..)))
  rw [e3 b (Nat.ne_of_lt (Heap.lt_size e))]
  exact Heap.get?_push_of_some _ e
end
end Lx
set_option Elab.async false
set_option linter.all false
set_option maxRecDepth 100000
set_option maxHeartbeats 2000000
/-! LxKwM: **m at a call. -/
namespace Lx
open PySem PySem.W PySem.Calls PyProof.Rows

theorem KwE.take {w : World} : ∀ {kws : List (Str × Value)} {es : List DictEntry} (i : Nat), KwE w kws es → KwE w (kws.take i) (es.take i)
  | _, _, 0, _ => .nil
  | _, _, _ + 1, .nil => .nil
  | _, _, i + 1, .cons r => .cons (r.take i)
theorem KwE.at_ {w : World} : ∀ {kws : List (Str × Value)} {es : List DictEntry} {i : Nat} {e : DictEntry}, KwE w kws es → es[i]? = some e → ∃ k v t, kws[i]? = some (k, v) ∧ e = ⟨hashStr w k, .str k t, v⟩
  | _, _, i, e, .nil, h => by simp at h
  | _, _, 0, e, .cons (k := k) (v := v) (t := t) r, h => ⟨k, v, t, rfl, by simpa using h.symm⟩
  | _, _, i + 1, e, .cons r, h => by
    rw [List.getElem?_cons_succ] at h
    have h' := h
    obtain ⟨k, v, t, e1, e2⟩ := r.at_ h'
    exact ⟨k, v, t, by simpa using e1, e2⟩
theorem KwE.exact {w : World} {kws : List (Str × Value)} {es : List DictEntry} (r : KwE w kws es) : (es.toArray.all fun e => isExactStrKey e.key) = true := by
  rw [← Array.all_toList]
  refine List.all_eq_true.mpr fun e he => ?_
  obtain ⟨k, t, _, h2, _⟩ := r.keys e he
  rw [h2]
  rfl
theorem KwE.find {w : World} {kws : List (Str × Value)} {es : List DictEntry} {n : Str} (r : KwE w kws es) (hn : n ∉ kws.map (·.1)) : (es.toArray.findIdx? fun e => e.key.isStr n) = none := by
  rw [List.findIdx?_toArray, List.findIdx?_eq_none_iff]
  exact fun e he => r.absent hn e he
theorem nodup_take {α : Type} {l : List α} {i : Nat} {x : α} (nd : l.Nodup) (h : l[i]? = some x) : x ∉ l.take i := fun z => by
  obtain ⟨j, hj, e⟩ := List.mem_take_iff_getElem.mp z
  obtain ⟨hi, e2⟩ := List.getElem?_eq_some_iff.mp h
  have q := (List.getElem_inj (h₀ := by omega) (h₁ := hi) nd).mp (e.trans e2.symm)
  omega

section
variable {P : Program} {w : World} {A : Around} {E : Value → Shared → Prop}
theorem put_new {d : Addr} {n : Str} {tk : Tok} {v : Value} {es : List DictEntry} {m : Nat} {kws : List (Str × Value)} {Q : Unit → Shared → Prop} {h : Heap} {g : Array GenState} {dr : Drawn} {t : Nat} {os : OsState} (hd : h.get? d = some (dictOf es m)) (r : KwE w kws es) (hn : n ∉ kws.map (·.1)) (hz : es.length ≤ sizeLine)
    (hq : ∀ h', h'.get? d = some (dictOf (es ++ [⟨hashStr w n, .str n tk, v⟩]) (m + 1)) → (∀ b, b ≠ d → h'.get? b = h.get? b) → h'.objs.size = h.objs.size → Q () ⟨h', g, dr, t, os⟩) :
    wpAny (model P w) A (dictPut d (hashStr w n) (.str n tk) v) Q E ⟨h, g, dr, t, os⟩ := by
  unfold dictPut
  refine wpAny_bind (KTD.kt_dictFind_strs hd rfl r.exact ?_)
  rw [r.find hn]
  refine wpAny_updateDictKeys hd rfl (hq _ ?_ (fun b hb => Heap.get?_update_ne _ _ _ _ hb) (Heap.size_update ..)) (by rw [List.size_toArray]; exact hz) (by simp)
  rw [Heap.get?_update_self _ hd (by rfl)]
  show some (Obj.mapDictKeys _ (dictOf es m)) = _
  unfold Obj.mapDictKeys dictOf
  simp
/-- a dict of names laid into an empty one, for a call -/
theorem merge_kw {d a : Addr} {oa : Obj} {es : List DictEntry} {m : Nat} {kws : List (Str × Value)} {Q : Unit → Shared → Prop} {h : Heap} {g : Array GenState} {dr : Drawn} {t : Nat} {os : OsState} (hd : h.get? d = some (dictOf [] 0)) (ha : h.get? a = some oa) (hc : oa.cls = .type "dict") (hda : oa.data = .dict es.toArray m)
    (r : KwE w kws es) (nd : (kws.map (·.1)).Nodup) (hz : es.length ≤ sizeLine) (hne : a ≠ d) (hs : (a == sysModules) = false)
    (hq : ∀ h' es' m', h'.get? d = some (dictOf es' m') → KwE w kws es' → (∀ b, b ≠ d → h'.get? b = h.get? b) → h'.objs.size = h.objs.size → Q () ⟨h', g, dr, t, os⟩) :
    wpAny (model P w) A (mergeMapping d (.ref a) true) Q E ⟨h, g, dr, t, os⟩ := by
  have hT : Shared.TypeIs ⟨h, g, dr, t, os⟩ (.ref a) "dict" := ⟨oa, ha, hc⟩
  unfold mergeMapping
  refine wpAny_bind (wpAny_isInstance hT PySem.F.sub_dict_dict ?_)
  extract_lets jp
  rw [if_pos rfl]
  refine wpAny_bind (wpAny_specialOf hT PySem.F.slot_dict_iter.lookup ?_)
  have e0 : (some (Value.builtin "dict.__iter__") == some (Value.builtin "dict.__iter__")) = true := by decide
  rw [e0]
  show wpAny _ _ (jp true) _ _ _
  dsimp only [jp]
  rw [hs, if_neg Bool.false_ne_true]

  refine wpAny_bind (wpAny_dictEntries hd rfl ?_)
  rw [if_pos (show (#[] : Array DictEntry).isEmpty = true from rfl)]
  refine wpAny_bind (wpAny_dictEntries ha hda ?_)
  refine wpAny_bind ?_
  refine wpAny_mono (Q := fun _ s' => s' = ⟨h, g, dr, t, os⟩) (E := E) ?loop ?_ (fun _ _ z => z)
  case loop =>
    rw [← Array.forIn_toList]
    refine wpAny_forIn_list _ (fun l _ s' => (∀ e ∈ l, e.refKey = false) ∧ s' = ⟨h, g, dr, t, os⟩) _ (fun x rest b s' I => ?_) (fun b s' I => I.2) _ _ ⟨fun e he => r.noref e he, rfl⟩
    obtain ⟨I1, rfl⟩ := I
    have q := I1 x (List.mem_cons_self ..)
    have fin : wpAny (model P w) A (pure (ForInStep.yield PUnit.unit)) (fun r s' => match r with | .yield b' => (fun l _ s' => (∀ e ∈ l, e.refKey = false) ∧ s' = (⟨h, g, dr, t, os⟩ : Shared)) rest b' s' | .done b' => s' = (⟨h, g, dr, t, os⟩ : Shared)) E ⟨h, g, dr, t, os⟩ :=
      wpAny_pure ⟨fun e he => I1 e (List.mem_cons_of_mem _ he), rfl⟩
    unfold DictEntry.refKey at q
    split
    · rename_i k e
      rw [e] at q
      cases q
    · exact fin
  rintro _ _ rfl
  refine wpAny_bind (wpAny_dictEntries ha hda ?_)
  refine wpAny_bind (wpAny_dictEpoch ha hda ?_)
  refine wpAny_bind ?_
  have sz : es.toArray.size = es.length := List.size_toArray ..
  rw [sz]
  refine wpAny_forIn_list _ (fun l _ s' => ∃ i h' es' m', l = List.range' i (es.length - i) ∧ i ≤ es.length ∧ s' = ⟨h', g, dr, t, os⟩ ∧ h'.get? d = some (dictOf es' m') ∧ KwE w (kws.take i) es' ∧ (∀ b, b ≠ d → h'.get? b = h.get? b) ∧ h'.objs.size = h.objs.size) _
    (fun x rest b s' I => ?_) (fun b s' I => ?_) _ _ ⟨0, h, [], 0, (List.range_eq_range' ..), Nat.zero_le _, rfl, hd, .nil, fun _ _ => rfl, rfl⟩
  · obtain ⟨i, h', es', m', el, hi, rfl, e1, e2, e3, e4⟩ := I
    have hlt : i < es.length := by
      rcases Nat.lt_or_ge i es.length with z | z
      · exact z
      · rw [Nat.sub_eq_zero_of_le z] at el
        simp at el
    obtain ⟨rfl, erest⟩ : x = i ∧ rest = List.range' (i + 1) (es.length - (i + 1)) := by
      have e : es.length - i = (es.length - (i + 1)) + 1 := by omega
      rw [e, List.range'_succ] at el
      injection el with z1 z2
      exact ⟨z1, z2⟩
    obtain ⟨en, hen⟩ : ∃ en, es[x]? = some en := ⟨_, List.getElem?_eq_getElem hlt⟩
    obtain ⟨k, v, tk, hk, rfl⟩ := r.at_ hen
    have ha' : h'.get? a = some oa := (e3 a hne).trans ha
    have nk : k ∉ (kws.take x).map (·.1) := by
      rw [List.map_take]
      exact nodup_take nd (by rw [List.getElem?_map, hk]; rfl)
    have hl : es'.length ≤ sizeLine := by
      rw [e2.length, List.length_take]
      have := r.length
      omega
    refine wpAny_bind (wpAny_dictEntries ha' hda ?_)
    rw [List.getElem?_toArray, hen]
    dsimp only
    refine wpAny_bind (wpAny_holding ?_)
    rw [if_pos rfl]
    refine wpAny_bind (KTD.kt_dictFind_strs e1 rfl e2.exact ?_)
    rw [e2.find nk]
    rw [if_neg (by simp)]
    refine put_new e1 e2 nk hl fun h'' f1 f2 f3 => ?_
    have ha'' : h''.get? a = some oa := (f2 a hne).trans ha'
    refine wpAny_bind (wpAny_dictEpoch ha'' hda ?_)
    rw [if_neg (by simp)]
    refine wpAny_pure ⟨x + 1, h'', _, _, erest, hlt, rfl, f1, ?_, fun b hb => (f2 b hb).trans (e3 b hb), f3.trans e4⟩
    rw [List.take_add_one, hk]
    exact e2.snoc
  · obtain ⟨i, h', es', m', el, hi, rfl, e1, e2, e3, e4⟩ := I
    have hl : i = es.length := by
      have q : (List.range' i (es.length - i)).length = 0 := by rw [← el]; rfl
      rw [List.length_range'] at q
      omega
    subst hl
    rw [r.length, List.take_length] at e2
    exact wpAny_pure (hq h' es' m' e1 e2 e3 e4)
end
end Lx
set_option Elab.async false
set_option linter.all false
set_option maxRecDepth 100000
set_option maxHeartbeats 2000000
/-! LxKwC: a call with **m, a def with **ways. -/
namespace Lx
open PySem PySem.W PySem.Calls PyProof.Rows

section
variable {P : Program} {w : World} {A : Around} {E : Value → Shared → Prop} {s : Shared}
theorem kw_in {f : Value} {d : Addr} {es : List DictEntry} {m : Nat} {kws : List (Str × Value)} {Q : List (Str × Value) → Shared → Prop} (hd : s.heap.get? d = some (dictOf es m)) (r : KwE w kws es) (hq : Q kws s) : wpAny (model P w) A (keywordsIn f d) Q E s := by
  unfold keywordsIn
  refine wpAny_bind (wpAny_dictEntries hd rfl (wpAny_bind ?_))
  rw [← Array.forIn_toList]
  refine wpAny_forIn_list _ (fun l acc s' => ∃ done rest, KwE w rest l ∧ done ++ rest = kws ∧ acc = done ∧ s' = s) _ (fun x rest b s' I => ?_) (fun b s' I => ?_) _ _ ⟨[], kws, r, rfl, rfl, rfl⟩
  · obtain ⟨done, rs, h1, h2, rfl, rfl⟩ := I
    cases h1 with
    | cons h1 =>
      rename_i k v t kws'
      exact wpAny_pure ⟨b ++ [(k, v)], kws', h1, by rw [List.append_assoc]; exact h2, rfl, rfl⟩
  · obtain ⟨done, rs, h1, h2, rfl, rfl⟩ := I
    cases h1
    rw [List.append_nil] at h2
    subst h2
    exact wpAny_pure hq
theorem evalArgs_m {M : Model} {f : Value} {args : List (Bool × Sem Value)} {kws : List (Option Str × Sem Value)} {Q : Args → Shared → Prop} (hs : args.any (·.1) = false) (hk : kws.all (·.1.isSome) = false)
    (h : wpAny M A (spliced args) (fun vs s1 => wpAny M A (mergedKeywords f kws) (fun d s2 => wpAny M A (keywordsIn f d) (fun kw s3 => Q ⟨vs, kw⟩ s3) E s2) E s1) E s) : wpAny M A (evalArgs f true args kws) Q E s := by
  have key : evalArgs f true args kws = (do
      let vs ← spliced args
      holding (vs ++ (none : Option Value).toList) (do
        let d ← mergedKeywords f kws
        let pos ← (pure vs : Sem (List Value))
        return ⟨pos, ← holding (.ref d :: pos) (keywordsIn f d)⟩)) := by
    unfold evalArgs
    rcases args with _ | ⟨⟨b, x⟩, rest⟩
    · simp [hk]
    · have hb : b = false := by
        simp only [List.any_cons, Bool.or_eq_false_iff] at hs
        exact hs.1
      subst hb
      simp [hk]
  rw [key]
  refine wpAny_bind (wpAny_mono h (fun vs s1 h1 => wpAny_holding (wpAny_bind (wpAny_mono h1 (fun d s2 h2 => wpAny_bind (wpAny_pure (wpAny_bind (wpAny_holding (wpAny_mono h2 (fun kw s3 h3 => wpAny_pure h3) fun _ _ z => z))))) fun _ _ z => z))) fun _ _ z => z)
theorem call_m {M : Model} {f : Value} {first : List Value} {pos : Pos} {Q : Value → Shared → Prop} {P : Heap → Prop} {args : List (Bool × Sem Value)} {kws : List (Option Str × Sem Value)} (hst : kws.any (·.1.isNone) = true)
    (hk : ∀ h, P h → ∃ k, (k = Keeper.frame ∨ k = Keeper.machine ∨ k = Keeper.boundFrame) ∧ Looks M h (keeperOf f) k)
    (h : wpAny M A (evalArgs f true args kws) (fun a s₁ => P s₁.heap ∧ wpAny M A (call f (first ++ a.pos) a.kw) Q E s₁) E s) : wpAny M A (callWith pos f first args kws) Q E s := by
  unfold callWith
  refine wpAny_bind (wpAny_holding (wpAny_mono h (fun a s₁ h₁ => wpAny_bind (wpAny_standAt ?_)) fun _ _ x => x))
  obtain ⟨k, hk', L⟩ := hk _ h₁.1
  simp only [hst, Bool.or_true]
  refine wpAny_bind (L.here ?_)
  have out : ∀ {t : Sem Value}, wpAny M A t Q E s₁ → wpAny M A (t >>= fun r => holding [r] point >>= fun _ => pure r) Q E s₁ :=
    fun ht => wpAny_bind (wpAny_mono ht (fun r s₂ hr => wpAny_bind (wpAny_holding (wpAny_point (wpAny_pure hr)))) fun _ _ x => x)
  rcases hk' with rfl | rfl | rfl
  · exact out (by unfold callMarked; exact Calls.wpAny_keep h₁.2)
  · exact out (wpAny_operating h₁.2)
  · exact out (wpAny_operating h₁.2)
/-- one **m and nothing else by name -/
theorem merged_one {f : Value} {x : Sem Value} {kws : List (Str × Value)} {Q : Addr → Shared → Prop} {h : Heap} {g : Array GenState} {dr : Drawn} {t : Nat} {os : OsState}
    (hx : wpAny (model P w) A x (fun v s1 => ∃ t1 a oa es m, v = .ref a ∧ s1 = ⟨h.push (dictOf [] 0), g, dr, t1, os⟩ ∧ h.get? a = some oa ∧ oa.cls = .type "dict" ∧ oa.data = .dict es.toArray m ∧ KwE w kws es ∧ (kws.map (·.1)).Nodup ∧ es.length ≤ sizeLine ∧ (a == sysModules) = false) E ⟨h.push (dictOf [] 0), g, dr, t, os⟩)
    (hq : ∀ h' t' es' m', h'.get? h.objs.size = some (dictOf es' m') → KwE w kws es' → (∀ b o, h.get? b = some o → h'.get? b = some o) → Q h.objs.size ⟨h', g, dr, t', os⟩) :
    wpAny (model P w) A (mergedKeywords f [(none, x)]) Q E ⟨h, g, dr, t, os⟩ := by
  unfold mergedKeywords
  refine wpAny_bind (wpAny_alloc (wpAny_bind (wpAny_holding ?_)))
  extract_lets merge group g0
  have hg : group [] = pure () := rfl
  refine wpAny_bind ?_
  rw [List.forIn_cons]
  refine wpAny_bind ?_
  dsimp only
  rw [show group g0 = pure () from rfl]
  refine wpAny_bind (wpAny_pure (wpAny_bind (wpAny_mono hx (fun v s1 h1 => ?_) fun _ _ z => z)))
  obtain ⟨t1, a, oa, es, m, rfl, rfl, ha, hc, hda, r, nd, hz, hs⟩ := h1
  refine wpAny_bind (wpAny_onRaise ?_)
  show wpAny _ _ (merge (.ref a)) _ _ _
  have lt := Heap.lt_size ha
  refine wpAny_holding (wpAny_tryCatch (wpAny_onRaise ?_))
  refine merge_kw (Heap.get?_push_at rfl rfl) (Heap.get?_push_of_some _ ha) hc hda r nd hz (Nat.ne_of_lt lt) hs fun h' es' m' e1 e2 e3 e4 => ?_
  refine wpAny_pure (wpAny_pure ?_)
  rw [show group g0 = pure () from rfl]
  refine wpAny_pure (wpAny_pure (hq h' t1 es' m' e1 e2 fun b o e => ?_))
  rw [e3 b (Nat.ne_of_lt (Heap.lt_size e))]
  exact Heap.get?_push_of_some _ e
end

/-! ### in the calculus -/
open L2
/-- the keywords of a call, and what the machine has for them -/
def KwR : List (Str × V) → List (Str × Value) → Prop := Paired fun (p : Str × V) (q : Str × Value) => p.1 = q.1 ∧ RelV p.2 q.2
/-- names as a dict's keys -/
abbrev kwK (kvs : List (Str × V)) : List (Key × V) := kvs.map fun p => ((Sum.inr p.1 : Key), p.2)
theorem KwR.names : ∀ {kvs : List (Str × V)} {kws : List (Str × Value)}, KwR kvs kws → kvs.map (·.1) = kws.map (·.1)
  | _, _, .nil => rfl
  | _, _, .cons h r => by rw [List.map_cons, List.map_cons, h.1, KwR.names r]
theorem KwR.kv : ∀ {kvs : List (Str × V)} {kws : List (Str × Value)}, KwR kvs kws → KV (kwK kvs) (kws.map fun p => ((Sum.inr p.1 : Key), p.2))
  | _, _, .nil => .nil
  | _, _, .cons h r => .cons ⟨congrArg (fun z : Str => (Sum.inr z : Key)) h.1, h.2⟩ (KwR.kv r)
theorem inr_nodup {kws : List (Str × Value)} (nd : (kws.map (·.1)).Nodup) : ((kws.map fun p => ((Sum.inr p.1 : Key), p.2)).map (·.1)).Nodup := by
  rw [List.map_map]
  have e : (kws.map ((fun q : Key × Value => q.1) ∘ fun p => ((Sum.inr p.1 : Key), p.2))) = (kws.map (·.1)).map (Sum.inr : Str → Key) := by
    rw [List.map_map]
    rfl
  rw [e]
  exact List.Pairwise.map (Sum.inr : Str → Key) (fun a b h z => h (Sum.inr.inj z)) nd
theorem kw_ok {P : Program} {w : World} {H : Hp} {h : Heap} {d : Addr} {es : List DictEntry} {m : Nat} {kvs : List (Str × V)} {kws : List (Str × Value)} (hd : h.get? d = some (dictOf es m)) (r : KwE w kws es) (rk : KwR kvs kws) (nd : (kws.map (·.1)).Nodup) (hz : kvs.length ≤ sizeLine) (hb : sysModules < d) :
    ObjOk P w H h d (.dK (kwK kvs)) := by
  refine ⟨by rw [List.length_map]; exact hz, beq_eq_false_iff_ne.mpr (Nat.ne_of_gt hb), kws.map fun p => ((Sum.inr p.1 : Key), p.2), rk.kv, _, es.toArray, m, hd, ⟨rfl, rfl, rfl⟩, rfl, ?_, ?_, inr_nodup nd⟩
  · intro e he
    obtain ⟨k, t, _, h2, h3⟩ := r.keys e (by simpa using he)
    exact ⟨Sum.inr k, by rw [h2]; exact key_str k t, h3⟩
  · exact r.pairs
/-- what a tracked dict of names is -/
theorem kw_of {P : Program} {w : World} : ∀ {kvs : List (Str × V)} {es : List DictEntry} {vs : List (Key × Value)}, (∀ e ∈ es, ∃ k : Key, keyIs k e.key = true ∧ e.hash = keyH w k) → Pairs (mixKind P w) es vs → KV (kwK kvs) vs → ∃ kws, KwR kvs kws ∧ KwE w kws es := by
  intro kvs
  induction kvs with
  | nil =>
    intro es vs _ hp hr
    cases hr
    cases hp
    exact ⟨[], .nil, .nil⟩
  | cons p kvs ih =>
    intro es vs hk hp hr
    obtain ⟨k, v⟩ := p
    cases hr with
    | cons h4 h5 =>
      cases hp with
      | cons h1 h2 h3 =>
        rename_i q vs' e es'
        obtain ⟨k', u⟩ := q
        obtain ⟨kws, r1, r2⟩ := ih (fun e he => hk e (List.mem_cons_of_mem _ he)) h3 h5
        obtain ⟨e1, e2⟩ := h4
        have e1' : k' = (Sum.inr k : Key) := e1.symm
        subst e1'
        have h1' : Value.isStrOf k e.key = true := h1
        obtain ⟨t, ht⟩ := Value.isStrOf_shape h1'
        obtain ⟨k2, hk2, hh⟩ := hk e (List.mem_cons_self ..)
        obtain rfl : k2 = (Sum.inr k : Key) := (mixKind P w).inj e.key k2 (Sum.inr k) hk2 h1
        have e3 : e.val = u := h2
        obtain ⟨hs, ky, vl⟩ := e
        dsimp only at ht hh e3
        subst ht hh e3
        exact ⟨(k, vl) :: kws, .cons ⟨rfl, e2⟩ r1, .cons r2⟩
theorem kw_nodup : ∀ {kvs : List (Str × V)} {vs : List (Key × Value)}, KV (kwK kvs) vs → (vs.map (·.1)).Nodup → (kvs.map (·.1)).Nodup := fun {kvs vs} r nd => by
  have e : vs.map (·.1) = (kvs.map (·.1)).map (Sum.inr : Str → Key) := by
    clear nd
    induction kvs generalizing vs with
    | nil =>
      cases r
      rfl
    | cons p kvs ih =>
      cases r with
      | cons h r => rw [List.map_cons, List.map_cons, List.map_cons, ← h.1, ih r]
  rw [e] at nd
  exact List.Pairwise.of_map (Sum.inr : Str → Key) (fun a b h z => h (congrArg _ z)) nd
end Lx
set_option Elab.async false
set_option linter.all false
set_option maxRecDepth 100000
set_option maxHeartbeats 2000000
/-! LxKwF: the promise of a def with **ways, and calls of it. -/
namespace Lx
open PySem PySem.W PySem.Calls PyProof.Rows L2 StX

/-- a promise told of the positional values and of those by name -/
abbrev SpW := List V → List (Str × V) → Hp → VK → XK → Prop
def FnW (P : Program) (w : World) (K : Frag) (mg : Str → Option Value) (base : Heap) (CX : CXT) (k : Nat) (f : Addr) (sp : SpW) : Prop :=
  ∀ (A : Around) (outer : List Env) (s : Shared) (H : Hp) (us : List Value) (vs : List V) (kws : List (Str × Value)) (kvs : List (Str × V)) (Q : VK) (E : XK), Room k A → Env0 P w K mg base A outer s H → Vals vs us → KwR kvs kws → (kws.map (·.1)).Nodup → sp vs kvs H Q E →
    codeAny (model P w) A (.call (.ref f) ⟨us, kws⟩) (CR CX outer P w H s Q E) s
theorem FnW.mono {P : Program} {w : World} {K : Frag} {mg : Str → Option Value} {base : Heap} {CX : CXT} {j k : Nat} {f : Addr} {sp : SpW} (F : FnW P w K mg base CX j f sp) (h : j ≤ k) : FnW P w K mg base CX k f sp := fun A outer s H us vs kws kvs Q E hr => F A outer s H us vs kws kvs Q E (hr.mono h)
section
variable {P : Program} {w : World} {K : Frag} {mg : Str → Option Value} {base : Heap} {A : Around} {outer : List Env} {s : Shared} {H : Hp}
theorem env0_new {s2 : Shared} {d : Addr} {u : HO} (e0 : Env0 P w K mg base A outer s H) (kp : ∀ b x, s.heap.get? b = some x → s2.heap.get? b = some x) (hd : s.heap.objs.size ≤ d) (hz : s.heap.objs.size ≤ s2.heap.objs.size) (hg : AllBare s2.gens) (new : ObjOk P w (upd H d u) s2.heap d u) :
    Env0 P w K mg base A outer s2 (upd H d u) := by
  refine ⟨e0.frames, e0.mod, fun b x e => ⟨kp b x (e0.bs b x e).1, ?_⟩, Nat.le_trans e0.bsz hz, Heap.FunFrames.of_keeps (fun b x e _ => ⟨x, kp b x e, rfl⟩) e0.funs, fun b hb => ?_, e0.hok.laid kp hd new, hg⟩
  · rw [upd_ne (Nat.ne_of_lt (Nat.lt_of_lt_of_le (Heap.lt_size (e0.bs b x e).1) hd))]
    exact (e0.bs b x e).2
  · obtain ⟨_, x, hx, _⟩ := e0.funs.mem hb
    rw [upd_ne (Nat.ne_of_lt (Nat.lt_of_lt_of_le (Heap.lt_size hx) hd))]
    exact e0.frf b hb
end
section
variable {CX : CXT} {P : Program} {w : World} {K : Frag} {mg : Str → Option Value} {base : Heap} {k : Nat} {f : Addr} {name qual : Str} {params : Arguments} {body : List Stmt} {scope : Scope} {dV kV doc pm cdv ct oc : Value} {an od : Option Addr}
  {osl : Array (Option Value)} {N ps : List Str} {sp : Sp}
/-- how the def binds: ws the named parameters' values, rest what the dict gets -/
def KwBind (P : Program) (w : World) (K : Frag) (fd : FuncData) (ps : List Str) (pd : Str) (G : List V → List (Str × V) → List V → List (Str × V) → Prop) : Prop :=
  ∀ (vs : List V) (us : List Value) (kvs : List (Str × V)) (kws : List (Str × Value)) (ws : List V) (rest : List (Str × V)), G vs kvs ws rest → Vals vs us → KwR kvs kws → (kws.map (·.1)).Nodup → rest.length ≤ sizeLine →
    ∃ xs rs, Vals ws xs ∧ KwR rest rs ∧ (rs.map (·.1)).Nodup ∧ ws.length = ps.length ∧ ∀ (A' : Around) (Ex : Value → Shared → Prop) (Q : List (Str × Value) → Shared → Prop) (s : Shared), K.In s.heap →
      wpAny (model P w) A' (kwDict rs) (fun d s' => Q (ps.zip xs ++ [(pd, .ref d)]) s') Ex s → wpAny (model P w) A' (bindArgs fd ⟨us, kws⟩) Q Ex s
theorem fn_kw {pd : Str} {G : List V → List (Str × V) → List V → List (Str × V) → Prop} (lk : K.lookup f = some ⟨oc, od, .func (fnOf name qual params body scope dV kV doc pm an cdv ct), osl⟩) (hcd : codeIn K cdv qual = true) (S : FnScope N (ps ++ [pd]) scope) (hCX : CXUp CX)
    (hb : KwBind P w K (fnOf name qual params body scope dV kV doc pm an cdv ct) ps pd G)
    (hbody : ∀ (A : Around) (outer : List Env) (s : Shared) (H : Hp) (vs : List V) (Q : VK) (E : XK), Room k (A.deeper (envOfC qual scope s.heap.objs.size f cdv)) → sp vs H Q E →
      ∃ t, PSs (cxOf CX P w K mg base N qual scope f cdv A outer s H E) body t ∧ t { nx := fun _ H' => Q .non H', rt := Q } (start N vs) H) :
    FnW P w K mg base CX (k + 1) f (fun vs kvs H Q E => ∃ ws rest, G vs kvs ws rest ∧ rest.length ≤ sizeLine ∧ ∀ d, H d = none → sp (ws ++ [V.ref d]) (upd H d (.dK (kwK rest))) Q E) := by
  intro A outer s H us vs kws kvs Q E hr e0 r rk nd hsp
  obtain ⟨ws, rest, hG, hz, hq⟩ := hsp
  obtain ⟨xs, rs, r1, r2, nd2, hl, hbind⟩ := hb vs us kvs kws ws rest hG r rk nd hz
  have KX : K.In s.heap := e0.mod.kin.keeps fun b o e => (e0.bs b o e).1
  refine run_bnd lk hcd S hr e0 (G := fun ys H2 => ∃ d, H d = none ∧ ys = ws ++ [V.ref d] ∧ H2 = upd H d (.dK (kwK rest))) (fun A' Ex Q' h => ?_) fun s2 H2 ys ⟨d, hd, ex, eH⟩ hr' => ?_
  · refine hbind A' Ex Q' s KX ?_
    have big := env0_big e0
    have bare := e0.bare
    obtain ⟨hp, g, dr, tk, os⟩ := s
    refine kw_dict nd2 fun h' t' es m e1 e2 e3 e4 => ?_
    have hn : H hp.objs.size = none := e0.hok.fresh (Nat.le_refl _)
    have new : ObjOk P w (upd H hp.objs.size (.dK (kwK rest))) h' hp.objs.size (.dK (kwK rest)) := kw_ok e1 e2 r2 nd2 hz big
    have e5 : Env0 P w K mg base A outer ⟨h', g, dr, t', os⟩ (upd H hp.objs.size (.dK (kwK rest))) := env0_new e0 e3 (Nat.le_refl _) (by show hp.objs.size ≤ h'.objs.size; rw [e4]; exact Nat.le_succ _) bare new
    have un : Un (frs outer) [] H (upd H hp.objs.size (.dK (kwK rest))) hp h' := Un.laid e3 (Nat.le_refl _) hn
    have z := h ⟨h', g, dr, t', os⟩ _ (ws ++ [V.ref hp.objs.size]) (xs ++ [Value.ref hp.objs.size]) e5 un rfl (fun e s' => hCX outer _ H _ _ E e s' un e3 rfl) (r1.append (.cons rfl .nil)) (by rw [List.length_append, List.length_append, hl] <;> rfl) ⟨_, hn, rfl, rfl⟩
    rw [List.zip_append (by rw [← r1.length, hl])] at z
    exact z
  · subst ex eH
    exact hbody A outer s2 _ _ Q E hr' (hq d hd)
end
end Lx
namespace Lx
open PySem PySem.Spec PyProof.Rows L2 StX
section
variable {X : Cx} {pins : List (Addr × Obj)} {σ : L2.St} {H : Hp} {s : Shared}
/-- a class that is called by a name -/
def CalP (X : Cx) (x : Str) (C : Addr) (g : L2.St → Prop) : Prop :=
  ∀ (pins : List (Addr × Obj)) (s : Shared) (σ : L2.St) (H : Hp) (p : Pos) (Q : Value → Shared → Prop) (E : Value → Shared → Prop), Inv X pins σ H s → g σ → Q (.ref C) s → wpAny (model X.prog X.w) X.A (eval (.Name x p) X.env) Q E s
theorem ld_slot {i : Nat} {x : Str} {p : Pos} {v : V} {Q : Value → Shared → Prop} {E : Value → Shared → Prop} (I : Inv X pins σ H s) (hN : X.N[i]? = some x) (hv : Vis X.env.scope x) (e : σ[i]? = some (some v)) (h : ∀ u, RelV v u → Q u s)
    (hd : (x == ("__debug__" : Str)) = false := by decide) (hcd : (x == ("__classdict__" : Str)) = false := by decide) : wpAny (model X.prog X.w) X.A (eval (.Name x p) X.env) Q E s := by
  obtain ⟨m, hn, hl⟩ := I.loc
  obtain ⟨u, r, l⟩ := hl i x v hN e hv
  rcases l with ⟨hk, hm⟩ | ⟨hk, c, hc, hcell⟩
  · exact wpAny_Name (wpAny_loadName_local I.ok.kind hk hn hm (h u r)) hd
  · rcases hk with hk | hk
    · exact wpAny_Name (wpAny_loadName_cell I.ok.kind hk hc hcell (h u r)) hd
    · exact wpAny_Name (wpAny_loadName_free I.ok.kind hk hc hcell (h u r) hcd) hd
theorem cal_glob {x : Str} {C : Addr} (hg : Gl X x) (hm : X.mg x = some (.ref C)) (hdb : (x == ("__debug__" : Str)) = false := by decide) : CalP X x C (fun _ => True) := fun pins s σ H p Q E I _ h => ld_glob I hg hm h hdb
theorem cal_slot {i : Nat} {x : Str} {C : Addr} (hN : X.N[i]? = some x) (hv : Vis X.env.scope x) (hd : (x == ("__debug__" : Str)) = false := by decide) (hcd : (x == ("__classdict__" : Str)) = false := by decide) : CalP X x C (fun σ => σ[i]? = some (some (.ref C))) :=
  fun pins s σ H p Q E I e h => ld_slot I hN hv e (fun u r => by
    obtain rfl : u = Value.ref C := r
    exact h) hd hcd
theorem kwR_zip : ∀ {ks : List Str} {zs : List V} {ws : List Value}, Vals zs ws → KwR (ks.zip zs) (ks.zip ws)
  | [], _, _, _ => .nil
  | _ :: _, _, _, .nil => .nil
  | _ :: _, _, _, .cons h r => .cons ⟨rfl, h⟩ (kwR_zip r)
theorem zip_nodup {α : Type} : ∀ {ks : List Str} {ws : List α}, ks.Nodup → ((ks.zip ws).map (·.1)).Nodup
  | [], _, _ => .nil
  | _ :: _, [], _ => .nil
  | k :: ks, w :: ws, nd => by
    have h := List.nodup_cons.mp nd
    refine List.nodup_cons.mpr ⟨fun z => h.1 ?_, zip_nodup h.2⟩
    obtain ⟨p, hp, e⟩ := List.mem_map.mp z
    have q := (List.of_mem_zip hp).1
    rw [show p.1 = k from e] at q
    exact q
end
/-- C(e, .., k = v, ..) -/
def tMakeW (C : Addr) (g : L2.St → Prop) (ks : List Str) (sp : SpW) (E : XK) (t tk : TA) : TE := fun σ H Q => g σ ∧ t σ H fun vs H1 => tk σ H1 fun zs H2 =>
  ∀ x dx, H2 x = none → H2 dx = none → dx ≠ x → sp (.ref x :: vs) (ks.zip zs) (upd (upd H2 dx (.own x)) x (.ins C dx [])) (fun v H3 => v = .non ∧ Q (.ref x) H3) E
/-- C(e, .., **m), m in slot i -/
def tMakeM (C : Addr) (g : L2.St → Prop) (i : Nat) (sp : SpW) (E : XK) (t : TA) : TE := fun σ H Q => g σ ∧ t σ H fun vs H1 => ∃ a kvs, σ[i]? = some (some (.ref a)) ∧ Rd H1 a (.dK (kwK kvs)) ∧
  ∀ x dx, H1 x = none → H1 dx = none → dx ≠ x → sp (.ref x :: vs) kvs (upd (upd H1 dx (.own x)) x (.ins C dx [])) (fun v H3 => v = .non ∧ Q (.ref x) H3) E
section
variable {X : Cx} {CX : CXT} {k : Nat} {f C : Addr} {g : L2.St → Prop} {ks : List Str} {sp : SpW} {E : XK} {x : Str} {p pos : Pos} {e : Expr} {es : List Expr} {kws : List Keyword} {t tk : TA}
theorem run_makeW {pins : List (Addr × Obj)} {σ : L2.St} {H : Hp} {s : Shared} {Q : VK} {us : List Value} {vs : List V} {kw : List (Str × Value)} {kvs : List (Str × V)} (M : Mk X.K C f) (F : FnW X.prog X.w X.K X.mg X.base CX k f sp) (hr : Room (k + 1) X.A) (hx : Passes CX X E) (I : Inv X pins σ H s) (r : Vals vs us) (rk : KwR kvs kw) (nd : (kw.map (·.1)).Nodup)
    (h : ∀ x dx, H x = none → H dx = none → dx ≠ x → sp (.ref x :: vs) kvs (upd (upd H dx (.own x)) x (.ins C dx [])) (fun v H2 => v = .non ∧ Q (.ref x) H2) E) :
    wpAny (model X.prog X.w) X.A (call (.ref C) us kw) (EP X pins σ Q) X.xe s := by
  have hq := h (s.heap.objs.size + 1) s.heap.objs.size (I.hok.fresh (Nat.le_succ _)) (I.hok.fresh (Nat.le_refl _)) (Nat.ne_of_lt (Nat.lt_succ_self _))
  have I2 := Inv.made (C := C) I
  have r1 : Vals (V.ref (s.heap.objs.size + 1) :: vs) (Value.ref (s.heap.objs.size + 1) :: us) := .cons rfl r
  refine wpAny_call (make_map (f := f) I.kIn M.makes M.init (beq_iff_eq.mp M.fn) (codeAny_mono (F _ X.stack _ _ (Value.ref (s.heap.objs.size + 1) :: us) _ kw kvs _ E (hr.make C us kw) (I2.env0.make C us kw) r1 rk nd hq) fun r s' hq' => ?_))
  cases r with
  | error e => exact hx pins σ _ _ e s' I2 hq'
  | ok fl =>
    cases fl with
    | ret u =>
      obtain ⟨v, H', I3, rv, ev, q3⟩ := I2.after hq'
      subst ev
      exact ⟨rv, ⟨V.ref (s.heap.objs.size + 1), H', I3, rfl, q3⟩⟩
    | next => exact False.elim hq'
    | brk => exact False.elim hq'
    | cont => exact False.elim hq'
theorem pe_makeW (cal : CalP X x C g) (M : Mk X.K C f) (F : FnW X.prog X.w X.K X.mg X.base CX k f sp) (hr : Room (k + 1) X.A) (hx : Passes CX X E)
    (ha : PA X (e :: es) t) (hkw : PK X kws tk) (nd : ks.Nodup := by decide) (hall : (backToKw pos (keywordEach kws X.env)).all (·.1.isSome) = true := by rfl) (hks : (backToKw pos (keywordEach kws X.env)).filterMap (·.1) = ks := by rfl)
    (he : starEach (e :: es) X.env = (false, eval e X.env) :: starEach es X.env := by rfl)
    (hpl : ((backTo pos (starEach (e :: es) X.env)).any (·.1) || (backToKw pos (keywordEach kws X.env)).any (·.1.isNone)) = false := by rfl) :
    PE X (.Call (.Name x p) (e :: es) kws pos) (tMakeW C g ks sp E t tk) := by
  refine ⟨fun pins s σ H Q I ⟨hg, h⟩ => ?_⟩
  refine wpAny_Call_Name_kw (cal pins s σ H p _ _ I hg ?_)
  refine PySem.W.callWith_KW (h₀ := X.base) I.ok.mod.kin M.kp hall (thn (ha.run pos pins s σ H _ I h) fun us s1 ⟨vs, H1, I1, r, q⟩ => ?_) hpl he
  refine thn (hkw.run pos pins s1 σ H1 _ I1 q) fun ws s2 ⟨zs, H2, I2, rz, q2⟩ => ⟨I2.kIn, ?_⟩
  rw [hks]
  exact run_makeW M F hr hx I2 r (kwR_zip rz) (zip_nodup nd) q2
theorem pe_makeW0 (cal : CalP X x C g) (M : Mk X.K C f) (F : FnW X.prog X.w X.K X.mg X.base CX k f sp) (hr : Room (k + 1) X.A) (hx : Passes CX X E)
    (hkw : PK X kws tk) (nd : ks.Nodup := by decide) (hall : (backToKw pos (keywordEach kws X.env)).all (·.1.isSome) = true := by rfl) (hks : (backToKw pos (keywordEach kws X.env)).filterMap (·.1) = ks := by rfl)
    (hpl : ((backTo pos (starEach [] X.env)).any (·.1) || (backToKw pos (keywordEach kws X.env)).any (·.1.isNone)) = false := by rfl) :
    PE X (.Call (.Name x p) [] kws pos) (tMakeW C g ks sp E tNil tk) := by
  refine ⟨fun pins s σ H Q I ⟨hg, h⟩ => ?_⟩
  refine wpAny_Call_Name_kw (cal pins s σ H p _ _ I hg ?_)
  refine PySem.W.callWith_KW0 (h₀ := X.base) I.ok.mod.kin M.kp hall ?_ hpl
  refine thn (hkw.run pos pins s σ H _ I h) fun ws s2 ⟨zs, H2, I2, rz, q2⟩ => ⟨I2.kIn, ?_⟩
  rw [hks]
  exact run_makeW M F hr hx I2 .nil (kwR_zip rz) (zip_nodup nd) q2
theorem pe_makeM {i : Nat} {n : Str} {pn kp : Pos} (cal : CalP X x C g) (M : Mk X.K C f) (F : FnW X.prog X.w X.K X.mg X.base CX k f sp) (hr : Room (k + 1) X.A) (hx : Passes CX X E) (ha : PA X (e :: es) t) (hN : X.N[i]? = some n) (hv : Vis X.env.scope n)
    (hd : (n == ("__debug__" : Str)) = false := by decide) (hcd : (n == ("__classdict__" : Str)) = false := by decide) (he : starEach (e :: es) X.env = (false, eval e X.env) :: starEach es X.env := by rfl) (hpl : (backTo pos (starEach (e :: es) X.env)).any (·.1) = false := by rfl) :
    PE X (.Call (.Name x p) (e :: es) [⟨none, .Name n pn, kp⟩] pos) (tMakeM C g i sp E t) := by
  refine ⟨fun pins s σ H Q I ⟨hg, h⟩ => ?_⟩
  refine wpAny_Call_Name_kw (cal pins s σ H p _ _ I hg ?_)
  show wpAny _ _ (callWith pos (.ref C) [] (backTo pos (starEach (e :: es) X.env)) [(none, (do let v ← eval (.Name n pn) X.env; standAt pos; pure v))]) _ _ _
  refine call_m rfl (PySem.W.keeps_K M.kp) (evalArgs_m hpl rfl (thn (ha.run pos pins s σ H _ I h) fun us s1 ⟨vs, H1, I1, r, a, kvs, ea, hda, q⟩ => ?_))
  obtain ⟨hp, gg, dr, tt, os⟩ := s1
  have ok := hda.ok I1.hok
  obtain ⟨hz, hs, kk, rkv, o, esA, ep, ho, ⟨hc, _, _⟩, hdat, hkeys, hpairs, hnd⟩ := ok
  have hkeys' : ∀ e ∈ esA.toList, ∃ k : Key, keyIs k e.key = true ∧ e.hash = keyH X.w k := fun e he => hkeys e (by simpa using he)
  obtain ⟨kw, rk, rE⟩ := kw_of hkeys' hpairs rkv
  have ndv := kw_nodup rkv hnd
  have nd : (kw.map (·.1)).Nodup := by rw [← rk.names]; exact ndv
  have len : esA.toList.length ≤ sizeLine := by
    have z1 := rE.length
    have z2 := rk.length
    rw [List.length_map] at hz
    omega
  have I2 : Inv X pins σ H1 ⟨hp.push (PySem.W.dictOf [] 0), gg, dr, tt, os⟩ := I1.kept (t' := tt) fun b o e => Heap.get?_push_of_some _ e
  refine merged_one (kws := kw) (wpAny_bind (ld_slot I2 hN hv ea (fun u ru => wpAny_bind (wpAny_standAt (wpAny_pure ?_))) hd hcd)) fun h' t' es' m' e1 e2 e3 => ?_
  · obtain rfl : u = Value.ref a := ru
    exact ⟨tt, a, o, esA.toList, ep, rfl, rfl, ho, hc, by rw [hdat], rE, nd, len, hs⟩
  · have I3 : Inv X pins σ H1 ⟨h', gg, dr, t', os⟩ := I1.kept (t' := t') e3
    refine kw_in e1 e2 ⟨I3.kIn, ?_⟩
    exact run_makeW M F hr hx I3 r rk nd q
end
end Lx
set_option Elab.async false
set_option linter.all false
set_option maxRecDepth 100000
set_option maxHeartbeats 2000000
/-! LxKwB: what a def with **ways binds. -/
namespace Lx
open PySem PySem.W PySem.Calls PyProof.Rows

theorem forIn_skip {α β : Type} (f : α → β × List α → Sem (ForInStep (β × List α))) : ∀ (l : List α) (b : β) (acc : List α), (∀ x ∈ l, ∀ st, f x st = pure (ForInStep.yield (st.1, st.2 ++ [x]))) → forIn l (b, acc) f = pure (b, acc ++ l)
  | [], b, acc, _ => by rw [List.forIn_nil, List.append_nil]
  | x :: l, b, acc, h => by
    rw [List.forIn_cons, h x (List.mem_cons_self ..), pure_bind]
    show forIn l (b, acc ++ [x]) f = _
    rw [forIn_skip f l b _ fun y hy => h y (List.mem_cons_of_mem _ hy), List.append_assoc]
    rfl
def kwPars2 (p1 p2 pd : Str) (r1 r2 r3 : Pos) (ds : List Expr) : Arguments := { posonlyargs := [], args := [{ arg := p1, annotation := none, pos := r1 }, { arg := p2, annotation := none, pos := r2 }], vararg := none, kwonlyargs := [], kw_defaults := [], kwarg := some { arg := pd, annotation := none, pos := r3 }, defaults := ds }
theorem bind2_pos {fd : FuncData} {p1 p2 pd : Str} {r1 r2 r3 : Pos} {ds : List Expr} {u v d0 : Value} {kws : List (Str × Value)} (hp : fd.params = kwPars2 p1 p2 pd r1 r2 r3 ds) (hn : (p2 == p1) = false) (hk : ∀ q ∈ kws, q.1 ≠ p1 ∧ q.1 ≠ p2) (hz : kws.length ≤ sizeLine) :
    ∃ k, bindArgs fd ⟨[u, v], kws⟩ = seqItems? fd.defaults >>= k ∧ k (some #[d0]) = kwDict kws >>= fun d => pure [(p1, u), (p2, v), (pd, .ref d)] := by
  obtain ⟨nm, q, params, body, scope, gl, cl, dfl, kwd, doc, pm, an, cd, ct, bl⟩ := fd
  dsimp only at hp
  subst hp
  unfold bindArgs
  dsimp only [kwPars2]
  rw [forIn_skip (l := kws), pure_bind]
  · refine ⟨_, rfl, ?_⟩
    have hz' : ¬ (sizeLine + 1 < kws.length) := by omega
    simp [List.lookup, hn, hz', kwDict]
  · intro x hx st
    obtain ⟨h1, h2⟩ := hk x hx
    simp [h1, h2]
theorem bind2_dfl {fd : FuncData} {p1 p2 pd : Str} {r1 r2 r3 : Pos} {ds : List Expr} {u d0 : Value} {kws : List (Str × Value)} (hp : fd.params = kwPars2 p1 p2 pd r1 r2 r3 ds) (hn : (p2 == p1) = false) (hk : ∀ q ∈ kws, q.1 ≠ p1 ∧ q.1 ≠ p2) (hz : kws.length ≤ sizeLine) :
    ∃ k, bindArgs fd ⟨[u], kws⟩ = seqItems? fd.defaults >>= k ∧ k (some #[d0]) = kwDict kws >>= fun d => pure [(p1, u), (p2, d0), (pd, .ref d)] := by
  obtain ⟨nm, q, params, body, scope, gl, cl, dfl, kwd, doc, pm, an, cd, ct, bl⟩ := fd
  dsimp only at hp
  subst hp
  unfold bindArgs
  dsimp only [kwPars2]
  rw [forIn_skip (l := kws), pure_bind]
  · refine ⟨_, rfl, ?_⟩
    have hz' : ¬ (sizeLine + 1 < kws.length) := by omega
    simp [List.lookup, hn, hz', kwDict]
  · intro x hx st
    obtain ⟨h1, h2⟩ := hk x hx
    simp [h1, h2]
theorem bind2_nam {fd : FuncData} {p1 p2 pd : Str} {r1 r2 r3 : Pos} {ds : List Expr} {u v d0 : Value} {kws : List (Str × Value)} (hp : fd.params = kwPars2 p1 p2 pd r1 r2 r3 ds) (hn : (p2 == p1) = false) (hk : ∀ q ∈ kws, q.1 ≠ p1 ∧ q.1 ≠ p2) (hz : kws.length ≤ sizeLine) :
    ∃ k, bindArgs fd ⟨[u], (p2, v) :: kws⟩ = seqItems? fd.defaults >>= k ∧ k (some #[d0]) = kwDict kws >>= fun d => pure [(p1, u), (p2, v), (pd, .ref d)] := by
  obtain ⟨nm, q, params, body, scope, gl, cl, dfl, kwd, doc, pm, an, cd, ct, bl⟩ := fd
  dsimp only at hp
  subst hp
  unfold bindArgs
  dsimp only [kwPars2]
  rw [List.forIn_cons]
  simp only [List.map_cons, List.map_nil, List.nil_append, List.zip_cons_cons, List.zip_nil_right, List.contains_cons, beq_self_eq_true, Bool.true_or, Bool.or_true, Bool.or_false, if_true, List.lookup, hn, Option.isSome_none, Bool.false_eq_true, if_false, pure_bind, List.cons_append, List.nil_append]
  rw [forIn_skip (l := kws), pure_bind]
  · refine ⟨_, rfl, ?_⟩
    have hz' : ¬ (sizeLine + 1 < kws.length) := by omega
    simp [List.lookup, hn, hz', kwDict]
  · intro x hx st
    obtain ⟨h1, h2⟩ := hk x hx
    simp [h1, h2]
end Lx
namespace Lx
open PySem PySem.W PySem.Calls PyProof.Rows L2
/-- what two parameters (the second with a default) and **pd get -/
def G2 (p1 p2 : Str) (dv : V) (vs : List V) (kvs : List (Str × V)) (ws : List V) (rest : List (Str × V)) : Prop :=
  (∀ q ∈ rest, q.1 ≠ p1 ∧ q.1 ≠ p2) ∧ ((∃ x, vs = [x] ∧ ws = [x, dv] ∧ kvs = rest) ∨ (∃ x b, vs = [x, b] ∧ ws = [x, b] ∧ kvs = rest) ∨ ∃ x b, vs = [x] ∧ ws = [x, b] ∧ kvs = (p2, b) :: rest)
theorem kw_names {kvs : List (Str × V)} {kws : List (Str × Value)} {p1 p2 : Str} (r : KwR kvs kws) (h : ∀ q ∈ kvs, q.1 ≠ p1 ∧ q.1 ≠ p2) : ∀ q ∈ kws, q.1 ≠ p1 ∧ q.1 ≠ p2 := fun q hq => by
  have z : q.1 ∈ kvs.map (·.1) := by
    rw [r.names]
    exact List.mem_map.mpr ⟨q, hq, rfl⟩
  obtain ⟨q', hq', e⟩ := List.mem_map.mp z
  rw [← e]
  exact h q' hq'
theorem kwbind2 {P : Program} {w : World} {K : Frag} {fd : FuncData} {p1 p2 pd : Str} {r1 r2 r3 : Pos} {ds : List Expr} {T : Addr} {o : Obj} {d0 : Value} {n : Nat} {dv : V} (hp : fd.params = kwPars2 p1 p2 pd r1 r2 r3 ds) (hn : (p2 == p1) = false) (hd : fd.defaults = .ref T) (lT : K.lookup T = some o) (oT : o.data = .seq #[d0] n) (rT : RelV dv d0) :
    KwBind P w K fd [p1, p2] pd (G2 p1 p2 dv) := by
  have fin : ∀ {us : List Value} {kws rs : List (Str × Value)} {xs : List Value} {A' : Around} {Ex : Value → Shared → Prop} {Q : List (Str × Value) → Shared → Prop} {s : Shared}, K.In s.heap →
      (∃ k, bindArgs fd ⟨us, kws⟩ = seqItems? fd.defaults >>= k ∧ k (some #[d0]) = kwDict rs >>= fun d => pure ([p1, p2].zip xs ++ [(pd, .ref d)])) →
      wpAny (model P w) A' (kwDict rs) (fun d s' => Q ([p1, p2].zip xs ++ [(pd, .ref d)]) s') Ex s → wpAny (model P w) A' (bindArgs fd ⟨us, kws⟩) Q Ex s := by
    intro us kws rs xs A' Ex Q s X ⟨k, e1, e2⟩ h
    rw [e1, hd]
    refine wpAny_bind (wpAny_seqItems (X _ _ lT) oT ?_)
    rw [e2]
    exact wpAny_bind (wpAny_mono h (fun d s' h' => wpAny_pure h') fun _ _ z => z)
  intro vs us kvs kws ws rest hG r rk nd hz
  obtain ⟨hk, hG⟩ := hG
  have hlen : ∀ {rs : List (Str × Value)}, KwR rest rs → rs.length ≤ sizeLine := fun r => by rw [← r.length]; exact hz
  rcases hG with ⟨x, rfl, rfl, rfl⟩ | ⟨x, b, rfl, rfl, rfl⟩ | ⟨x, b, rfl, rfl, rfl⟩
  · cases r with
    | cons ru rn =>
      cases rn
      exact ⟨[_, d0], kws, .cons ru (.cons rT .nil), rk, nd, rfl, fun A' Ex Q s X h => fin X (bind2_dfl hp hn (kw_names rk hk) (hlen rk)) h⟩
  · cases r with
    | cons ru rn =>
      cases rn with
      | cons rb rn =>
        cases rn
        exact ⟨[_, _], kws, .cons ru (.cons rb .nil), rk, nd, rfl, fun A' Ex Q s X h => fin X (bind2_pos hp hn (kw_names rk hk) (hlen rk)) h⟩
  · cases r with
    | cons ru rn =>
      cases rn
      cases rk with
      | cons hb rk =>
        rename_i q rs
        obtain ⟨qn, qv⟩ := q
        obtain ⟨e1, e2⟩ := hb
        have e1' : p2 = qn := e1
        subst e1'
        rw [List.map_cons, List.nodup_cons] at nd
        exact ⟨[_, qv], rs, .cons ru (.cons e2 .nil), rk, nd.2, rfl, fun A' Ex Q s X h => fin X (bind2_nam hp hn (kw_names rk hk) (hlen rk)) h⟩
end Lx
namespace Lx
open PySem PySem.W PySem.Calls PyProof.Rows L2 StX
/-- a def of the form (p1, p2 = .., **pd) -/
theorem okW2 {CX : CXT} {P : Program} {w : World} {K : Frag} {mg : Str → Option Value} {base : Heap} {k : Nat} {f : Addr} {fd : FuncData} {x qual : Str} {params : Arguments} {body : List Stmt} {scope : Scope} {N : List Str} {p1 p2 pd : Str} {dv : V} {sp : Sp} {r1 r2 r3 : Pos} {ds : List Expr}
    (F : FunD K x qual params body scope [dv] [] f fd) (hp : params = kwPars2 p1 p2 pd r1 r2 r3 ds) (hn : (p2 == p1) = false) (S : FnScope N [p1, p2, pd] scope) (hCX : CXUp CX)
    (hbody : ∀ (cdv : Value) (A : Around) (outer : List Env) (s : Shared) (H : Hp) (vs : List V) (Q : VK) (E : XK), Room k (A.deeper (envOfC qual scope s.heap.objs.size f cdv)) → sp vs H Q E →
      ∃ t, PSs (cxOf CX P w K mg base N qual scope f cdv A outer s H E) body t ∧ t { nx := fun _ H' => Q .non H', rt := Q } (start N vs) H) :
    FnW P w K mg base CX (k + 1) f (fun vs kvs H Q E => ∃ ws rest, G2 p1 p2 dv vs kvs ws rest ∧ rest.length ≤ sizeLine ∧ ∀ d, H d = none → sp (ws ++ [V.ref d]) (upd H d (.dK (kwK rest))) Q E) := by
  obtain ⟨oc, od, dV, kV, doc, pm, an, cdv, ct, osl, rfl, lk, hcd, hD, _⟩ := F.ex
  rcases hD with ⟨e, _⟩ | ⟨_, T, o, its, m, rfl, lT, oT, rT⟩
  · cases e
  · cases rT with
    | cons rd rn =>
      cases rn
      exact fn_kw (ps := [p1, p2]) lk hcd S hCX (kwbind2 hp hn rfl lT oT rd) fun A outer s H vs Q E hr hsp => hbody cdv A outer s H vs Q E hr hsp
end Lx
set_option Elab.async false
set_option linter.all false
set_option maxRecDepth 100000
set_option maxHeartbeats 2000000
/-! LxMore: in over tuples of data, dicts of texts compared, tuples of the text. -/
namespace Lx
open PySem PySem.Spec PyProof.Rows L2
section
variable {X : Cx}
/-- x in t, t a tuple, data of any depth -/
def rInT (K : PySem.W.Frag) (neg : Bool) : R2 := fun x y H Q => ∃ d ds, Dp K H x d ∧ Dp K H y (.tuple ds) ∧ SeqAt.shaped d = true ∧ SeqAt.shaped (.tuple ds) = true ∧ Q (.bl (if neg then !ds.any fun z => PyData.eqv z d else ds.any fun z => PyData.eqv z d)) H
theorem op_inT (hu : X.A.units + 65 < cLine) : OpR X (compareOp .In) (rInT X.K false) := by
  intro pins s σ H x y v u Q I rx ry h
  obtain ⟨d, ds, hd, he, sd, se, q⟩ := h
  obtain ⟨as, r1⟩ := Dp.reads I d x v hd rx
  obtain ⟨bs, r2⟩ := Dp.reads I (.tuple ds) y u he ry
  exact SeqAt.in_tuple_reads r2 r1 (SeqAt.canLay_of_shaped se) (SeqAt.canLay_of_shaped sd) (room_in_shaped sd hu) ⟨.bl _, H, I, rfl, q⟩
theorem op_notInT (hu : X.A.units + 65 < cLine) : OpR X (compareOp .NotIn) (rInT X.K true) := by
  intro pins s σ H x y v u Q I rx ry h
  obtain ⟨d, ds, hd, he, sd, se, q⟩ := h
  obtain ⟨as, r1⟩ := Dp.reads I d x v hd rx
  obtain ⟨bs, r2⟩ := Dp.reads I (.tuple ds) y u he ry
  exact SeqAt.notIn_tuple_reads r2 r1 (SeqAt.canLay_of_shaped se) (SeqAt.canLay_of_shaped sd) (room_in_shaped sd hu) ⟨.bl _, H, I, rfl, q⟩
/-- two dicts whose values are texts, the keys of the first all in the second -/
def rEqDS : R2 := fun x y H Q => ∃ a b ks ls, x = .ref a ∧ y = .ref b ∧ H a = some (.dK ks) ∧ H b = some (.dK ls) ∧ ks.length = ls.length ∧ (∀ p ∈ ks, ∃ s t : Str, p.2 = .str s ∧ valV ls p.1 = some (.str t)) ∧
  ∀ r : Bool, (r = true ↔ ∀ p ∈ ks, valV ls p.1 = some p.2) → Q (.bl r) H
theorem hitsS {A : Around} {s : Shared} {κ : Type} [DecidableEq κ] {kvs : List (κ × V)} {vb : List (κ × Value)} (rb : KV kvs vb) : ∀ {ks : List (κ × V)} {va : List (κ × Value)}, KV ks va → (∀ p ∈ ks, ∃ s t : Str, p.2 = .str s ∧ valV kvs p.1 = some (.str t)) →
    ∃ r, PySem.W.KeqHits A s vb va r ∧ (r = true ↔ ∀ p ∈ ks, valV kvs p.1 = some p.2) := by
  intro ks va ra
  unfold KV at ra
  induction ra with
  | nil => exact fun _ => ⟨true, .nil, by simp⟩
  | @cons p q ps qs h t ih =>
    intro hp
    obtain ⟨h1, h2⟩ := h
    obtain ⟨r, hr, hiff⟩ := ih fun p' hm => hp p' (List.mem_cons_of_mem _ hm)
    obtain ⟨x, y, e1, e2⟩ := hp p List.mem_cons_self
    have rr : RelO (some (V.str y)) (valueAt vb p.1) := by rw [← e2]; exact rb.val p.1
    obtain ⟨z, hz, rz⟩ := rr.some_of
    obtain ⟨k, v⟩ := q
    have h1' : p.1 = k := h1
    rw [h1'] at hz
    have h2' : RelV p.2 v := h2
    rw [e1] at h2'
    obtain ⟨t1, rfl⟩ := h2'
    obtain ⟨t2, rfl⟩ := rz
    refine ⟨(x == y) && r, .hit hz (SeqAt.EqAt.str_str x t1 y t2) hr, ?_⟩
    rw [Bool.and_eq_true, beq_iff_eq, hiff]
    constructor
    · rintro ⟨rfl, h⟩ p' hp'
      rcases List.mem_cons.mp hp' with rfl | hp'
      · rw [e2, e1]
      · exact h p' hp'
    · intro h
      refine ⟨?_, fun p' hp' => h p' (List.mem_cons_of_mem _ hp')⟩
      have q := h p List.mem_cons_self
      rw [e2, e1] at q
      injection q with q
      injection q with q
      exact q.symm
theorem op_eqDS (hu : X.A.units < cLine) : OpR X (compareOp .Eq) rEqDS := by
  intro pins s σ H x y v u Q I rx ry h
  obtain ⟨a, b, ks, ls, rfl, rfl, ea, eb, hlen, hp, q⟩ := h
  obtain rfl : v = Value.ref a := rx
  obtain rfl : u = Value.ref b := ry
  obtain ⟨_, ya, va, ra, da⟩ := (show ObjOk X.prog X.w H s.heap a (.dK ks) from I.hok a _ ea)
  obtain ⟨_, yb, vb, rb, db⟩ := (show ObjOk X.prog X.w H s.heap b (.dK ls) from I.hok b _ eb)
  have hl : va.length = vb.length := by rw [← ra.length, ← rb.length]; exact hlen
  obtain ⟨r, hr, hiff⟩ := hitsS (A := X.A.in1) (s := s) rb ra hp
  exact PySem.W.keq_eq (knd := mixKind X.prog X.w) (r := r) ya yb da db hu (fun _ => hr) (fin_bl I (q r hiff) (by simp [hl]))
end
/-! ### tuples of texts that the program's text lays -/
def KTup (K : PySem.W.Frag) (a : Addr) (ss : List Str) : Prop := ∀ H : Hp, SqT K H a (ss.map V.str)
def strsB : List Value → List Str → Bool
  | [], [] => true
  | .str x _ :: us, y :: ys => x == y && strsB us ys
  | _, _ => false
theorem strsB_ok : ∀ {us : List Value} {ss : List Str}, strsB us ss = true → Vals (ss.map V.str) us
  | [], [], _ => .nil
  | .str x t :: us, y :: ys, h => by
    unfold strsB at h
    rw [Bool.and_eq_true, beq_iff_eq] at h
    obtain ⟨rfl, h⟩ := h
    exact .cons ⟨t, rfl⟩ (strsB_ok h)
theorem strsB_len : ∀ {us : List Value} {ss : List Str}, strsB us ss = true → us.length = ss.length := fun h => by
  have q := (strsB_ok h).length
  rw [List.length_map] at q
  exact q.symm
def ktupB (K : PySem.W.Frag) (a : Addr) (ss : List Str) : Bool := (match K.lookup a with
  | some ⟨.type t, _, .seq its _, _⟩ => t == "tuple" && strsB its.toList ss
  | _ => false) && decide (ss.length ≤ 1000)
theorem ktupB_ok {K : PySem.W.Frag} {a : Addr} {ss : List Str} (h : ktupB K a ss = true) : KTup K a ss := by
  unfold ktupB at h
  rw [Bool.and_eq_true, decide_eq_true_eq] at h
  obtain ⟨h, hl⟩ := h
  split at h
  · rename_i o t od its n sl e
    rw [Bool.and_eq_true, beq_iff_eq] at h
    obtain ⟨rfl, h⟩ := h
    have q := strsB_len h
    refine fun H => .inr ⟨_, its, n, e, rfl, rfl, ?_, strsB_ok h⟩
    rw [← Array.length_toList, q, sizeLine_eq]
    omega
  · cases h
end Lx
namespace Lx
open PySem PySem.Spec L2
theorem walk_zipT {K : PySem.W.Frag} {a b : Addr} {xs ys : List V} {n : Nat} (hn : n = min xs.length ys.length) : Walk (RZ.ItzT K a b) n (fun H => SqT K H a xs ∧ SqT K H b ys) (YPair (fun i => xs[i]?) (fun i => ys[i]?)) := by
  subst hn
  refine ⟨fun i _ hi q => ?_, fun _ q => ⟨xs, ys, q.1, q.2, by omega⟩, fun i H v H' _ q y => ?_⟩
  · have h1 : i < xs.length := by omega
    have h2 : i < ys.length := by omega
    exact ⟨xs, ys, xs[i], ys[i], q.1, q.2, List.getElem?_eq_getElem h1, List.getElem?_eq_getElem h2⟩
  · obtain ⟨T, x, z, h1, h2, h3, h4, h5⟩ := y
    exact ⟨T, x, z, h1, h2, h3, h4 xs q.1, h5 ys q.2⟩
theorem get_str {ss : List Str} {i : Nat} {y : V} (h : (ss.map V.str)[i]? = some y) : ∃ s, ss[i]? = some s ∧ y = .str s := by
  rw [List.getElem?_map] at h
  cases e : ss[i]? with
  | none =>
    rw [e] at h
    cases h
  | some s =>
    rw [e] at h
    exact ⟨s, rfl, (Option.some.inj h).symm⟩
theorem if_false_of {c : Bool} {A B : Prop} (hc : c = false) (h : B) : if c = true then A else B := by
  rw [hc, if_neg Bool.false_ne_true]
  exact h
theorem if_true_of {c : Bool} {A B : Prop} (hc : c = true) (h : A) : if c = true then A else B := by
  rw [hc, if_pos rfl]
  exact h
theorem inV_str (x : Str) (ss : List Str) : inV (.str x) (ss.map V.str) = decide (x ∈ ss) := by
  unfold inV
  induction ss with
  | nil => rfl
  | cons m r ih =>
    rw [List.map_cons, List.any_cons, ih]
    have e : eqV (.str m) (.str x) = decide (x = m) := by
      show (m == x) = _
      by_cases h : x = m
      · subst h
        simp
      · rw [decide_eq_false h]
        exact beq_eq_false_iff_ne.mpr (Ne.symm h)
    rw [e]
    by_cases h : x = m <;> simp [h]
theorem flat_strs (ss : List Str) : (ss.map V.str).all flatV = true := by
  rw [List.all_map]
  exact List.all_eq_true.mpr fun _ _ => rfl
theorem putK_app {κ : Type} [DecidableEq κ] {kvs : List (κ × V)} {k : κ} {v : V} (h : k ∉ kvs.map (·.1)) : putK kvs k v = kvs ++ [(k, v)] := by
  unfold putK
  have e : (kvs.any fun kv => decide (kv.1 = k)) = false := by
    cases q : kvs.any fun kv => decide (kv.1 = k) with
    | false => rfl
    | true =>
      obtain ⟨p, hp, e⟩ := List.any_eq_true.mp q
      exact absurd (List.mem_map.mpr ⟨p, hp, of_decide_eq_true e⟩) h
  rw [e, if_neg Bool.false_ne_true]
/-- dicts from texts to texts -/
abbrev strD (kvs : List (Str × Str)) : List (Str × V) := kvs.map fun p => (p.1, V.str p.2)
theorem valV_strD (kvs : List (Str × Str)) (l : Str) : valV (kwK (strD kvs)) (Sum.inr l) = (kvs.lookup l).map V.str := by
  induction kvs with
  | nil => rfl
  | cons p r ih =>
    obtain ⟨k, v⟩ := p
    by_cases h : l = k
    · subst h
      show valV (((Sum.inr l : Key), V.str v) :: _) _ = _
      rw [valV_pos rfl]
      simp [List.lookup]
    · show valV (((Sum.inr k : Key), V.str v) :: kwK (strD r)) _ = _
      rw [valV_neg (fun z => h (Sum.inr.inj z).symm), ih]
      have q : (l == k) = false := beq_eq_false_iff_ne.mpr h
      simp [List.lookup, q]
end Lx
namespace Lx
open PySem PySem.Spec L2
theorem lookup_zip {α : Type} : ∀ {ks : List Str} {ms : List α} {i : Nat} {k : Str} {m : α}, ks.Nodup → ks[i]? = some k → ms[i]? = some m → (ks.zip ms).lookup k = some m
  | [], _, i, _, _, _, h, _ => by simp at h
  | _ :: _, [], i, _, _, _, _, h => by simp at h
  | k0 :: ks, m0 :: ms, 0, k, m, _, h1, h2 => by
    have e1 : k0 = k := Option.some.inj h1
    have e2 : m0 = m := Option.some.inj h2
    subst e1 e2
    simp [List.lookup]
  | k0 :: ks, m0 :: ms, i + 1, k, m, nd, h1, h2 => by
    rw [List.getElem?_cons_succ] at h1 h2
    have nd' := List.nodup_cons.mp nd
    have ne : (k == k0) = false := beq_eq_false_iff_ne.mpr fun z => nd'.1 (z ▸ List.mem_of_getElem? h1)
    have q := lookup_zip nd'.2 h1 h2
    simp [List.lookup, ne, q]
end Lx
namespace Lx
open PySem PySem.Spec PyProof.Rows L2
section
variable {X : Cx}
/-- x = {k: v for ..}, x a local name -/
theorem ps_setDc {i : Nat} {y : Str} {py : Pos} {kx vx tg iter : Expr} {ifs : List Expr} {scope : Scope} {own : List (Str × Nat)} {pos spos : Pos} {wi : TI} {g : TG} {tt : TT} {tk tv : TE} (hc : X.calm = true) (hN : X.N.Nodup) (hy : X.N[i]? = some y) (hyl : X.env.scope.names.lookup y = some .local)
    (hsw : swapsWith (.DictComp kx vx [⟨tg, iter, ifs, 0⟩] scope pos) (some (.Name y py)) spos.line X.env = pure true) (hi : PI X tg iter wi) (ok : BlkOk X.N X.env.scope scope own)
    (hg : ∀ (s : Shared) (H : Hp) (C : Addr) (cl : List (Str × Addr)) (fp : List Addr), PG (X.blk s H scope (compEnvC scope cl C X.env) fp) tg g)
    (ht : ∀ (s : Shared) (H : Hp) (C : Addr) (cl : List (Str × Addr)) (fp : List Addr), PTs (X.blk s H scope (compEnvC scope cl C X.env) fp) ifs tt)
    (hk : ∀ (s : Shared) (H : Hp) (C : Addr) (cl : List (Str × Addr)) (fp : List Addr), PE (X.blk s H scope (compEnvC scope cl C X.env) fp) kx tk)
    (he : ∀ (s : Shared) (H : Hp) (C : Addr) (cl : List (Str × Addr)) (fp : List Addr), PE (X.blk s H scope (compEnvC scope cl C X.env) fp) vx tv) (hs : ∀ x, foldedSetIterable iter X.env x = pure x := by intro _; rfl) :
    PS X (.Assign [.Name y py] (.DictComp kx vx [⟨tg, iter, ifs, 0⟩] scope pos) spos) (tAsg (tDc wi g tt tk tv (own.map (·.2))) (gName i)) := by
  refine ⟨fun pins s σ H D I h => ?_⟩
  rw [exec_Assign_Name_used _ _ _ _ hsw]
  refine wpAny_bind (wpAny_standAt (wpAny_bind ?_))
  show wpAny _ X.A (do let _ ← comprehension (.DictComp kx vx [⟨tg, iter, ifs, 0⟩] scope pos) scope X.env (firstIterPos [⟨tg, iter, ifs, 0⟩] pos) newDict false (eval iter X.env) (some (assign (.Name y py) X.env))) _ _ s
  have h : tDc wi g tt tk tv (own.map (·.2)) σ H (fun x H1 => gName i x σ H1 D.nx) := h
  refine wpAny_bind (thn (dc_core (Qf := fun _ s' => SP X pins D .next s') hc hN I hi ok hg ht hk he hs h fun L C s' m H' I' q hn f => ?_) fun _ s' hq => wpAny_pure (wpAny_pure hq))
  show wpAny _ _ (assign (.Name y py) X.env (.ref L)) _ _ _
  refine wpAny_assign_Name (store_ok2 (v := V.ref L) I' hN hy (.inl hyl) rfl (fun s2 I2 ⟨a, sb, ha⟩ => ?_) (.inr hyl))
  obtain ⟨f0, f1, f2, f3, f4, f5⟩ := f
  have away : C ≠ a := by
    rcases ha with z | z
    · rw [z]
      exact f1
    · exact fun e => f4 y a z e.symm
  exact ⟨m, hn.sameBut sb away, fun h3 sb3 => ⟨_, H', I2.turned (t' := s2.toks) (fun b o hb e => (sb3.2 b hb).trans e) f0 f1 f3 f4 f5, q⟩⟩
theorem swd_true {kx vx : Expr} {gs : List Comprehension} {scope : Scope} {pos py : Pos} {y : Str} {l : Nat} {env : Env} (hk : env.scope.kind = .function) (hy : env.scope.names.lookup y = some .local) (hl : (py.line == pos.line) = true)
    (ha : (scope.names.any fun (n, k) => n == y && (k == .local || k == .cell)) = false) : swapsWith (.DictComp kx vx gs scope pos) (some (.Name y py)) l env = pure true := by
  have ky : env.kindOf y = some .local := hy
  have hb : env.blockKind = .function := by
    unfold Env.blockKind
    rw [hk]
    rfl
  unfold swapsWith
  simp only [hb, ky, ha, Expr.pos, hl]
  rfl
end
end Lx
namespace Lx
open PySem PySem.Spec L2
theorem get_ref {rs : List Addr} {i : Nat} {y : V} (h : (rs.map V.ref)[i]? = some y) : ∃ r, rs[i]? = some r ∧ y = .ref r := by
  rw [List.getElem?_map] at h
  cases e : rs[i]? with
  | none =>
    rw [e] at h
    cases h
  | some r =>
    rw [e] at h
    exact ⟨r, rfl, (Option.some.inj h).symm⟩
/-- a dict of texts filled in the keys' order -/
theorem putK_zip {ks ms : List Str} {i : Nat} {k m : Str} (nd : ks.Nodup) (h1 : ks[i]? = some k) (h2 : ms[i]? = some m) : putK (kwK (strD ((ks.zip ms).take i))) (Sum.inr k) (.str m) = kwK (strD ((ks.zip ms).take (i + 1))) := by
  have hz : (ks.zip ms)[i]? = some (k, m) := List.getElem?_zip_eq_some.mpr ⟨h1, h2⟩
  rw [putK_app, List.take_add_one, hz]
  · simp
  · intro z
    obtain ⟨q, hq, e⟩ := List.mem_map.mp z
    obtain ⟨q2, hq2, rfl⟩ := List.mem_map.mp hq
    obtain ⟨q3, hq3, rfl⟩ := List.mem_map.mp hq2
    have e' : q3.1 = k := Sum.inr.inj e
    obtain ⟨j, hj, e3⟩ := List.mem_take_iff_getElem.mp hq3
    have hjl : j < (ks.zip ms).length := by omega
    have g3 : (ks.zip ms)[j]? = some q3 := by rw [List.getElem?_eq_getElem hjl, e3]
    have g4 := (List.getElem?_zip_eq_some.mp (show (ks.zip ms)[j]? = some (q3.1, q3.2) from g3)).1
    rw [e'] at g4
    obtain ⟨l1, u1⟩ := List.getElem?_eq_some_iff.mp g4
    obtain ⟨l2, u2⟩ := List.getElem?_eq_some_iff.mp h1
    have := (List.getElem_inj (h₀ := l1) (h₁ := l2) nd).mp (u1.trans u2.symm)
    omega
end Lx
set_option Elab.async false
set_option linter.all false
set_option maxRecDepth 100000
set_option maxHeartbeats 2000000
/-! LxTry: a try with several clauses, each with a name. -/
namespace Lx
open PySem PySem.Spec PyProof.Rows L2
/-- the ends of a clause: behind it its name is gone -/
abbrev unname (i : Nat) (D : Ends) : Ends := { nx := fun σ' H' => D.nx (σ'.set i none) H', rt := D.rt, bk := fun σ' H' => D.bk (σ'.set i none) H', ct := fun σ' H' => D.ct (σ'.set i none) H' }
abbrev Clause := Value × Nat × (Addr → Value → Option Addr → TS)
/-- what the clauses want of the body's exception -/
def wNamed (K : PySem.W.Frag) (out : WX) (D : Ends) : List Clause → WX
  | [] => out
  | (c, i, ts) :: r => fun cls d σ H => ∃ b, PySem.W.exmOne K cls c = some b ∧ (b = true → ∀ a, H a = none → ts a cls d (unname i D) (σ.set i (some (.ref a))) H) ∧ (b = false → wNamed K out D r cls d σ H)
inductive Clauses (X : Cx) : List ExceptHandler → List Clause → Prop
  | nil : Clauses X [] []
  | cons {x n : Str} {c : Value} {i : Nat} {ts : Addr → Value → Option Addr → TS} {st : Stmt} {sts : List Stmt} {p1 p2 : Pos} {hs : List ExceptHandler} {l : List Clause} (named : Names X x c) (slot : X.N[i]? = some n) (loc : X.env.kindOf n = some .local)
      (run : ∀ (a : Addr) (oe : Obj) (cls : Value) (d : Option Addr) (pn : List (Addr × Obj)), Zc cls d oe → (∃ vs, oe.data = .fields vs) → PSs (X.suite a ((a, oe) :: pn)) (st :: sts) (ts a cls d)) (more : Clauses X hs l) :
      Clauses X (.ExceptHandler (some (.Name x p1)) (some n) (st :: sts) p2 :: hs) ((c, i, ts) :: l)
section
variable {X : Cx} {body : List Stmt} {c0 : ExceptHandler} {cs : List ExceptHandler} {l : List Clause} {pos : Pos} {tb : WX → TS} {out : WX}
theorem ps_try_named (hs : X.stack = X.env :: X.outer) (hf : X.env.frame = some X.env.locals) (nd : X.N.Nodup) (tk : Takes X out)
    (hb : ∀ (W : WX) (pn : List (Addr × Obj)) (xe : Value → Shared → Prop), Takes (X.tr pn xe) W → PassesOwn (model X.prog X.w) X.A X.env xe → PSs (X.tr pn xe) body (tb W))
    (cl : Clauses X (c0 :: cs) l) : PS X (.Try body (c0 :: cs) [] [] pos) (fun D σ H => tb (wNamed X.K out D l) D σ H) := by
  refine ⟨fun pins s σ H D I h => ?_⟩
  have ok := I.ok
  have frs_ : X.A.frames = some (X.env :: X.outer) := ok.frames.trans (congrArg some hs)
  refine wpAny_Try_except ?_
  let caught : Value → Shared → Prop := fun e s₁ => wpAny (model X.prog X.w) X.A (noteFrame e X.env) (fun _ s₂ => wpAny (model X.prog X.w) X.A (setFlight e none) (fun _ s₃ =>
    wpAny (model X.prog X.w) X.A (handleBy e X.env (c0 :: cs)) (SP X pins D) X.xe s₃) X.xe s₂) X.xe s₁
  have runs := (hb (wNamed X.K out D l) (X.pn ++ pins) caught (fun u s' fly => ?_) PassesOwn.looking).run [] s σ H D (I.toTry _) h
  · refine wpAny_mono runs (fun f s1 done => ?_) fun e s1 he => he
    cases f with
    | ret u =>
      obtain ⟨v, σ', H', J', r, q⟩ := done
      exact ⟨v, σ', H', J'.ofTry ok, r, q⟩
    | next =>
      obtain ⟨σ', H', J', q⟩ := done
      exact wpAny_execs_nil ⟨σ', H', J'.ofTry ok, q⟩
    | brk =>
      obtain ⟨σ', H', J', q⟩ := done
      exact ⟨σ', H', J'.ofTry ok, q⟩
    | cont =>
      obtain ⟨σ', H', J', q⟩ := done
      exact ⟨σ', H', J'.ofTry ok, q⟩
  · obtain ⟨a, B, sI, pins', σ', H', cls, d, rfl, J', nb, up, sky, na, os, ag, w⟩ := fly
    have J : Inv X pins σ' H' sI := J'.ofTry ok
    show wpAny (model X.prog X.w) X.A (noteFrame (.ref a) X.env) _ _ _
    refine Sky.land Zc.steady frs_ hf (show Sky B (X.env :: X.outer) a (Zc cls d) X.env.locals s'.heap by rw [← hs]; exact sky) fun h3 fl3 up3 => ?_
    have J3 : Inv X pins σ' H' { s' with heap := h3 } := J.landed nb fl3.1 (up.trans up3) os ag
    obtain ⟨oe3, vs3, he3, hz3, hd3⟩ := fl3.there
    have free : a ∉ frs (X.env :: X.outer) := fun hm => by
      obtain ⟨_, o', e', hnf⟩ := (fl3.2.2.1).mem hm
      rw [he3] at e'
      cases e'
      exact hnf _ hd3
    have nL : a ≠ X.env.locals := fun z => free (List.mem_filterMap.mpr ⟨X.env, List.mem_cons_self, by rw [hf, z]⟩)
    have nF : a ∉ X.fs := fun hm => by
      obtain ⟨e, he, q⟩ := List.mem_filterMap.mp hm
      exact free (List.mem_filterMap.mpr ⟨e, List.mem_cons_of_mem _ he, q⟩)
    have S3 := J3.suite he3 hd3 na nL nF
    have each : ∀ {hs' : List ExceptHandler} {l' : List Clause}, Clauses X hs' l' → wNamed X.K out D l' cls d σ' H' → wpAny (model X.prog X.w) X.A (handleBy (.ref a) X.env hs') (SP X pins D) X.xe { s' with heap := h3 } := by
      intro hs' l' hk
      induction hk with
      | nil =>
        intro w
        refine wpAny_handleBy_nil ?_
        obtain ⟨_, _, _, oe, vs, T, oT, ts', he, hz, hd, h1, hr⟩ := id fl3
        unfold PySem.passOn
        refine wpAny_bind (wpAny_field he hd h1 ?_)
        rw [if_neg (show ¬ ((Value.ref T == Value.none) = true) from by simp)]
        have fly : wpAny (model X.prog X.w) X.A (setFlight (.ref a) X.env.frame) (fun _ s4 => wpAny (model X.prog X.w) X.A (throw (.ref a) : Sem Flow) (SP X pins D) X.xe s4) X.xe { s' with heap := h3 } := by
          rw [hf]
          refine HandSPX.setFlight_upZ fl3 fun h4 hh4 up4 => wpAny_throw (tk _ _ ?_)
          exact ⟨a, B, sI, pins, σ', H', cls, d, rfl, J, nb, (up.trans up3).trans up4, .inr (.inr (by rw [hs]; exact hh4)), na, os, ag, w⟩
        first
          | exact wpAny_bind (wpAny_pure (wpAny_bind fly))
          | exact wpAny_bind fly
      | @cons x n c i ts st sts p1 p2 hs2 l2 named slot loc run more ih =>
        intro w
        obtain ⟨b, hb1, hyes, hno⟩ := w
        refine wpAny_handleBy_cons (codeAny_handlers_test ?_) (by intro q; cases q)
        have LT : PySem.W.Looks (model X.prog X.w) h3 (typeOf (.ref a)) cls := fun A Q E s k q => wpAny_typeOf_ref (k _ _ he3) (by rw [hz3.1]; exact q)
        have LM := PySem.W.exm_one (M := model X.prog X.w) (J3.kIn) LT hb1
        have asks : ∀ {Q : Value → Shared → Prop} {E : Value → Shared → Prop}, Q c { s' with heap := h3 } → wpAny (model X.prog X.w) (X.A.mark (some (.ref a))) (eval (.Name x p1) X.env) Q E { s' with heap := h3 } := fun {Q E} q => by
          obtain ⟨hg, hdbg, hm | ⟨hm, hv, hnn⟩⟩ := named
          · exact ld_glob (X := X.suite a ((a, oe3) :: (X.pn ++ pins))) S3 hg hm q hdbg
          · exact ld_blt (X := X.suite a ((a, oe3) :: (X.pn ++ pins))) S3 hg hm hv q hnn hdbg
        refine asks (LM.here ?_)
        cases b with
        | false =>
          show wpAny _ X.A (handleBy (.ref a) X.env hs2) _ _ _
          exact ih (hno rfl)
        | true =>
          refine codeAny_handlers_suite_as ?_
          refine HandSPX.lands_againZ fl3 fun h4 fl4 up4 => ?_
          have J4 : Inv X pins σ' H' { s' with heap := h4 } := J.landed nb fl4.1 ((up.trans up3).trans up4) os ag
          obtain ⟨oe4, vs4, he4, hz4, hd4⟩ := fl4.there
          refine store_ok (X := X.suite a ((a, oe4) :: (X.pn ++ pins))) (v := .ref a) (J4.suite he4 hd4 na nL nF) nd slot (.inl loc) rfl (fun s5 S5 => ?_) (.inr loc)
          refine wpAny_mono ((run a oe4 cls d (X.pn ++ pins) hz4 ⟨_, hd4⟩).run [] s5 _ H' _ S5 (hyes rfl a na)) (fun f s6 done => ?_) (fun _ _ z => False.elim z)
          have lets : ∀ {σ6 : L2.St} {H6 : Hp} {Q : Shared → Prop}, Inv (X.suite a ((a, oe4) :: (X.pn ++ pins))) [] σ6 H6 s6 → (∀ s7, Inv X pins (σ6.set i none) H6 s7 → Q s7) →
              wpAny (model X.prog X.w) X.A (do bindName X.env n .none; unbindBehindTheSuite X.env n p2) (fun _ s7 => Q s7) X.xe s6 := fun {σ6 H6 Q} S6 hq => gone_ok (S6.unsuite ok) nd slot loc hq
          cases f with
          | ret u =>
            obtain ⟨v6, σ6, H6, S6, r6, q6⟩ := done
            exact lets S6 fun s7 J7 => ⟨_, _, _, J7, r6, q6⟩
          | next =>
            obtain ⟨σ6, H6, S6, q6⟩ := done
            exact lets S6 fun s7 J7 => ⟨_, _, J7, q6⟩
          | brk =>
            obtain ⟨σ6, H6, S6, q6⟩ := done
            exact lets S6 fun s7 J7 => ⟨_, _, J7, q6⟩
          | cont =>
            obtain ⟨σ6, H6, S6, q6⟩ := done
            exact lets S6 fun s7 J7 => ⟨_, _, J7, q6⟩
    exact each cl w
end
end Lx
set_option Elab.async false
set_option linter.all false
set_option maxRecDepth 100000
set_option maxHeartbeats 2000000
/-! LxKwX: methods called with keywords; calls below a try, whose exception the try may want. -/
namespace Lx
open PySem PySem.Spec PyProof.Rows L2
section
variable {P : Program} {w : World} {K : PySem.W.Frag} {mg : Str → Option Value} {base : Heap} {CX : CXT} {k : Nat} {f : Addr} {fd : FuncData} {ps : List Str} {sp : Sp}
/-- the promise of a def told of values by name: n by position, the further parameters by the names ks -/
def byName (n : Nat) (ks : List Str) (sp : Sp) : SpW := fun vs kvs H Q E => vs.length = n ∧ kvs.map (·.1) = ks ∧ sp (vs ++ kvs.map (·.2)) H Q E
theorem kwR_split : ∀ {kvs : List (Str × V)} {kws : List (Str × Value)}, KwR kvs kws → Vals (kvs.map (·.2)) (kws.map (·.2))
  | _, _, .nil => .nil
  | _, _, .cons h r => .cons h.2 (kwR_split r)
theorem zip_unzip {α : Type} : ∀ kws : List (Str × α), (kws.map (·.1)).zip (kws.map (·.2)) = kws
  | [] => rfl
  | (k, v) :: r => by rw [List.map_cons, List.map_cons, List.zip_cons_cons, zip_unzip r]
theorem FnOk.byName (F : FnOk P w K mg base CX k f fd ps sp) (n : Nat) (ks : List Str)
    (hb : ∀ (s : Shared) (us ws : List Value), K.In s.heap → us.length = n → ws.length = ks.length → BindsTo s fd ⟨us, ks.zip ws⟩ (ps.zip (us ++ ws))) : FnW P w K mg base CX k f (Lx.byName n ks sp) := by
  intro A outer s H us vs kws kvs Q E hr e0 r rk nd ⟨h1, h2, h3⟩
  have KX : K.In s.heap := e0.mod.kin.keeps fun b o e => (e0.bs b o e).1
  have e1 : kws.map (·.1) = ks := by rw [← rk.names]; exact h2
  have b := hb s us (kws.map (·.2)) KX (by rw [← r.length]; exact h1) (by rw [← e1, List.length_map, List.length_map])
  rw [← e1, zip_unzip] at b
  exact F.run A outer s H ⟨us, kws⟩ _ _ Q E hr e0 b (r.append (kwR_split rk)) h3
theorem Fun.bindsW {x qual : Str} {st : Stmt} {n : Nat} {ks : List Str} (F : Fun K x qual st f fd)
    (h : ∀ (kV doc pm : Value) (an : Option Addr) (cdv ct : Value) (us ws : List Value), us.length = n → ws.length = ks.length → bindArgs (PySem.W.fnOf x qual (defArgs st) (defBody st) (defScope st) .none kV doc pm an cdv ct) ⟨us, ks.zip ws⟩ = pure (ps.zip (us ++ ws))) :
    ∀ (s : Shared) (us ws : List Value), K.In s.heap → us.length = n → ws.length = ks.length → BindsTo s fd ⟨us, ks.zip ws⟩ (ps.zip (us ++ ws)) := by
  obtain ⟨oc, od, kV, doc, pm, an, cdv, ct, osl, rfl, lk, hcd⟩ := F.ex
  exact fun s us ws _ l1 l2 => .of_eq (h kV doc pm an cdv ct us ws l1 l2)
end
/-- o.m(e, .., k = v, ..) -/
def tMethW (C : Addr) (m : Str) (ks : List Str) (sp : SpW) (E : L2.St → XK) (ta : TE) (t tk : TA) : TE := fun σ H Q => ta σ H fun x H1 => ∃ a dx fs, x = .ref a ∧ H1 a = some (.ins C dx fs) ∧ fs.lookup m = none ∧
  t σ H1 fun vs H2 => tk σ H2 fun zs H3 => sp (.ref a :: vs) (ks.zip zs) H3 Q (E σ)
/-- .. without keywords, told at the slots -/
def tMethE (C : Addr) (m : Str) (sp : Sp) (E : L2.St → XK) (ta : TE) (t : TA) : TE := fun σ H Q => ta σ H fun x H1 => ∃ a dx fs, x = .ref a ∧ H1 a = some (.ins C dx fs) ∧ fs.lookup m = none ∧
  t σ H1 fun vs H2 => sp (.ref a :: vs) H2 Q (E σ)
section
variable {X : Cx} {CX : CXT} {k : Nat} {f C : Addr} {fd : FuncData} {ps ks : List Str} {sp : Sp} {spw : SpW} {E : L2.St → XK} {m : Str} {o e : Expr} {es : List Expr} {kws : List Keyword} {apos pos : Pos} {ta : TE} {t tk : TA}
theorem run_fnW {pins : List (Addr × Obj)} {σ : L2.St} {H : Hp} {s : Shared} {Q : VK} {us : List Value} {vs : List V} {kw : List (Str × Value)} {kvs : List (Str × V)} (F : FnW X.prog X.w X.K X.mg X.base CX k f spw) (hr : Room k X.A) (hx : PassesAt CX X σ (E σ)) (I : Inv X pins σ H s) (r : Vals vs us) (rk : KwR kvs kw) (nd : (kw.map (·.1)).Nodup)
    (h : spw vs kvs H Q (E σ)) : wpAny (model X.prog X.w) X.A (call (.ref f) us kw) (EP X pins σ Q) X.xe s := by
  refine wpAny_call (codeAny_mono (F X.A X.stack s H us vs kw kvs Q (E σ) hr I.env0 r rk nd h) fun z s' hq => ?_)
  cases z with
  | error e => exact hx pins H s e s' I hq
  | ok fl =>
    cases fl with
    | ret u => exact I.after hq
    | next => exact False.elim hq
    | brk => exact False.elim hq
    | cont => exact False.elim hq
theorem pe_methW {pl : Sem Bool} (he : PE X o ta) (c : Cls X.K C) (hm : Meth X.K C m f) (F : FnW X.prog X.w X.K X.mg X.base CX k f spw) (hr : Room k X.A) (hx : ∀ σ, PassesAt CX X σ (E σ)) (ha : PA X (e :: es) t) (hkw : PK X kws tk)
    (nd : ks.Nodup := by decide) (hall : (backToKw pos (keywordEach kws X.env)).all (·.1.isSome) = true := by rfl) (hks : (backToKw pos (keywordEach kws X.env)).filterMap (·.1) = ks := by rfl)
    (hst : starEach (e :: es) X.env = (false, eval e X.env) :: starEach es X.env := by rfl) (hpl : ((backTo pos (starEach (e :: es) X.env)).any (·.1) || (backToKw pos (keywordEach kws X.env)).any (·.1.isNone)) = false := by rfl)
    (ht : eval (.Call (.Attribute o m apos) (e :: es) kws pos) X.env = (do
      let ov ← eval o X.env
      standAt apos.atName
      let (f, first) ← holding [ov] (getMethod ov m pl)
      callWith pos f first (backTo pos (starEach (e :: es) X.env)) (backToKw pos (keywordEach kws X.env))) := by rfl) :
    PE X (.Call (.Attribute o m apos) (e :: es) kws pos) (tMethW C m ks spw E ta t tk) := by
  refine ⟨fun pins s σ H Q I h => ?_⟩
  refine PySem.W.methodCall_KW (pl := pl) (thn (he.run pins s σ H _ I h) fun u s1 ⟨x, H1, I1, rx, a, dx, fs, ex, ea, l, q⟩ => ?_) ht
  subst ex
  obtain rfl : u = Value.ref a := rx
  refine getmeth_ok I1 ea c hm l ?_
  refine PySem.W.callWith_KW (first := [.ref a]) (h₀ := X.base) I.ok.mod.kin hm.kp hall (thn (ha.run pos pins s1 σ H1 _ I1 q) fun us s2 ⟨vs, H2, I2, r, q2⟩ => ?_) hpl hst
  refine thn (hkw.run pos pins s2 σ H2 _ I2 q2) fun ws s3 ⟨zs, H3, I3, rz, q3⟩ => ⟨I3.kIn, ?_⟩
  rw [hks]
  exact run_fnW (us := .ref a :: us) (vs := .ref a :: vs) F hr (hx σ) I3 (.cons rfl r) (kwR_zip rz) (zip_nodup nd) q3
theorem pe_methW0 {pl : Sem Bool} (he : PE X o ta) (c : Cls X.K C) (hm : Meth X.K C m f) (F : FnW X.prog X.w X.K X.mg X.base CX k f spw) (hr : Room k X.A) (hx : ∀ σ, PassesAt CX X σ (E σ)) (hkw : PK X kws tk)
    (nd : ks.Nodup := by decide) (hall : (backToKw pos (keywordEach kws X.env)).all (·.1.isSome) = true := by rfl) (hks : (backToKw pos (keywordEach kws X.env)).filterMap (·.1) = ks := by rfl)
    (hpl : ((backTo pos (starEach [] X.env)).any (·.1) || (backToKw pos (keywordEach kws X.env)).any (·.1.isNone)) = false := by rfl)
    (ht : eval (.Call (.Attribute o m apos) [] kws pos) X.env = (do
      let ov ← eval o X.env
      standAt apos.atName
      let (f, first) ← holding [ov] (getMethod ov m pl)
      callWith pos f first (backTo pos (starEach [] X.env)) (backToKw pos (keywordEach kws X.env))) := by rfl) :
    PE X (.Call (.Attribute o m apos) [] kws pos) (tMethW C m ks spw E ta tNil tk) := by
  refine ⟨fun pins s σ H Q I h => ?_⟩
  refine PySem.W.methodCall_KW (pl := pl) (thn (he.run pins s σ H _ I h) fun u s1 ⟨x, H1, I1, rx, a, dx, fs, ex, ea, l, q⟩ => ?_) ht
  subst ex
  obtain rfl : u = Value.ref a := rx
  refine getmeth_ok I1 ea c hm l ?_
  refine PySem.W.callWith_KW0 (first := [.ref a]) (h₀ := X.base) I.ok.mod.kin hm.kp hall ?_ hpl
  refine thn (hkw.run pos pins s1 σ H1 _ I1 q) fun ws s3 ⟨zs, H3, I3, rz, q3⟩ => ⟨I3.kIn, ?_⟩
  rw [hks]
  exact run_fnW (us := [.ref a]) (vs := [.ref a]) F hr (hx σ) I3 (.cons rfl .nil) (kwR_zip rz) (zip_nodup nd) q3
theorem pe_methE {pl : Sem Bool} (he : PE X o ta) (c : Cls X.K C) (hm : Meth X.K C m f) (F : FnOk X.prog X.w X.K X.mg X.base CX k f fd ps sp) (hr : Room k X.A) (hb : Binds X.K fd ps []) (hx : ∀ σ, PassesAt CX X σ (E σ)) (ha : PA X (e :: es) t)
    (hst : starEach (e :: es) X.env = (false, eval e X.env) :: starEach es X.env := by rfl) (hpl : (backTo pos (starEach es X.env)).any (·.1) = false := by rfl)
    (ht : eval (.Call (.Attribute o m apos) (e :: es) [] pos) X.env = (do
      let ov ← eval o X.env
      standAt apos.atName
      let (f, first) ← holding [ov] (getMethod ov m pl)
      callWith pos f first (backTo pos (starEach (e :: es) X.env)) (backToKw pos (keywordEach [] X.env))) := by rfl) :
    PE X (.Call (.Attribute o m apos) (e :: es) [] pos) (tMethE C m sp E ta t) := by
  refine ⟨fun pins s σ H Q I h => ?_⟩
  refine PySem.W.methodCall_KW (pl := pl) (thn (he.run pins s σ H _ I h) fun u s1 ⟨x, H1, I1, rx, a, dx, fs, ex, ea, l, q⟩ => ?_) ht
  subst ex
  obtain rfl : u = Value.ref a := rx
  refine getmeth_ok I1 ea c hm l ?_
  refine PySem.W.callWith_K (first := [.ref a]) (h₀ := X.base) I.ok.mod.kin hm.kp (thn (ha.run pos pins s1 σ H1 _ I1 q) fun us s2 ⟨vs, H2, I2, r, q2⟩ => ⟨I2.kIn, ?_⟩) hst hpl
  exact run_fnS (us := .ref a :: us) (vs := .ref a :: vs) F hr hb (hx σ) I2 (.cons rfl r) q2
/-- nothing is let out -/
theorem passE0 {X : Cx} (σ : L2.St) : PassesAt (L2.CX X.prog X.w) X σ ((fun _ => E0 : L2.St → XK) σ) := fun pins H s e s' I c => passL pins σ H s e s' I c
theorem passN0 {X : Cx} {E : L2.St → XK} (σ : L2.St) : PassesAt CX0 X σ (E σ) := fun _ _ _ _ _ _ z => z.elim
end
end Lx
set_option Elab.async false
set_option linter.all false
set_option maxRecDepth 100000
set_option maxHeartbeats 4000000
/-! LxZip: zip of any number of lists and tuples. -/
namespace Lx
open PySem PySem.Spec PyProof.Rows

/-- an iterator, what it goes through, is that a tuple -/
abbrev ZE := Addr × Addr × Bool
def ZIt (h : Heap) (e : ZE) (k : Nat) : Prop := match e with
  | (i, l, true) => h.IsTupleIter i l k
  | (i, l, false) => h.IsListIter i l k
def ZSq (h : Heap) (e : ZE) (xs : Array Value) : Prop := match e with
  | (_, l, true) => h.IsTuple l xs
  | (_, l, false) => h.IsList l xs
theorem ZIt.at {h h' : Heap} {e : ZE} {k : Nat} (x : ZIt h e k) (hk : ∀ o, h.get? e.1 = some o → h'.get? e.1 = some o) : ZIt h' e k := by
  obtain ⟨i, l, t⟩ := e
  cases t with
  | true =>
    obtain ⟨o, ho, r⟩ := x
    exact ⟨o, hk o ho, r⟩
  | false =>
    obtain ⟨o, ho, r⟩ := x
    exact ⟨o, hk o ho, r⟩
theorem ZSq.at {h h' : Heap} {e : ZE} {xs : Array Value} (x : ZSq h e xs) (hk : ∀ o, h.get? e.2.1 = some o → h'.get? e.2.1 = some o) : ZSq h' e xs := by
  obtain ⟨i, l, t⟩ := e
  cases t with
  | true =>
    obtain ⟨o, ho, r⟩ := x
    exact ⟨o, hk o ho, r⟩
  | false =>
    obtain ⟨o, ho, r⟩ := x
    exact ⟨o, hk o ho, r⟩
section
variable {prog : Program} {w : World} {A : Around} {E : Value → Shared → Prop} {s : Shared}
theorem next_item {e : ZE} {k : Nat} {xs : Array Value} {x : Value} {Q : Value → Shared → Prop} (hi : ZIt s.heap e k) (hs : ZSq s.heap e xs) (hx : xs[k]? = some x)
    (hQ : ∀ h', ZIt h' e (k + 1) → Heap.SameBut e.1 s.heap h' → Q x { s with heap := h' }) : wpAny (model prog w) A (Builtin.SmallTypes.nextOf (.ref e.1)) Q E s := by
  obtain ⟨i, l, t⟩ := e
  cases t with
  | true => exact RZ.nextOf_tuple_item hi hs hx hQ
  | false => exact wpAny_nextOf_list_item hi hs hx hQ
theorem next_end {e : ZE} {k : Nat} {xs : Array Value} {Q : Value → Shared → Prop} (hh : A.handled = none) (hi : ZIt s.heap e k) (hs : ZSq s.heap e xs) (hx : xs[k]? = none)
    (hE : ∀ h' u, Heap.ExtBut e.1 s.heap h' → (∃ o, h'.get? u = some o ∧ o.cls = .type "StopIteration") → E (.ref u) { s with heap := h' }) : wpAny (model prog w) A (Builtin.SmallTypes.nextOf (.ref e.1)) Q E s := by
  obtain ⟨i, l, t⟩ := e
  cases t with
  | true => exact RZ.nextOf_tuple_end hh hi hs hx hE
  | false => exact wpAny_nextOf_list_end hh hi hs hx hE
end
/-- a zip object at z: its iterators' tuple at TI, the tuple that it keeps at TO -/
structure ZN (h : Heap) (z TI TO : Addr) (es : List ZE) (f0 : Value) (ar : List Value) : Prop where
  obj : IsZip h z TI TO f0
  its : h.get? TI = some { cls := .type "tuple", data := .seq (es.map fun e => Value.ref e.1).toArray }
  kept : h.get? TO = some { cls := .type "tuple", data := .seq ar.toArray }
  len : ar.length = es.length
theorem mapSeq_tup (f : Array Value → Array Value) (X : Array Value) (hf : (f X).size = X.size) : some (Obj.mapSeq f { cls := .type "tuple", data := .seq X }) = some ({ cls := .type "tuple", data := .seq (f X) } : Obj) := by simp [Obj.mapSeq, hf]
structure ZApart (z TI TO : Addr) (es : List ZE) : Prop where
  nd : (z :: TI :: TO :: es.map (·.1)).Nodup
  seq : ∀ e ∈ es, e.2.1 ∉ z :: TI :: TO :: es.map (·.1)
theorem zat {es : List ZE} {j : Nat} {e : ZE} (h : es[j]? = some e) : e ∈ es := List.mem_of_getElem? h
section
variable {prog : Program} {w : World} {A : Around} {E : Value → Shared → Prop} {s : Shared}
theorem zipN_next {z TI TO : Addr} {es : List ZE} {k : Nat} {ar : List Value} {xs : List (Array Value)} {Q : Value → Shared → Prop} (hh : A.handled = none) (D : ZApart z TI TO es) (Z : ZN s.heap z TI TO es .none ar) (hi : ∀ e ∈ es, ZIt s.heap e k) (hne : es ≠ []) (hlen : es.length ≤ 1000)
    (hx : xs.length = es.length) (hs : ∀ (j : Nat) (e : ZE) (x : Array Value), es[j]? = some e → xs[j]? = some x → ZSq s.heap e x)
    (hQ : ∀ (vs : List Value) (h' : Heap), vs.length = es.length → (∀ (j : Nat) (x : Array Value), xs[j]? = some x → x[k]? = vs[j]?) → ZN h' z TI TO es (rawInt s.heap.objs.size) vs → (∀ e ∈ es, ZIt h' e (k + 1)) → h'.get? s.heap.objs.size = some { cls := .type "tuple", data := .seq vs.toArray } →
      h'.objs.size = s.heap.objs.size + 1 → (∀ c o, c ∉ z :: TO :: es.map (·.1) → s.heap.get? c = some o → h'.get? c = some o) → Q (.ref s.heap.objs.size) { s with heap := h' })
    (hE : ∀ h' u, (∃ (j : Nat) (x : Array Value), xs[j]? = some x ∧ x[k]? = none) → (∀ c o, c ∉ z :: TO :: es.map (·.1) → s.heap.get? c = some o → h'.get? c = some o) → (∃ o, h'.get? u = some o ∧ o.cls = .type "StopIteration") → E (.ref u) { s with heap := h' }) :
    wpAny (model prog w) A (Builtin.«zip.__next__» ⟨[.ref z], []⟩) (fun fin s' => ∃ v, fin = .done (.ret v) ∧ Q v s') E s := by
  have hz := Z.obj
  show wpAny _ _ (field (.ref z) 2 >>= _) _ _ _
  refine wpAny_bind (wpAny_field hz rfl (x := .bool false) rfl ?_)
  show wpAny _ _ (field (.ref z) 3 >>= _) _ _ _
  refine wpAny_bind (wpAny_field hz rfl (x := .ref TI) rfl ?_)
  refine wpAny_bind (wpAny_seqItems Z.its rfl ?_)
  have e1 : (es.map fun e => Value.ref e.1).toArray.isEmpty = false := by
    rw [List.isEmpty_toArray]
    cases es with
    | nil => exact absurd rfl hne
    | cons _ _ => rfl
  dsimp only
  rw [e1, if_neg Bool.false_ne_true]
  refine wpAny_bind ?_
  unfold Builtin.SmallTypes.ownedTupleIsFree
  refine wpAny_bind (wpAny_field hz rfl (x := .none) rfl (wpAny_pure ?_))
  rw [if_pos rfl]
  refine wpAny_bind (wpAny_rule ?_)
  refine wpAny_bind (wpAny_field hz rfl (x := .ref TO) rfl ?_)
  refine wpAny_bind (wpAny_setField_rec hz (by simp) fun h₁ hz₁ hs₁ => ?_)
  replace hz₁ : IsZip h₁ z TI TO .ellipsis := hz₁
  refine wpAny_bind ?_
  have nd := D.nd
  have dz : ∀ {e : ZE}, e ∈ es → e.1 ≠ z ∧ e.1 ≠ TI ∧ e.1 ≠ TO := fun {e} he => by
    have q : e.1 ∈ es.map (·.1) := List.mem_map.mpr ⟨e, he, rfl⟩
    simp only [List.nodup_cons, List.mem_cons, not_or] at nd
    exact ⟨fun y => nd.1.2.2 (y ▸ q), fun y => nd.2.1.2 (y ▸ q), fun y => nd.2.2.1 (y ▸ q)⟩
  have dd : TI ≠ z ∧ TO ≠ z ∧ TI ≠ TO := by
    simp only [List.nodup_cons, List.mem_cons, not_or] at nd
    exact ⟨Ne.symm nd.1.1, Ne.symm nd.1.2.1, nd.2.1.1⟩
  have di : ∀ {m j : Nat} {e e' : ZE}, es[m]? = some e → es[j]? = some e' → m ≠ j → e.1 ≠ e'.1 := fun {m j e e'} hm hj hmj y => by
    simp only [List.nodup_cons] at nd
    have h1 : (es.map (·.1))[m]? = some e.1 := by rw [List.getElem?_map, hm]; rfl
    have h2 : (es.map (·.1))[j]? = some e.1 := by rw [List.getElem?_map, hj, y]; rfl
    obtain ⟨l1, g1⟩ := List.getElem?_eq_some_iff.mp h1
    obtain ⟨l2, g2⟩ := List.getElem?_eq_some_iff.mp h2
    exact hmj ((List.getElem_inj (h₀ := l1) (h₁ := l2) nd.2.2.2).mp (g1.trans g2.symm))
  have hTO₁ : h₁.get? TO = some { cls := .type "tuple", data := .seq ar.toArray } := hs₁.extBut _ _ dd.2.1 Z.kept
  refine wpAny_forIn_list _ (fun rest b s' => ∃ (j : Nat) (h : Heap) (vs : List Value), rest = ((es.map fun e => Value.ref e.1).drop j).zipIdx j ∧ b = (none, ()) ∧ s' = { s with heap := h } ∧ IsZip h z TI TO .ellipsis ∧ vs.length = j ∧
      h.get? TO = some { cls := .type "tuple", data := .seq (vs ++ ar.drop j).toArray } ∧ (∀ (m : Nat) (x : Array Value), m < j → xs[m]? = some x → x[k]? = vs[m]?) ∧ (∀ (m : Nat) (e : ZE), es[m]? = some e → ZIt h e (if m < j then k + 1 else k)) ∧
      (∀ c o, c ∉ z :: TO :: es.map (·.1) → s.heap.get? c = some o → h.get? c = some o) ∧ h.objs.size = s.heap.objs.size ∧ j ≤ es.length) _ (fun x rest b s' I => ?_) (fun b s' I => ?_) _ _
    ⟨0, h₁, [], rfl, rfl, rfl, hz₁, rfl, hTO₁, fun m x hm => absurd hm (Nat.not_lt_zero _), fun m e hm => (hi e (zat hm)).at fun o q => hs₁.extBut _ _ (dz (zat hm)).1 q, fun c o hc q => hs₁.extBut _ _ (fun y => hc (y ▸ List.mem_cons_self ..)) q, hs₁.1, Nat.zero_le _⟩
  · obtain ⟨j, h, vs, er, rfl, rfl, i1, i2, i3, i4, i5, i6, i7, i8⟩ := I
    obtain ⟨e, hj⟩ : ∃ e, es[j]? = some e := by
      cases q : es[j]? with
      | some e => exact ⟨e, rfl⟩
      | none =>
        have l : es.length ≤ j := List.getElem?_eq_none_iff.mp q
        rw [List.drop_eq_nil_of_le (by rw [List.length_map]; exact l)] at er
        cases er
    have hjl : j < es.length := (List.getElem?_eq_some_iff.mp hj).1
    have hdrop : (es.map fun e => Value.ref e.1).drop j = Value.ref e.1 :: (es.map fun e => Value.ref e.1).drop (j + 1) := by
      have q : (es.map fun e => Value.ref e.1)[j]? = some (Value.ref e.1) := by rw [List.getElem?_map, hj]; rfl
      obtain ⟨l1, g1⟩ := List.getElem?_eq_some_iff.mp q
      rw [List.drop_eq_getElem_cons l1, g1]
    rw [hdrop, List.zipIdx_cons] at er
    obtain ⟨rfl, rfl⟩ := List.cons.inj er
    obtain ⟨ya, hya⟩ : ∃ ya, xs[j]? = some ya := ⟨_, List.getElem?_eq_getElem (show j < xs.length by omega)⟩
    have he := zat hj
    obtain ⟨n1, n2, n3⟩ := dz he
    have hsq : ZSq h e ya := (hs j e ya hj hya).at fun o q => i6 _ o (fun y => D.seq e he (by
      rcases List.mem_cons.mp y with y | y
      · rw [y]
        exact List.mem_cons_self ..
      · rcases List.mem_cons.mp y with y | y
        · rw [y]
          exact List.mem_cons_of_mem _ (List.mem_cons_of_mem _ (List.mem_cons_self ..))
        · exact List.mem_cons_of_mem _ (List.mem_cons_of_mem _ (List.mem_cons_of_mem _ y)))) q
    have hit : ZIt h e k := by
      have q := i5 j e hj
      rw [if_neg (Nat.lt_irrefl _)] at q
      exact q
    refine wpAny_bind (wpAny_onRaise ?_)
    show wpAny _ _ (Builtin.SmallTypes.nextOf (.ref e.1) >>= _) _ _ _
    cases hk : ya[k]? with
    | none =>
      refine wpAny_bind (next_end (s := { s with heap := h }) hh hit hsq hk fun h₂ u hs₂ hu => ?_)
      obtain ⟨ou, hou, hcu⟩ := hu
      have hz₂ : IsZip h₂ z TI TO .ellipsis := hs₂ _ _ n1.symm i1
      have huz : u ≠ z := fun y => by
        subst y
        rw [hz₂] at hou
        cases hou
        simp at hcu
      refine wpAny_setField_rec hz₂ (by simp) fun h₃ _ hs₃ => hE h₃ u ⟨j, ya, hya, hk⟩ (fun c o hc q => hs₃.extBut _ _ (fun y => hc (y ▸ List.mem_cons_self ..)) (hs₂ _ _ (fun y => hc (by
        rw [y]
        exact List.mem_cons_of_mem _ (List.mem_cons_of_mem _ (List.mem_map.mpr ⟨e, he, rfl⟩)))) (i6 c o hc q))) ⟨ou, hs₃.extBut _ _ huz hou, hcu⟩
    | some v =>
      refine wpAny_bind (next_item (s := { s with heap := h }) hit hsq hk fun h₂ hit₂ hs₂ => wpAny_pure ?_)
      have hTO₂ : h₂.get? TO = some { cls := .type "tuple", data := .seq (vs ++ ar.drop j).toArray } := hs₂.extBut _ _ n3.symm i3
      have hal : j < ar.length := by rw [Z.len]; exact hjl
      have hlen2 : (vs ++ ar.drop j).length = es.length := by
        rw [List.length_append, List.length_drop, i2, Z.len]
        omega
      refine wpAny_bind (wpAny_seqItems hTO₂ rfl ?_)
      refine wpAny_bind (wpAny_updateSeq hTO₂ rfl ?_ (by rw [List.size_toArray, hlen2, sizeLine_eq]; omega) (by simp only [Array.size_setIfInBounds, List.size_toArray, hlen2, sizeLine_eq]; omega))
      refine wpAny_bind (wpAny_letGo (wpAny_pure ?_))
      have hup : (h₂.update TO (Obj.mapSeq fun a => a.setIfInBounds j v)).get? TO = some { cls := .type "tuple", data := .seq (vs ++ [v] ++ ar.drop (j + 1)).toArray } := by
        rw [Heap.get?_update_self _ hTO₂ rfl]
        have e : (vs ++ ar.drop j).toArray.setIfInBounds j v = (vs ++ [v] ++ ar.drop (j + 1)).toArray := by
          rw [List.setIfInBounds_toArray]
          congr 1
          have e2 : (vs ++ ar.drop j).set j v = vs ++ (ar.drop j).set 0 v := by
            have q := List.set_append_right (s := vs) (t := ar.drop j) j v (by omega)
            rw [q, i2, Nat.sub_self]
          rw [e2, List.drop_eq_getElem_cons hal, List.set_cons_zero, List.append_assoc]
          rfl
        rw [mapSeq_tup _ _ (Array.size_setIfInBounds ..), e]
      have ko : ∀ c o, c ≠ TO → c ≠ e.1 → h.get? c = some o → (h₂.update TO (Obj.mapSeq fun a => a.setIfInBounds j v)).get? c = some o := fun c o c1 c2 q => (Heap.get?_update_ne _ _ _ _ c1).trans (hs₂.extBut _ _ c2 q)
      refine ⟨j + 1, _, vs ++ [v], rfl, rfl, rfl, ko _ _ dd.2.1.symm n1.symm i1, by rw [List.length_append, i2]; rfl, hup, fun m x hm hx' => ?_, fun m e' hm => ?_, fun c o hc q => ?_, ?_, hjl⟩
      · rcases Nat.lt_or_ge m j with c | c
        · rw [List.getElem?_append_left (by omega)]
          exact i4 m x c hx'
        · obtain rfl : m = j := by omega
          rw [hya] at hx'
          cases hx'
          rw [hk, List.getElem?_append_right (by omega), i2, Nat.sub_self]
          rfl
      · by_cases c : m = j
        · subst c
          rw [hj] at hm
          cases hm
          rw [if_pos (Nat.lt_succ_self _)]
          exact hit₂.at fun o q => (Heap.get?_update_ne _ _ _ _ n3).trans q
        · have q := i5 m e' hm
          have c2 : (m < j + 1) ↔ m < j := by omega
          simp only [c2]
          exact q.at fun o q => ko _ _ (dz (zat hm)).2.2 (di hm hj c) q
      · refine ko c o (fun y => hc ?_) (fun y => hc ?_) (i6 c o hc q)
        · rw [y]
          exact List.mem_cons_of_mem _ (List.mem_cons_self ..)
        · rw [y]
          exact List.mem_cons_of_mem _ (List.mem_cons_of_mem _ (List.mem_map.mpr ⟨e, he, rfl⟩))
      · exact (Heap.size_update ..).trans (hs₂.1.trans i7)
  · obtain ⟨j, h, vs, er, rfl, rfl, i1, i2, i3, i4, i5, i6, i7, i8⟩ := I
    have hjn : j = es.length := by
      rcases Nat.lt_or_ge j es.length with c | c
      · have q := congrArg List.length er
        rw [List.length_zipIdx, List.length_drop, List.length_map] at q
        have q' : 0 = es.length - j := q
        omega
      · omega
    subst hjn
    rw [List.drop_eq_nil_of_le (Nat.le_of_eq Z.len), List.append_nil] at i3
    dsimp only
    refine wpAny_bind (wpAny_seqItems i3 rfl ?_)
    refine wpAny_bind (wpAny_newTuple ?_ (by rw [List.toList_toArray, i2, sizeLine_eq]; omega))
    rw [List.toList_toArray]
    refine wpAny_bind ?_
    unfold Builtin.SmallTypes.ownedTupleHandOut
    have hz₆ : IsZip (h.push { cls := .type "tuple", data := .seq vs.toArray }) z TI TO .ellipsis := Heap.get?_push_of_some _ i1
    refine wpAny_bind (wpAny_setField_rec (s := { s with heap := h.push { cls := .type "tuple", data := .seq vs.toArray } }) hz₆ (by simp) fun h₇ hz₇ hs₇ => ?_)
    replace hz₇ : IsZip h₇ z TI TO (rawInt h.objs.size) := hz₇
    refine wpAny_setField_rec hz₇ (by simp) fun h₈ hz₈ hs₈ => ?_
    replace hz₈ : IsZip h₈ z TI TO (rawInt h.objs.size) := hz₈
    have up : ∀ c o, c ≠ z → h.get? c = some o → h₈.get? c = some o := fun c o c1 q => hs₈.extBut _ _ c1 (hs₇.extBut _ _ c1 (Heap.get?_push_of_some _ q))
    have hzlt : z < h.objs.size := Heap.lt_size i1
    have hT₈ : h₈.get? h.objs.size = some { cls := .type "tuple", data := .seq vs.toArray } := hs₈.extBut _ _ (Nat.ne_of_gt hzlt) (hs₇.extBut _ _ (Nat.ne_of_gt hzlt) (Heap.get?_push_size _ rfl))
    have hz8 : h₈.objs.size = h.objs.size + 1 := by rw [hs₈.1, hs₇.1, Heap.size_push]
    rw [i7] at hz₈ hT₈ hz8
    refine wpAny_pure ⟨_, rfl, ?_⟩
    show Q (.ref h.objs.size) _
    rw [i7]
    have hTI : h.get? TI = some { cls := .type "tuple", data := .seq (es.map fun e => Value.ref e.1).toArray } := i6 _ _ (fun y => by
      rcases List.mem_cons.mp y with y | y
      · exact dd.1 y
      · rcases List.mem_cons.mp y with y | y
        · exact dd.2.2 y
        · obtain ⟨e, he, q⟩ := List.mem_map.mp y
          exact (dz he).2.1 q) Z.its
    exact hQ vs h₈ i2 (fun m x hx' => i4 m x (by rw [← hx]; exact (List.getElem?_eq_some_iff.mp hx').1) hx') ⟨hz₈, up _ _ dd.1 hTI, up _ _ dd.2.1 i3, i2⟩ (fun e he => by
      obtain ⟨m, hm⟩ := List.mem_iff_getElem?.mp he
      have q := i5 m e hm
      rw [if_pos (List.getElem?_eq_some_iff.mp hm).1] at q
      exact q.at fun o r => up _ o (dz he).1 r) hT₈ hz8 fun c o hc q => up c o (fun y => hc (y ▸ List.mem_cons_self ..)) (i6 c o hc q)
end
end Lx
namespace Lx
open PySem PySem.Spec PyProof.Rows
def mkE (b : Nat) : List (Addr × Bool) → List ZE
  | [] => []
  | (l, t) :: r => (b, l, t) :: mkE (b + 1) r
theorem mkE_len : ∀ (ls : List (Addr × Bool)) (b : Nat), (mkE b ls).length = ls.length
  | [], _ => rfl
  | (_, _) :: r, b => by
    show (mkE (b + 1) r).length + 1 = r.length + 1
    rw [mkE_len r]
theorem mkE_seqs : ∀ (ls : List (Addr × Bool)) (b : Nat), (mkE b ls).map (·.2) = ls
  | [], _ => rfl
  | (_, _) :: r, b => by
    show (_ :: (mkE (b + 1) r).map (·.2)) = _
    rw [mkE_seqs r]
theorem mkE_its : ∀ (ls : List (Addr × Bool)) (b : Nat), (mkE b ls).map (·.1) = List.range' b ls.length
  | [], _ => rfl
  | (_, _) :: r, b => by
    show (b :: (mkE (b + 1) r).map (·.1)) = _
    rw [mkE_its r, List.length_cons, List.range'_succ]
section
variable {prog : Program} {w : World} {A : Around} {E : Value → Shared → Prop} {g : Array GenState} {d : Drawn} {tk : Nat} {os : OsState}
theorem iter_any {l : Addr} {t : Bool} {xs : Array Value} {h : Heap} {Q : Value → Shared → Prop} (hs : ZSq h (0, l, t) xs)
    (hQ : ∀ h', ZIt h' (h.objs.size, l, t) 0 → h'.objs.size = h.objs.size + 1 → (∀ c o, h.get? c = some o → h'.get? c = some o) → Q (.ref h.objs.size) ⟨h', g, d, tk, os⟩) : wpAny (model prog w) A (pyIter (.ref l)) Q E ⟨h, g, d, tk, os⟩ := by
  cases t with
  | true => exact wpAny_pyIter_tuple (s := ⟨h, g, d, tk, os⟩) hs (hQ _ ⟨_, Heap.get?_push_size _ rfl, rfl, rfl⟩ (Heap.size_push ..) fun c o q => Heap.get?_push_of_some _ q)
  | false => exact wpAny_pyIter_list (s := ⟨h, g, d, tk, os⟩) hs (hQ _ ⟨_, Heap.get?_push_size _ rfl, rfl, rfl⟩ (Heap.size_push ..) fun c o q => Heap.get?_push_of_some _ q)
theorem iter_all : ∀ {ls : List (Addr × Bool)} {acc : Array Value} {h : Heap} {Q : Array Value → Shared → Prop}, (∀ p ∈ ls, ∃ xs, ZSq h (0, p) xs) →
    (∀ h', (∀ e ∈ mkE h.objs.size ls, ZIt h' e 0) → h'.objs.size = h.objs.size + ls.length → (∀ c o, h.get? c = some o → h'.get? c = some o) → Q (acc ++ ((mkE h.objs.size ls).map fun e => Value.ref e.1).toArray) ⟨h', g, d, tk, os⟩) →
    wpAny (model prog w) A (forIn (ls.map fun p => Value.ref p.1) acc fun x its => do let v ← holding its.toList (pyIter x); pure (ForInStep.yield (its.push v))) Q E ⟨h, g, d, tk, os⟩
  | [], acc, h, Q, _, hq => by
    show wpAny _ _ (forIn [] acc _) _ _ _
    rw [List.forIn_nil]
    have q := hq h (fun e he => nomatch he) rfl (fun _ _ e => e)
    simp only [mkE, List.map_nil, Array.append_empty] at q
    exact wpAny_pure q
  | (l, t) :: r, acc, h, Q, hs, hq => by
    show wpAny _ _ (forIn (Value.ref l :: r.map fun p => Value.ref p.1) acc _) _ _ _
    rw [List.forIn_cons]
    obtain ⟨xs, hx⟩ := hs (l, t) (List.mem_cons_self ..)
    refine wpAny_bind (wpAny_bind (wpAny_holding (iter_any hx fun h1 i1 i2 i3 => wpAny_pure ?_)))
    refine iter_all (fun p hp => ?_) fun h' j1 j2 j3 => ?_
    · obtain ⟨ys, hy⟩ := hs p (List.mem_cons_of_mem _ hp)
      exact ⟨ys, hy.at fun o q => i3 _ _ q⟩
    · have q := hq h' (fun e he => ?_) ?_ (fun c o e => j3 _ _ (i3 _ _ e))
      · rw [i2]
        have e : acc.push (Value.ref h.objs.size) ++ ((mkE (h.objs.size + 1) r).map fun e => Value.ref e.1).toArray = acc ++ ((mkE h.objs.size ((l, t) :: r)).map fun e => Value.ref e.1).toArray := by
          show _ = acc ++ (Value.ref h.objs.size :: (mkE (h.objs.size + 1) r).map fun e => Value.ref e.1).toArray
          simp
        rw [e]
        exact q
      · rcases List.mem_cons.mp (show e ∈ (h.objs.size, l, t) :: mkE (h.objs.size + 1) r from he) with y | y
        · subst y
          exact i1.at fun o q => j3 _ _ q
        · exact j1 e (by rw [i2]; exact y)
      · rw [j2, i2, List.length_cons]
        omega
/-- zip is made -/
theorem zip_made {ls : List (Addr × Bool)} {h : Heap} {Q : Value → Shared → Prop} (hs : ∀ p ∈ ls, ∃ xs, ZSq h (0, p) xs) (hl : ls.length ≤ 1000)
    (hQ : ∀ h', ZN h' (h.objs.size + ls.length + 2) (h.objs.size + ls.length) (h.objs.size + ls.length + 1) (mkE h.objs.size ls) .none (List.replicate ls.length .none) → (∀ e ∈ mkE h.objs.size ls, ZIt h' e 0) → h'.objs.size = h.objs.size + ls.length + 3 →
      (∀ c o, h.get? c = some o → h'.get? c = some o) → Q (.ref (h.objs.size + ls.length + 2)) ⟨h', g, d, tk, os⟩) :
    wpAny (model prog w) A (Builtin.«zip.__new__» ⟨.type "zip" :: ls.map fun p => Value.ref p.1, []⟩) (fun fin s' => ∃ v, fin = .done (.ret v) ∧ Q v s') E ⟨h, g, d, tk, os⟩ := by
  have hsub := sub_zip
  have hc : Builtin.SmallTypes.newClass "zip" ⟨Value.type "zip" :: ls.map fun p => Value.ref p.1, []⟩ = pure (Value.type "zip", ls.map fun p => Value.ref p.1) := by
    have ht : isType (Value.type "zip") = pure true := rfl
    unfold Builtin.SmallTypes.newClass
    simp [hsub, ht]
  unfold Builtin.«zip.__new__»
  refine wpAny_bind (wpAny_of_eq hc ?_)
  dsimp only
  rw [if_neg (by decide)]
  unfold Builtin.SmallTypes.iterAll
  refine wpAny_bind (wpAny_bind (iter_all hs fun h1 i1 i2 i3 => wpAny_pure ?_))
  have e1 : (#[] ++ ((mkE h.objs.size ls).map fun e : ZE => Value.ref e.1).toArray).toList = (mkE h.objs.size ls).map fun e : ZE => Value.ref e.1 := by simp
  have e2 : ((mkE h.objs.size ls).map fun e : ZE => Value.ref e.1).map (fun _ => Value.none) = List.replicate ls.length Value.none := by
    rw [List.map_map, List.eq_replicate_iff]
    refine ⟨by rw [List.length_map, mkE_len], fun b hb => ?_⟩
    obtain ⟨_, _, q⟩ := List.mem_map.mp hb
    exact q.symm
  rw [e1, e2]
  refine wpAny_bind (wpAny_newTuple (wpAny_bind (wpAny_newTuple ?_ (by rw [List.length_replicate, sizeLine_eq]; omega))) (by rw [List.length_map, mkE_len, sizeLine_eq]; omega))
  refine wpAny_bind ?_
  unfold Builtin.SmallTypes.newRecord
  refine wpAny_newObj_type (wpAny_pure ⟨_, rfl, ?_⟩) (by show 5 ≤ sizeLine + 2; rw [sizeLine_eq]; omega)
  let h2 : Heap := h1.push { cls := .type "tuple", data := .seq ((mkE h.objs.size ls).map fun e => Value.ref e.1).toArray }
  let h3 : Heap := h2.push { cls := .type "tuple", data := .seq (List.replicate ls.length Value.none).toArray }
  have z2 : h2.objs.size = h.objs.size + ls.length + 1 := by rw [Heap.size_push, i2]
  have z3 : h3.objs.size = h.objs.size + ls.length + 2 := by rw [Heap.size_push, z2]
  show Q (.ref h3.objs.size) ⟨h3.push { cls := .type "zip", data := .fields #[.none, .bool false, .bool false, .ref h1.objs.size, .ref h2.objs.size] }, g, d, tk, os⟩
  have k2 : ∀ c o, h1.get? c = some o → h2.get? c = some o := fun c o q => Heap.get?_push_of_some _ q
  have k3 : ∀ c o, h2.get? c = some o → h3.get? c = some o := fun c o q => Heap.get?_push_of_some _ q
  rw [z3]
  refine hQ _ ⟨?_, ?_, ?_, ?_⟩ (fun e he => (i1 e he).at fun o q => Heap.get?_push_of_some _ (k3 _ _ (k2 _ _ q))) (by rw [Heap.size_push, z3]) (fun c o q => Heap.get?_push_of_some _ (k3 _ _ (k2 _ _ (i3 _ _ q))))
  · have q := Heap.get?_push_size h3 (o := { cls := .type "zip", data := .fields #[.none, .bool false, .bool false, .ref h1.objs.size, .ref h2.objs.size] }) rfl
    rw [z3] at q
    refine q.trans ?_
    rw [i2, z2]
  · have q := Heap.get?_push_size h1 (o := { cls := .type "tuple", data := .seq ((mkE h.objs.size ls).map fun e => Value.ref e.1).toArray }) rfl
    rw [i2] at q
    exact Heap.get?_push_of_some _ (k3 _ _ q)
  · have q := Heap.get?_push_size h2 (o := { cls := .type "tuple", data := .seq (List.replicate ls.length Value.none).toArray }) rfl
    rw [z2] at q
    exact Heap.get?_push_of_some _ q
  · rw [List.length_replicate, mkE_len]
end
end Lx
set_option Elab.async false
set_option linter.all false
set_option maxRecDepth 100000
set_option maxHeartbeats 4000000
/-! LxZipN: zip of two or three lists and tuples, as an iterable of the calculus. -/
namespace Lx
open PySem PySem.Spec PyProof.Rows
section
variable {prog : Program} {w : World} {A : Around} {E : Value → Shared → Prop} {s : Shared}
theorem pyNext_zipN {z TI TO : Addr} {es : List ZE} {k : Nat} {ar : List Value} {xs : List (Array Value)} {Q : Option Value → Shared → Prop} (hh : A.handled = none) (D : ZApart z TI TO es) (Z : ZN s.heap z TI TO es .none ar) (hi : ∀ e ∈ es, ZIt s.heap e k) (hne : es ≠ []) (hlen : es.length ≤ 1000)
    (hx : xs.length = es.length) (hs : ∀ (j : Nat) (e : ZE) (x : Array Value), es[j]? = some e → xs[j]? = some x → ZSq s.heap e x)
    (hQ : ∀ (vs : List Value) (h' : Heap), vs.length = es.length → (∀ (j : Nat) (x : Array Value), xs[j]? = some x → x[k]? = vs[j]?) → ZN h' z TI TO es (rawInt s.heap.objs.size) vs → (∀ e ∈ es, ZIt h' e (k + 1)) → h'.get? s.heap.objs.size = some { cls := .type "tuple", data := .seq vs.toArray } →
      h'.objs.size = s.heap.objs.size + 1 → (∀ c o, c ∉ z :: TO :: es.map (·.1) → s.heap.get? c = some o → h'.get? c = some o) → Q (some (.ref s.heap.objs.size)) { s with heap := h' })
    (hE : ∀ h', (∃ (j : Nat) (x : Array Value), xs[j]? = some x ∧ x[k]? = none) → (∀ c o, c ∉ z :: TO :: es.map (·.1) → s.heap.get? c = some o → h'.get? c = some o) → Q none { s with heap := h' }) :
    wpAny (model prog w) A (pyNext (.ref z)) Q E s := by
  have hT : s.TypeIs (.ref z) "zip" := ⟨_, Z.obj, rfl⟩
  unfold pyNext
  refine wpAny_bind (wpAny_attempt (wpAny_callSpecial?_slot (name := Str.ofString "__next__") hT F.slot_zip_next
    (wpAny_call_entry F.slot_zip_next hT F.entry_zip_next (zipN_next hh D Z hi hne hlen hx hs (fun vs h' a1 a2 a3 a4 a5 a6 a7 => wpAny_pure (hQ vs h' a1 a2 a3 a4 a5 a6 a7)) fun h' u hj hk hu => ?_) (F.args_zip_next_1 _))))
  obtain ⟨o, ho, hc⟩ := hu
  refine wpAny_bind (wpAny_isInstance (T := "StopIteration") (b := true) ⟨o, ho, hc⟩ isSubtype_stop ?_)
  exact wpAny_pure (hE _ hj hk)
end
theorem typeCall_zip_3 (a b c : Value) : checkTypeCall "zip" ⟨[a, b, c], []⟩ = pure () := by kernel_rfl
theorem newCall_zip_3 (a b c : Value) : checkBuiltinCall "zip.__new__" ⟨[.type "zip", a, b, c], []⟩ = pure () := by kernel_rfl
theorem args_init_4 (a b c d : Value) : argsOk "object.__init__" ⟨[a, b, c, d], []⟩ := by unfold argsOk; kernel_rfl
theorem zip_meets (ls : List (Addr × Bool)) : Meets (Builtin.«zip.__new__» ⟨.type "zip" :: ls.map fun p => Value.ref p.1, []⟩) (fun _ R s => (∀ p ∈ ls, ∃ xs, ZSq s.heap (0, p) xs) ∧ ls.length ≤ 1000 ∧
    ∀ h', ZN h' (s.heap.objs.size + ls.length + 2) (s.heap.objs.size + ls.length) (s.heap.objs.size + ls.length + 1) (mkE s.heap.objs.size ls) .none (List.replicate ls.length .none) → (∀ e ∈ mkE s.heap.objs.size ls, ZIt h' e 0) → h'.objs.size = s.heap.objs.size + ls.length + 3 →
      (∀ c o, s.heap.get? c = some o → h'.get? c = some o) → R (.ok (.ret (.ref (s.heap.objs.size + ls.length + 2)))) { s with heap := h' }) :=
  .of_wp fun prog w A R s h => by
    obtain ⟨h1, h2, h3⟩ := h
    obtain ⟨hp, g, d, tk, os⟩ := s
    refine wpAny_mono (zip_made h1 h2 h3) (fun fin s' ⟨v, e, q⟩ => ⟨_, e, q⟩) fun _ _ z => z
/-- n things to zip that the library takes -/
def ZipOk (args : List Value) : Prop := checkTypeCall "zip" ⟨args, []⟩ = pure () ∧ checkBuiltinCall "zip.__new__" ⟨.type "zip" :: args, []⟩ = pure () ∧ ∀ obj, argsOk "object.__init__" ⟨obj :: args, []⟩
theorem zipOk2 (a b : Value) : ZipOk [a, b] := ⟨F.typeCall_zip_2 _ _, F.newCall_zip_2 _ _, fun obj => F.args_object_init_3 obj _ _⟩
theorem zipOk3 (a b c : Value) : ZipOk [a, b, c] := ⟨typeCall_zip_3 _ _ _, newCall_zip_3 _ _ _, fun obj => args_init_4 obj _ _ _⟩
section
variable {prog : Program} {w : World} {A : Around} {E : Value → Shared → Prop} {s : Shared}
theorem call_zipN {ls : List (Addr × Bool)} {Q : Value → Shared → Prop} (ok : ZipOk (ls.map fun p => Value.ref p.1)) (hs : ∀ p ∈ ls, ∃ xs, ZSq s.heap (0, p) xs) (hl : ls.length ≤ 1000)
    (hQ : ∀ h', ZN h' (s.heap.objs.size + ls.length + 2) (s.heap.objs.size + ls.length) (s.heap.objs.size + ls.length + 1) (mkE s.heap.objs.size ls) .none (List.replicate ls.length .none) → (∀ e ∈ mkE s.heap.objs.size ls, ZIt h' e 0) → h'.objs.size = s.heap.objs.size + ls.length + 3 →
      (∀ c o, s.heap.get? c = some o → h'.get? c = some o) → Q (.ref (s.heap.objs.size + ls.length + 2)) { s with heap := h' }) :
    wpAny (model prog w) A (call (.type "zip") (ls.map fun p => Value.ref p.1)) Q E s :=
  callType_new F.called_zip (by decide) ok.1 ok.2.1 ok.2.2 F.entry_zip_new (zip_meets ls) ⟨hs, hl, fun h' a1 a2 a3 a4 => ⟨⟨_, a1.obj, rfl⟩, hQ h' a1 a2 a3 a4⟩⟩
end
theorem in_range {a b n : Nat} (h : a ∈ List.range' b n) : b ≤ a ∧ a < b + n := List.mem_range'_1.mp h
theorem zapart {base : Nat} {ls : List (Addr × Bool)} (h : ∀ p ∈ ls, p.1 < base) : ZApart (base + ls.length + 2) (base + ls.length) (base + ls.length + 1) (mkE base ls) where
  nd := by
    have e : (mkE base ls).map (·.1) = List.range' base ls.length := mkE_its ls base
    rw [e]
    have q : ∀ a : Nat, a ∈ List.range' base ls.length → a < base + ls.length := fun a h => (in_range h).2
    have key : ((base + ls.length + 2) :: (base + ls.length) :: (base + ls.length + 1) :: List.range' base ls.length : List Nat).Nodup := by
      refine List.nodup_cons.mpr ⟨fun y => ?_, List.nodup_cons.mpr ⟨fun y => ?_, List.nodup_cons.mpr ⟨fun y => ?_, List.nodup_range'⟩⟩⟩
      · rcases List.mem_cons.mp y with y | y
        · omega
        rcases List.mem_cons.mp y with y | y
        · omega
        have := q _ y
        omega
      · rcases List.mem_cons.mp y with y | y
        · omega
        have := q _ y
        omega
      · have := q _ y
        omega
    exact key
  seq := fun e he y => by
    have qs : e.2 ∈ ls := by
      rw [← mkE_seqs ls base]
      exact List.mem_map.mpr ⟨e, he, rfl⟩
    have l : (e.2.1 : Nat) < base := h _ qs
    have e2 : (mkE base ls).map (·.1) = List.range' base ls.length := mkE_its ls base
    rw [e2] at y
    have key : ∀ n : Nat, n < base → n ∉ ((base + ls.length + 2) :: (base + ls.length) :: (base + ls.length + 1) :: List.range' base ls.length : List Nat) := fun n l y => by
      rcases List.mem_cons.mp y with y | y
      · omega
      rcases List.mem_cons.mp y with y | y
      · omega
      rcases List.mem_cons.mp y with y | y
      · omega
      have := (in_range y).1
      omega
    exact key _ l y
end Lx
namespace Lx
open PySem PySem.Spec PyProof.Rows L2
/-- a list or a tuple -/
def SqA (K : PySem.W.Frag) (H : Hp) (p : Addr × Bool) (xs : List V) : Prop := match p with
  | (l, true) => SqT K H l xs
  | (l, false) => SqL K H l xs
theorem pick {α β : Type} {R : α → β → Prop} : ∀ (l : List α), (∀ a ∈ l, ∃ b, R a b) → ∃ m : List β, m.length = l.length ∧ ∀ (j : Nat) (a : α) (b : β), l[j]? = some a → m[j]? = some b → R a b
  | [], _ => ⟨[], rfl, fun j a b h => by simp at h⟩
  | a :: l, h => by
    obtain ⟨b, hb⟩ := h a (List.mem_cons_self ..)
    obtain ⟨m, h1, h2⟩ := pick l fun x hx => h x (List.mem_cons_of_mem _ hx)
    refine ⟨b :: m, by rw [List.length_cons, List.length_cons, h1], fun j x y hj hm => ?_⟩
    cases j with
    | zero =>
      rw [List.getElem?_cons_zero] at hj hm
      cases hj
      cases hm
      exact hb
    | succ j =>
      rw [List.getElem?_cons_succ] at hj hm
      exact h2 j x y hj hm
theorem pickV : ∀ {P : Nat → V → Prop} (us : List Value), (∀ (j : Nat) (u : Value), us[j]? = some u → ∃ v, L2.RelV v u ∧ P j v) → ∃ vs : List V, Vals vs us ∧ ∀ (j : Nat) (v : V), vs[j]? = some v → P j v
  | _, [], _ => ⟨[], .nil, fun j v h => by simp at h⟩
  | P, u :: us, h => by
    obtain ⟨v, r, p⟩ := h 0 u rfl
    obtain ⟨vs, r2, p2⟩ := pickV (P := fun j => P (j + 1)) us fun j u' hj => h (j + 1) u' (by rw [List.getElem?_cons_succ]; exact hj)
    refine ⟨v :: vs, .cons r r2, fun j y hj => ?_⟩
    cases j with
    | zero =>
      rw [List.getElem?_cons_zero] at hj
      cases hj
      exact p
    | succ j =>
      rw [List.getElem?_cons_succ] at hj
      exact p2 j y hj
section
variable {X : Cx} {pins : List (Addr × Obj)} {σ : L2.St} {H : Hp} {s : Shared}
theorem sqA_at (I : Inv X pins σ H s) {p : Addr × Bool} {xs : List V} (h : SqA X.K H p xs) (i : Addr) : ∃ its : List Value, Vals xs its ∧ ZSq s.heap (i, p) its.toArray ∧ p.1 < s.heap.objs.size := by
  obtain ⟨l, t⟩ := p
  cases t with
  | true =>
    obtain ⟨its, rv, q, _⟩ := I.tuple h
    obtain ⟨o, ho, _⟩ := id q
    exact ⟨its, rv, q, Heap.lt_size ho⟩
  | false =>
    obtain ⟨its, rv, q, _⟩ := I.list h
    exact ⟨its, rv, q.isList, q.lt⟩
theorem sqA_inj (I : Inv X pins σ H s) {p : Addr × Bool} {xs ys : List V} (h : SqA X.K H p xs) (h' : SqA X.K H p ys) : xs = ys := by
  obtain ⟨l, t⟩ := p
  cases t with
  | true => exact I.tuple_inj h h'
  | false => exact I.list_inj h h'
end
/-- the things as they stand at each turn, their items in a new tuple -/
def ItN (K : PySem.W.Frag) (ls : List (Addr × Bool)) : It :=
  ⟨fun i H => ∀ p ∈ ls, ∃ xs x, SqA K H p xs ∧ xs[i]? = some x,
    fun i H v H' => ∃ T vs, v = .ref T ∧ H T = none ∧ H' = upd H T (.tup vs) ∧ vs.length = ls.length ∧ ∀ (j : Nat) (p : Addr × Bool) (xs : List V), ls[j]? = some p → SqA K H p xs → xs[i]? = vs[j]?,
    fun i H => (∀ p ∈ ls, ∃ xs, SqA K H p xs) ∧ ∃ p ∈ ls, ∃ xs, SqA K H p xs ∧ xs.length ≤ i⟩
theorem rel_at {xs : List V} {us : List Value} (r : Vals xs us) (i : Nat) : (xs[i]? = none ∧ us[i]? = none) ∨ ∃ x u, xs[i]? = some x ∧ us[i]? = some u ∧ L2.RelV x u := by
  cases e : xs[i]? with
  | none =>
    refine .inl ⟨rfl, ?_⟩
    rw [List.getElem?_eq_none_iff] at e ⊢
    rw [← r.length]
    exact e
  | some x =>
    obtain ⟨u, hu, ru⟩ := r.get e
    exact .inr ⟨x, u, rfl, hu, ru⟩
end Lx
namespace Lx
open PySem PySem.Spec PyProof.Rows L2
theorem turn_zipN {P : Program} {w : World} {K : PySem.W.Frag} {elts : List Expr} {kk : Nat} {tpos : Pos} {ls : List (Addr × Bool)} {es : List ZE} {z TI TO : Addr} (D : ZApart z TI TO es) (hes : es.map (·.2) = ls) (hne : ls ≠ []) (hlen : ls.length ≤ 1000) :
    Turn P w K (.Tuple elts kk tpos) (ItN K ls) (z :: TI :: TO :: es.map (·.1)) z (fun i h => (∃ ar, ZN h z TI TO es .none ar) ∧ ∀ e ∈ es, ZIt h e i) where
  mem := List.mem_cons_self ..
  obj := fun i h st c hc => by
    obtain ⟨⟨ar, Z⟩, hi⟩ := st
    rcases List.mem_cons.mp hc with y | hc
    · subst y
      exact ⟨_, Z.obj, fun v q => nomatch q⟩
    rcases List.mem_cons.mp hc with y | hc
    · subst y
      exact ⟨_, Z.its, fun v q => nomatch q⟩
    rcases List.mem_cons.mp hc with y | hc
    · subst y
      exact ⟨_, Z.kept, fun v q => nomatch q⟩
    obtain ⟨e, he, rfl⟩ := List.mem_map.mp hc
    have q := hi e he
    obtain ⟨i', l, t⟩ := e
    cases t with
    | true =>
      obtain ⟨o, ho, _, hd⟩ := q
      exact ⟨o, ho, fun v y => by rw [hd] at y; cases y⟩
    | false =>
      obtain ⟨o, ho, _, hd⟩ := q
      exact ⟨o, ho, fun v y => by rw [hd] at y; cases y⟩
  keep := fun i h h' st k => by
    obtain ⟨⟨ar, Z⟩, hi⟩ := st
    exact ⟨⟨ar, k _ (by simp) _ Z.obj, k _ (by simp) _ Z.its, k _ (by simp) _ Z.kept, Z.len⟩, fun e he => (hi e he).at fun o q => k _ (List.mem_cons_of_mem _ (List.mem_cons_of_mem _ (List.mem_cons_of_mem _ (List.mem_map.mpr ⟨e, he, rfl⟩)))) o q⟩
  item := by
    intro X hP hw hK hc i pins s σ H E I hf st hg
    subst hP hw hK
    obtain ⟨⟨ar, Z⟩, hi⟩ := st
    have hel : es.length = ls.length := by rw [← hes, List.length_map]
    have has : ∀ e ∈ es, ∃ x : Array Value, ZSq s.heap e x ∧ ∃ xs v, SqA X.K H e.2 xs ∧ Vals xs x.toList ∧ xs[i]? = some v := fun e he => by
      obtain ⟨xs, v, q, hv⟩ := hg e.2 (by rw [← hes]; exact List.mem_map.mpr ⟨e, he, rfl⟩)
      obtain ⟨its, rv, zs, _⟩ := sqA_at I q e.1
      exact ⟨its.toArray, zs, xs, v, q, by simpa using rv, hv⟩
    obtain ⟨xs, xl, hx⟩ := pick es has
    have hne' : es ≠ [] := fun y => hne (by rw [← hes, y]; rfl)
    refine pyNext_zipN (I.ok.hd hc) D Z hi hne' (by rw [hel]; exact hlen) xl (fun j e x h1 h2 => (hx j e x h1 h2).1) (fun vs h' v1 v2 Z' i' hT hsz hk => ?_) (fun h' hj hk => ?_)
    · refine ⟨_, rfl, wpAny_letOwnedTupleGo_zip (s := { s with heap := h' }) Z'.obj fun h'' z'' sb => ?_⟩
      have hzl : z < s.heap.objs.size := Heap.lt_size Z.obj
      have hT2 : h''.get? s.heap.objs.size = some { cls := .type "tuple", data := .seq vs.toArray } := (sb.2 _ (Nat.ne_of_gt hzl)).trans hT
      have each : ∀ (j : Nat) (u : Value), vs[j]? = some u → ∃ v, L2.RelV v u ∧ ∀ (p : Addr × Bool) (ys : List V), ls[j]? = some p → SqA X.K H p ys → ys[i]? = some v := fun j u hu => by
        have hjl : j < es.length := by
          rw [← v1]
          exact (List.getElem?_eq_some_iff.mp hu).1
        have hje := List.getElem?_eq_getElem hjl
        obtain ⟨x, hjx⟩ : ∃ x, xs[j]? = some x := ⟨_, List.getElem?_eq_getElem (show j < xs.length by rw [xl]; exact hjl)⟩
        obtain ⟨_, zs, v, q, rv, hv⟩ := hx j _ x hje hjx
        have e1 := v2 j x hjx
        rw [hu] at e1
        rcases rel_at rv i with ⟨a1, _⟩ | ⟨v', u', a1, a2, a3⟩
        · rw [hv] at a1
          cases a1
        · rw [Array.getElem?_toList, e1] at a2
          cases a2
          refine ⟨v', a3, fun p ys hp hq => ?_⟩
          have ep : p = (es[j]).2 := by
            rw [← hes, List.getElem?_map, hje] at hp
            exact (Option.some.inj hp).symm
          subst ep
          rw [sqA_inj I hq q]
          exact a1
      obtain ⟨vv, rvv, hvv⟩ := pickV vs each
      have vl : vv.length = ls.length := by rw [rvv.length, v1, hel]
      have new : ObjOk X.prog X.w (upd H s.heap.objs.size (.tup vv)) h'' s.heap.objs.size (.tup vv) :=
        ⟨by rw [vl, sizeLine_eq]; omega, vs, rvv, ⟨_, hT2, rfl, _, rfl⟩⟩
      have I1 : Inv X pins σ (upd H s.heap.objs.size (.tup vv)) { s with heap := h'' } :=
        I.turnedNew (t' := s.toks) (ch := z :: TI :: TO :: es.map (·.1)) (fun c o hb q => (sb.2 c (fun y => hb (y ▸ List.mem_cons_self ..))).trans (hk c o (fun y => hb (by
          rcases List.mem_cons.mp y with y | y
          · exact y ▸ List.mem_cons_self ..
          · exact List.mem_cons_of_mem _ (List.mem_cons_of_mem _ y))) q)) hf (Nat.le_refl _) new
      have nz : ∀ c, c ∈ TI :: TO :: es.map (·.1) → c ≠ z := fun c hcm y => by
        have q := (List.nodup_cons.mp D.nd).1
        rw [y] at hcm
        exact q hcm
      refine ⟨.ref s.heap.objs.size, _, I1, rfl, ⟨_, vv, rfl, I.hok.fresh (Nat.le_refl _), rfl, vl, fun j p ys hp hq => ?_⟩, ⟨⟨vs, z'', ?_, ?_, Z'.len⟩, fun e he => (i' e he).at fun o q => (sb.2 _ (nz _ (List.mem_cons_of_mem _ (List.mem_cons_of_mem _ (List.mem_map.mpr ⟨e, he, rfl⟩))))).trans q⟩, fun c hcm => ?_⟩
      · have hjl : j < vv.length := by
          rw [vl]
          exact (List.getElem?_eq_some_iff.mp hp).1
        have q := hvv j _ (List.getElem?_eq_getElem hjl) p ys hp hq
        rw [q]
        exact (List.getElem?_eq_getElem hjl).symm
      · exact (sb.2 _ (nz _ (by simp))).trans Z'.its
      · exact (sb.2 _ (nz _ (by simp))).trans Z'.kept
      · have hn := (hf c hcm).1
        have hlt : c ≠ s.heap.objs.size := fun y => by
          rcases List.mem_cons.mp hcm with y2 | y2
          · rw [y2] at y
            exact absurd hzl (by rw [y]; exact Nat.lt_irrefl _)
          rcases List.mem_cons.mp y2 with y3 | y3
          · have l := Heap.lt_size Z.its
            rw [← y3, y] at l
            exact absurd l (Nat.lt_irrefl _)
          rcases List.mem_cons.mp y3 with y4 | y4
          · have l := Heap.lt_size Z.kept
            rw [← y4, y] at l
            exact absurd l (Nat.lt_irrefl _)
          obtain ⟨e, he, q⟩ := List.mem_map.mp y4
          have l : e.1 < s.heap.objs.size := by
            have q2 := hi e he
            obtain ⟨i2, l2, t2⟩ := e
            cases t2 with
            | true =>
              obtain ⟨o, ho, _⟩ := q2
              exact Heap.lt_size ho
            | false =>
              obtain ⟨o, ho, _⟩ := q2
              exact Heap.lt_size ho
          rw [show e.1 = c from q, y] at l
          exact absurd l (Nat.lt_irrefl _)
        rw [upd_ne hlt]
        exact hn
    · obtain ⟨j, x, hj, hn⟩ := hj
      have hjl : j < es.length := by
        rw [← xl]
        exact (List.getElem?_eq_some_iff.mp hj).1
      obtain ⟨_, zs, v, q, rv, hv⟩ := hx j _ x (List.getElem?_eq_getElem hjl) hj
      rcases rel_at rv i with ⟨a1, _⟩ | ⟨v', u', a1, a2, a3⟩
      · rw [hv] at a1
        cases a1
      · rw [Array.getElem?_toList, hn] at a2
        cases a2
  done := by
    intro X hP hw hK hc i pins s σ H E I hf st hg
    subst hP hw hK
    obtain ⟨⟨ar, Z⟩, hi⟩ := st
    have hel : es.length = ls.length := by rw [← hes, List.length_map]
    obtain ⟨hg, p, hp, ys, hq, hy⟩ := hg
    have has : ∀ e ∈ es, ∃ x : Array Value, ZSq s.heap e x ∧ ∃ xs, SqA X.K H e.2 xs ∧ Vals xs x.toList := fun e he => by
      obtain ⟨xs, q⟩ := hg e.2 (by rw [← hes]; exact List.mem_map.mpr ⟨e, he, rfl⟩)
      obtain ⟨its, rv, zs, _⟩ := sqA_at I q e.1
      exact ⟨its.toArray, zs, xs, q, by simpa using rv⟩
    obtain ⟨xs, xl, hx⟩ := pick es has
    have hne' : es ≠ [] := fun y => hne (by rw [← hes, y]; rfl)
    refine pyNext_zipN (I.ok.hd hc) D Z hi hne' (by rw [hel]; exact hlen) xl (fun j e x h1 h2 => (hx j e x h1 h2).1) (fun vs h' v1 v2 Z' i' hT hsz hk => ?_) (fun h' hj hk => ⟨rfl, I.turnedL (t' := s.toks) (ch := z :: TI :: TO :: es.map (·.1)) (fun c o hb q => hk c o (fun y => hb (by
      rcases List.mem_cons.mp y with y | y
      · exact y ▸ List.mem_cons_self ..
      · exact List.mem_cons_of_mem _ (List.mem_cons_of_mem _ y))) q) hf⟩)
    rw [← hes] at hp
    obtain ⟨e, he, rfl⟩ := List.mem_map.mp hp
    obtain ⟨j, hj⟩ := List.mem_iff_getElem?.mp he
    have hjl := (List.getElem?_eq_some_iff.mp hj).1
    obtain ⟨x, hjx⟩ : ∃ x, xs[j]? = some x := ⟨_, List.getElem?_eq_getElem (show j < xs.length by rw [xl]; exact hjl)⟩
    obtain ⟨_, zs, q, rv⟩ := hx j e x hj hjx
    rw [sqA_inj I hq q] at hy
    have n1 : x[i]? = none := by
      rw [← Array.getElem?_toList, List.getElem?_eq_none_iff, ← rv.length]
      exact hy
    have e1 := v2 j x hjx
    rw [n1, eq_comm, List.getElem?_eq_none_iff, v1] at e1
    exact absurd hjl (Nat.not_lt.mpr e1)
  self := fun A i s Q E st h => by
    obtain ⟨⟨ar, Z⟩, _⟩ := st
    exact wpAny_pyIter_zip Z.obj h
/-- zip(..) of two or three -/
def iZipN (K : PySem.W.Frag) (ta : TA) : TI := fun σ H R => ta σ H fun vs H1 => ∃ ls : List (Addr × Bool), vs = ls.map (fun p => V.ref p.1) ∧ (ls.length = 2 ∨ ls.length = 3) ∧ (∀ p ∈ ls, ∃ xs, SqA K H1 p xs) ∧ R (ItN K ls) H1
theorem vals_refs : ∀ {ls : List (Addr × Bool)} {us : List Value}, Vals (ls.map fun p => V.ref p.1) us → us = ls.map fun p => Value.ref p.1
  | [], _, .nil => rfl
  | _ :: _, _, .cons r rr => by
    rw [vals_refs rr]
    exact congrArg (· :: _) r
section
variable {X : Cx} {e : Expr} {es : List Expr} {ta : TA} {p pos tpos : Pos} {elts : List Expr} {kk : Nat}
theorem pi_zipN (hg : Gl X "zip") (hm : X.mg "zip" = none) (ha : PA X (e :: es) ta)
    (hs : starEach (e :: es) X.env = (false, eval e X.env) :: starEach es X.env := by rfl) (hpl : (backTo pos (starEach es X.env)).any (·.1) = false := by rfl) :
    PI X (.Tuple elts kk tpos) (.Call (.Name "zip" p) (e :: es) [] pos) (iZipN X.K ta) := by
  refine ⟨fun pins s σ H R I h => ?_⟩
  refine Call_ (ld_blt I hg hm PyProof.Rows.boot_zip (PyProof.Rows.callWith_type1 (thn (ha.run pos pins s σ H _ I h) fun us s1 ⟨vs, H1, I1, r1, q1⟩ => ?_) hs hpl))
  obtain ⟨ls, rfl, hl, hq, q⟩ := q1
  obtain rfl := vals_refs r1
  have ok : ZipOk (ls.map fun p => Value.ref p.1) := by
    rcases hl with hl | hl
    · match ls, hl with
      | [a, b], _ => exact zipOk2 _ _
    · match ls, hl with
      | [a, b, c], _ => exact zipOk3 _ _ _
  have hl1 : ls.length ≤ 1000 := by omega
  refine call_zipN ok (fun p hp => ?_) hl1 fun h' Z hi hsz hk => wpAny_pyIter_zip Z.obj ?_
  · obtain ⟨xs, hx⟩ := hq p hp
    obtain ⟨its, _, zs, _⟩ := sqA_at I1 hx 0
    exact ⟨_, zs⟩
  · have I2 : Inv X pins σ H1 { s1 with heap := h' } := I1.kept (t' := s1.toks) hk
    have below : ∀ p ∈ ls, p.1 < s1.heap.objs.size := fun p hp => by
      obtain ⟨xs, hx⟩ := hq p hp
      obtain ⟨_, _, _, l⟩ := sqA_at I1 hx 0
      exact l
    refine ⟨_, _, _, _, H1, rfl, I2, turn_zipN (zapart below) (mkE_seqs ls _) (fun y => by rw [y] at hl; rcases hl with hl | hl <;> cases hl) hl1, ⟨⟨_, Z⟩, hi⟩, fun c hcm => ?_, q⟩
    have hle : s1.heap.objs.size ≤ c := by
      rw [mkE_its] at hcm
      have key : ∀ n : Nat, n ∈ ((s1.heap.objs.size + ls.length + 2) :: (s1.heap.objs.size + ls.length) :: (s1.heap.objs.size + ls.length + 1) :: List.range' s1.heap.objs.size ls.length : List Nat) → s1.heap.objs.size ≤ n := fun n y => by
        rcases List.mem_cons.mp y with y | y
        · omega
        rcases List.mem_cons.mp y with y | y
        · omega
        rcases List.mem_cons.mp y with y | y
        · omega
        exact (in_range y).1
      exact key c hcm
    exact I1.fpOk hle (I1.hok.fresh hle)
end
end Lx
namespace Lx
open PySem PySem.Spec L2
theorem walk_zip2 {K : PySem.W.Frag} {p q : Addr × Bool} {xs ys : List V} {n : Nat} (hn : n = min xs.length ys.length) : Walk (ItN K [p, q]) n (fun H => SqA K H p xs ∧ SqA K H q ys) (YPair (fun i => xs[i]?) (fun i => ys[i]?)) := by
  subst hn
  refine ⟨fun i H hi g r hr => ?_, fun H g => ⟨fun r hr => ?_, ?_⟩, fun i H v H' _ g y => ?_⟩
  · rcases List.mem_cons.mp hr with rfl | hr
    · exact ⟨xs, _, g.1, List.getElem?_eq_getElem (show i < xs.length by omega)⟩
    · obtain rfl := List.mem_singleton.mp hr
      exact ⟨ys, _, g.2, List.getElem?_eq_getElem (show i < ys.length by omega)⟩
  · rcases List.mem_cons.mp hr with rfl | hr
    · exact ⟨xs, g.1⟩
    · obtain rfl := List.mem_singleton.mp hr
      exact ⟨ys, g.2⟩
  · rcases Nat.le_total xs.length ys.length with l | l
    · exact ⟨p, List.mem_cons_self .., xs, g.1, by omega⟩
    · exact ⟨q, List.mem_cons_of_mem _ (List.mem_cons_self ..), ys, g.2, by omega⟩
  · obtain ⟨T, vs, h1, h2, h3, h4, h5⟩ := y
    match vs, h4 with
    | [x, z], _ => exact ⟨T, x, z, h1, h2, h3, h5 0 p xs rfl g.1, h5 1 q ys rfl g.2⟩
/-- a new triple -/
def YTrip (xs ys zs : Nat → Option V) : Nat → Hp → V → Hp → Prop := fun i H v H' => ∃ T x y z, v = .ref T ∧ H T = none ∧ H' = upd H T (.tup [x, y, z]) ∧ xs i = some x ∧ ys i = some y ∧ zs i = some z
theorem walk_zip3 {K : PySem.W.Frag} {p q r : Addr × Bool} {xs ys zs : List V} {n : Nat} (h1 : xs.length = n) (h2 : ys.length = n) (h3 : zs.length = n) :
    Walk (ItN K [p, q, r]) n (fun H => SqA K H p xs ∧ SqA K H q ys ∧ SqA K H r zs) (YTrip (fun i => xs[i]?) (fun i => ys[i]?) (fun i => zs[i]?)) := by
  refine ⟨fun i H hi g c hc => ?_, fun H g => ⟨fun c hc => ?_, ?_⟩, fun i H v H' _ g y => ?_⟩
  · rcases List.mem_cons.mp hc with rfl | hc
    · exact ⟨xs, _, g.1, List.getElem?_eq_getElem (show i < xs.length by omega)⟩
    rcases List.mem_cons.mp hc with rfl | hc
    · exact ⟨ys, _, g.2.1, List.getElem?_eq_getElem (show i < ys.length by omega)⟩
    · obtain rfl := List.mem_singleton.mp hc
      exact ⟨zs, _, g.2.2, List.getElem?_eq_getElem (show i < zs.length by omega)⟩
  · rcases List.mem_cons.mp hc with rfl | hc
    · exact ⟨xs, g.1⟩
    rcases List.mem_cons.mp hc with rfl | hc
    · exact ⟨ys, g.2.1⟩
    · obtain rfl := List.mem_singleton.mp hc
      exact ⟨zs, g.2.2⟩
  · exact ⟨p, List.mem_cons_self .., xs, g.1, by omega⟩
  · obtain ⟨T, vs, a1, a2, a3, a4, a5⟩ := y
    match vs, a4 with
    | [x, y, z], _ => exact ⟨T, x, y, z, a1, a2, a3, a5 0 p xs rfl g.1, a5 1 q ys rfl g.2.1, a5 2 r zs rfl g.2.2⟩
end Lx
set_option Elab.async false
set_option linter.all false
set_option maxRecDepth 100000
set_option maxHeartbeats 2000000
/-! LxCls: classmethods without arguments or with keywords alone; o[e] by the own def. -/
namespace Lx
open PySem PySem.Spec PyProof.Rows L2 ClX
/-- C.m(k = v, ..), m a classmethod -/
def tCMethW (C : Addr) (ks : List Str) (sp : SpW) (E : XK) (ta : TE) (tk : TA) : TE := fun σ H Q => ta σ H fun x H1 => x = .ref C ∧ tk σ H1 fun zs H2 => sp [.ref C] (ks.zip zs) H2 Q E
/-- o[e] by the own def -/
def tIxO (C : Addr) (sp : Sp) (E : L2.St → XK) (ta tb : TE) : TE := fun σ H Q => ta σ H fun x H1 => tb σ H1 fun y H2 => ∃ a dx fs, x = .ref a ∧ H2 a = some (.ins C dx fs) ∧ sp [.ref a, y] H2 Q (E σ)
section
variable {X : Cx} {CX : CXT} {k : Nat} {C p g f : Addr} {mc : Value} {sp : Sp} {spw : SpW} {E : XK} {ES : L2.St → XK} {o e b : Expr} {es : List Expr} {kws : List Keyword} {ks : List Str} {m : Str} {pos apos : Pos} {ta tb : TE} {t tk : TA} {pl : Sem Bool}
theorem pe_cmeth0 (he : PE X o ta) (r : CRead X.K C mc) (c : CMet X.K C mc m p g) (F : FnR X.prog X.w X.K X.mg X.base CX k g sp) (hr : Room k X.A) (hx : Passes CX X E)
    (ht : eval (.Call (.Attribute o m apos) [] [] pos) X.env = (do
      let ov ← eval o X.env
      standAt apos.atName
      let (f, first) ← holding [ov] (getMethod ov m pl)
      callWith pos f first (backTo pos (starEach [] X.env)) (backToKw pos (keywordEach [] X.env))) := by rfl) :
    PE X (.Call (.Attribute o m apos) [] [] pos) (tCMeth C sp E ta tNil) := by
  refine ⟨fun pins s σ H Q I h => ?_⟩
  refine PySem.W.methodCall_KW (pl := pl) (thn (he.run pins s σ H _ I h) fun u s1 ⟨x, H1, I1, rx, ex, q⟩ => ?_) ht
  subst ex
  obtain rfl : u = Value.ref C := rx
  refine getmethcm_ok I1 r c fun s2 I2 => ?_
  exact PySem.W.callWith_M0 (first := []) ⟨pin_at I2, I2.kIn⟩ c.fi (run_cm F hr hx I2 .nil q)
theorem run_cmW {pins : List (Addr × Obj)} {σ : L2.St} {H : Hp} {s : Shared} {q : Addr} {Q : VK} {us : List Value} {vs : List V} {kw : List (Str × Value)} {kvs : List (Str × V)} (F : FnW X.prog X.w X.K X.mg X.base CX k g spw) (hr : Room k X.A) (hx : Passes CX X E)
    (I : Inv X ((q, PySem.W.methodObj (.ref g) (.ref C)) :: pins) σ H s) (r : Vals vs us) (rk : KwR kvs kw) (nd : (kw.map (·.1)).Nodup) (h : spw (.ref C :: vs) kvs H Q E) : wpAny (model X.prog X.w) X.A (call (.ref q) us kw) (EP X pins σ Q) X.xe s := by
  refine thn (wpAny_call (PySem.W.method_call (pin_at I) (codeAny_mono (F X.A X.stack s H (.ref C :: us) (.ref C :: vs) kw kvs Q E hr I.env0 (.cons rfl r) rk nd h) fun z s' hq => ?_))) fun _ _ y => unpinE (p := (q, PySem.W.methodObj (.ref g) (.ref C))) y
  cases z with
  | error e => exact hx _ σ H s e s' I hq
  | ok fl =>
    cases fl with
    | ret u => exact I.after hq
    | next => exact False.elim hq
    | brk => exact False.elim hq
    | cont => exact False.elim hq
theorem pe_cmethW0 (he : PE X o ta) (r : CRead X.K C mc) (c : CMet X.K C mc m p g) (F : FnW X.prog X.w X.K X.mg X.base CX k g spw) (hr : Room k X.A) (hx : Passes CX X E) (hkw : PK X kws tk)
    (nd : ks.Nodup := by decide) (hall : (backToKw pos (keywordEach kws X.env)).all (·.1.isSome) = true := by rfl) (hks : (backToKw pos (keywordEach kws X.env)).filterMap (·.1) = ks := by rfl)
    (hpl : ((backTo pos (starEach [] X.env)).any (·.1) || (backToKw pos (keywordEach kws X.env)).any (·.1.isNone)) = false := by rfl)
    (ht : eval (.Call (.Attribute o m apos) [] kws pos) X.env = (do
      let ov ← eval o X.env
      standAt apos.atName
      let (f, first) ← holding [ov] (getMethod ov m pl)
      callWith pos f first (backTo pos (starEach [] X.env)) (backToKw pos (keywordEach kws X.env))) := by rfl) :
    PE X (.Call (.Attribute o m apos) [] kws pos) (tCMethW C ks spw E ta tk) := by
  refine ⟨fun pins s σ H Q I h => ?_⟩
  refine PySem.W.methodCall_KW (pl := pl) (thn (he.run pins s σ H _ I h) fun u s1 ⟨x, H1, I1, rx, ex, q⟩ => ?_) ht
  subst ex
  obtain rfl : u = Value.ref C := rx
  refine getmethcm_ok I1 r c fun s2 I2 => ?_
  refine PySem.W.callWith_of hpl (PySem.W.keeps_M c.fi) (evalArgs_kw2_nil hall (thn (hkw.run pos _ s2 σ H1 _ I2 q) fun ws s3 ⟨zs, H3, I3, rz, q3⟩ => ⟨⟨pin_at I3, I3.kIn⟩, ?_⟩))
  rw [hks]
  exact run_cmW F hr hx I3 .nil (kwR_zip rz) (zip_nodup nd) q3
theorem pe_ixO (s1 : Spec1 X.K C "__getitem__" f) (fi : PySem.W.fnIn X.K f = true) (F : FnR X.prog X.w X.K X.mg X.base CX k f sp) (hr : Room (k + 1) X.A) (hx : ∀ σ, PassesAt CX X σ (ES σ)) (ha : PE X o ta) (hb : PE X b tb)
    (hsl : ∀ (a : Addr) (u : Value), subscripted b true (.ref a) u = runValue (.builtin "lifetime.subscript" ⟨[.ref a, u], []⟩) := by intros; with_unfolding_all rfl) :
    PE X (.Subscript o b pos) (tIxO C sp ES ta tb) := by
  refine ⟨fun pins s σ H Q I h => ?_⟩
  refine Subscript_ (binT ha hb I h fun v u s2 x y H2 I2 rx ry q => ?_)
  obtain ⟨a, dx, fs, rfl, ea, q⟩ := q
  obtain rfl : v = Value.ref a := rx
  obtain ⟨ox, od, J⟩ := inst_at I2 ea
  obtain ⟨mm, hF⟩ := I2.fr
  refine PySem.W.sub_K hF I2.ok.mod.kin J s1.at_ fi s1.fn ?_ (hsl _ _)
  have e0 : Env0 X.prog X.w X.K X.mg X.base X.A.in1 X.stack s2 H2 := I2.env0.in1
  refine wpAny_call (codeAny_mono (F X.A.in1 X.stack s2 H2 [.ref a, u] [.ref a, y] Q (ES σ) hr.in1 e0 (.cons rfl (.cons ry .nil)) q) fun r s' hq => ?_)
  cases r with
  | error e => exact hx σ pins H2 s2 e s' I2 hq
  | ok fl =>
    cases fl with
    | ret u => exact I2.after hq
    | next => exact False.elim hq
    | brk => exact False.elim hq
    | cont => exact False.elim hq
end
end Lx
namespace Lx
open PySem PySem.Spec PyProof.Rows L2
/-- x in l, l a list, data of any depth -/
def rInL (K : PySem.W.Frag) (neg : Bool) : R2 := fun x y H Q => ∃ d ds, Dp K H x d ∧ Dp K H y (.list ds) ∧ SeqAt.shaped d = true ∧ SeqAt.shaped (.list ds) = true ∧ Q (.bl (if neg then !ds.any fun z => PyData.eqv z d else ds.any fun z => PyData.eqv z d)) H
section
variable {X : Cx}
theorem op_inL (hu : X.A.units + 65 < cLine) : OpR X (compareOp .In) (rInL X.K false) := by
  intro pins s σ H x y v u Q I rx ry ⟨d, ds, hd, he, sd, se, q⟩
  obtain ⟨as, r1⟩ := Dp.reads I d x v hd rx
  obtain ⟨bs, r2⟩ := Dp.reads I (.list ds) y u he ry
  exact SeqAt.in_list_reads r2 r1 (SeqAt.canLay_of_shaped se) (SeqAt.canLay_of_shaped sd) (room_in_shaped sd hu) ⟨.bl _, H, I, rfl, q⟩
theorem op_notInL (hu : X.A.units + 65 < cLine) : OpR X (compareOp .NotIn) (rInL X.K true) := by
  intro pins s σ H x y v u Q I rx ry ⟨d, ds, hd, he, sd, se, q⟩
  obtain ⟨as, r1⟩ := Dp.reads I d x v hd rx
  obtain ⟨bs, r2⟩ := Dp.reads I (.list ds) y u he ry
  exact SeqAt.notIn_list_reads r2 r1 (SeqAt.canLay_of_shaped se) (SeqAt.canLay_of_shaped sd) (room_in_shaped sd hu) ⟨.bl _, H, I, rfl, q⟩
end
end Lx
namespace Lx
open PySem L2
theorem units65 {k : Nat} {A : Around} (r : Room k A) : A.units + 65 < cLine := by
  have := r.un
  omega
end Lx
set_option Elab.async false
set_option linter.all false
set_option maxRecDepth 100000
set_option maxHeartbeats 2000000
/-! LxIter: classes whose own __iter__ gives the iterator of a list. -/
namespace Lx
open PySem PySem.Spec PyProof.Rows L2 ItX
/-- the promise of such an __iter__: the list of o is at L -/
def FnIt (P : Program) (w : World) (K : PySem.W.Frag) (mg : Str → Option Value) (base : Heap) (k : Nat) (f : Addr) (G : Addr → Hp → Addr → Prop) : Prop :=
  ∀ (A : Around) (outer : List Env) (s : Shared) (H : Hp) (a L : Addr) (Q : VK), Room k A → Env0 P w K mg base A outer s H → G a H L → (∀ it, H it = none → s.heap.objs.size ≤ it → Q (.ref it) (upd H it (ItO L it 0))) →
    codeAny (model P w) A (.call (.ref f) ⟨[.ref a], []⟩) (CR (L2.CX P w) outer P w H s Q E0) s
theorem FnIt.mono {P : Program} {w : World} {K : PySem.W.Frag} {mg : Str → Option Value} {base : Heap} {j k : Nat} {f : Addr} {G : Addr → Hp → Addr → Prop} (F : FnIt P w K mg base j f G) (h : j ≤ k) : FnIt P w K mg base k f G := fun A outer s H a L Q hr => F A outer s H a L Q (hr.mono h)
section
variable {P : Program} {w : World} {K : PySem.W.Frag} {mg : Str → Option Value} {base : Heap} {k : Nat} {f : Addr} {fd : FuncData} {N : List Str} {x qual p1 : Str} {st : Stmt} {G : Addr → Hp → Addr → Prop}
theorem okIt (F : Fun K x qual st f fd) (S : FnScope N [p1] (defScope st))
    (hb : ∀ (kV doc pm : Value) (an : Option Addr) (cdv ct : Value) (u : Value), bindArgs (PySem.W.fnOf x qual (defArgs st) (defBody st) (defScope st) .none kV doc pm an cdv ct) ⟨[u], []⟩ = pure [(p1, u)])
    (hbody : ∀ (cdv : Value) (A : Around) (outer : List Env) (s : Shared) (H : Hp) (a L : Addr) (Q : VK), Room k (A.deeper (envOfC qual (defScope st) s.heap.objs.size f cdv)) → G a H L →
      (∀ it, H it = none → s.heap.objs.size ≤ it → Q (.ref it) (upd H it (ItO L it 0))) →
      ∃ t, PSs (cxOf (L2.CX P w) P w K mg base N qual (defScope st) f cdv A outer s H E0) (defBody st) t ∧ t { nx := fun _ H' => Q .non H', rt := Q } (start N [.ref a]) H) : FnIt P w K mg base (k + 1) f G := by
  intro A outer s H a L Q room e0 g hQ
  obtain ⟨oc, od, kV, doc, pm, an, cdv, ct, osl, rfl, lk, hcd⟩ := F.ex
  have inK : K.In s.heap := e0.mod.kin.keeps fun b o e => (e0.bs b o e).1
  obtain ⟨t, ht, hq⟩ := hbody cdv A outer s H a L Q (room.deeper _) g hQ
  have bt : BindsTo s (PySem.W.fnOf x qual (defArgs st) (defBody st) (defScope st) .none kV doc pm an cdv ct) ⟨[.ref a], []⟩ ([p1].zip [Value.ref a]) := .of_eq (hb kV doc pm an cdv ct _)
  refine codeAny_call_function room.depth (inK _ _ lk) rfl S.co S.gen rfl (PySem.W.codeRec_of inK hcd) (bt _ _ _ _ (wpAny_newFunctionEnv_cells S.kind (fun y hy => ?_) fun env he s1 x => ?_))
  · rcases S.par y.1 (List.of_mem_zip hy).1 with q | q
    · exact .inl q
    · exact .inr ⟨q, PySem.W.cellsFrom_some _ _ _ (.inl q)⟩
  · subst he
    refine ⟨(e0.mod.nolimit.keeps fun b o e => (e0.bs b o e).1).keeps x.toInCall.keep, codeAny_func ?_⟩
    have r1 : Vals [V.ref a] [Value.ref a] := .cons rfl .nil
    have J0 : Inv (cxOf (L2.CX P w) P w K mg base N qual (defScope st) f cdv A outer s H E0) [] (start N [.ref a]) H s1 := inv_start S room.hd e0 rfl r1 x
    refine wpAny_mono (ht.run [] s1 _ H _ J0 hq) (fun fl s' z => ?_) fun _ _ z => z
    cases fl with
    | next => exact z.elim fun σ' z => z.elim fun H' z => ⟨.non, H', z.1.os, z.1.bare, z.1.base, z.1.hok, rfl, z.2⟩
    | ret u => exact z.elim fun v z => z.elim fun σ' z => z.elim fun H' z => ⟨v, H', z.1.os, z.1.bare, z.1.base, z.1.hok, z.2.1, z.2.2⟩
    | brk => exact z.elim fun _ z => z.elim fun _ z => z.2.elim
    | cont => exact z.elim fun _ z => z.elim fun _ z => z.2.elim
end
theorem dropH_upd {H : Hp} {a : Addr} {o : HO} (h : H a = none) : dropH (upd H a o) a = H := by
  funext b
  by_cases e : b = a
  · rw [e, h, dropH_same]
  · rw [dropH_ne e, upd_ne e]
/-- the iterable e, an instance of C whose list is at L -/
def iOwnL (K : PySem.W.Frag) (C : Addr) (G : Addr → Hp → Addr → Prop) (te : TE) : TI := fun σ H R => te σ H fun v H1 => ∃ a dx fs L, v = .ref a ∧ H1 a = some (.ins C dx fs) ∧ G a H1 L ∧ R (Itl K L) H1
section
variable {X : Cx} {k : Nat} {C f : Addr} {G : Addr → Hp → Addr → Prop} {e tg : Expr} {te : TE} {pins : List (Addr × Obj)} {σ : L2.St} {H : Hp} {s : Shared}
/-- pyIter o -/
theorem own_iter {A : Around} {a L dx : Addr} {fs : List (Str × V)} {Q : Value → Shared → Prop} (I : Inv X pins σ H s) (S1 : Spec1 X.K C "__iter__" f) (F : FnIt X.prog X.w X.K X.mg X.base k f G) (hr : Room k A) (hfr : A.frames = X.A.frames) (hx : Passes (L2.CX X.prog X.w) X E0)
    (ha : H a = some (.ins C dx fs)) (g : G a H L) (hQ : ∀ it s', H it = none → s.heap.objs.size ≤ it → Inv X pins σ (upd H it (ItO L it 0)) s' → Q (.ref it) s') : wpAny (model X.prog X.w) A (pyIter (.ref a)) Q X.xe s := by
  obtain ⟨ox, od, J⟩ := inst_at I ha
  obtain ⟨m0, hF⟩ := I.fr
  have e0 : Env0 X.prog X.w X.K X.mg X.base A X.stack s H := by
    have e := I.env0
    exact ⟨by rw [hfr]; exact e.frames, e.mod, e.bs, e.bsz, e.funs, e.frf, e.hok, e.bare⟩
  refine PySem.W.owit_iter hF I.ok.mod.kin J S1.at_ S1.fn (wpAny_call (codeAny_mono (F A X.stack s H a L (fun v H' => ∃ it, v = .ref it ∧ H it = none ∧ s.heap.objs.size ≤ it ∧ H' = upd H it (ItO L it 0)) hr e0 g fun it h1 h2 => ⟨it, rfl, h1, h2, rfl⟩) fun r s' hq => ?_))
  cases r with
  | error e => exact hx pins σ H s e s' I hq
  | ok fl =>
    cases fl with
    | next => exact False.elim hq
    | brk => exact False.elim hq
    | cont => exact False.elim hq
    | ret u =>
      obtain ⟨v, H', I', rv, it, ev, h1, h2, eH⟩ := I.after hq
      subst ev eH
      obtain rfl : u = Value.ref it := rv
      have eo := itO_get I' upd_same
      have st : s'.heap.IsListIter it L 0 := ⟨_, eo, rfl, rfl⟩
      have LT : PySem.W.Looks (model X.prog X.w) s'.heap (typeOf (.ref it)) (.type "list_iterator") := (PySem.W.Looks.ld (part := none) eo).andThen .now
      unfold PySem.W.OwitIt
      exact (LT.andThen (PySem.W.Looks.of_pure slot_listiter_next.lookup)).here (hQ it s' h1 h2 I')
theorem pi_ownL (S1 : Spec1 X.K C "__iter__" f) (F : FnIt X.prog X.w X.K X.mg X.base k f G) (hr : Room k X.A) (hx : Passes (L2.CX X.prog X.w) X E0) (he : PE X e te) : PI X tg e (iOwnL X.K C G te) := by
  refine ⟨fun pins s σ H R I h => thn (he.run pins s σ H _ I h) fun u s1 ⟨v, H1, I1, rv, a, dx, fs, L, ev, ha, g, q⟩ => ?_⟩
  subst ev
  obtain rfl : u = Value.ref a := rv
  refine own_iter I1 S1 F hr rfl hx ha g fun it s2 h1 h2 I2 => ?_
  have eo := itO_get I2 upd_same
  have lt : X.s_0.heap.objs.size ≤ it := Nat.le_trans I1.sz h2
  have hd : upd H1 it (ItO L it 0) it = some (.ext fun h => h.get? it = some (GNX.itObj L 0)) := upd_same
  have I3 := inv_drop I2 hd
  have fp := inv_fp I2 hd lt
  rw [dropH_upd h1] at I3 fp
  refine ⟨it, [it], _, _, H1, rfl, I3, turn_list L it, ⟨_, eo, rfl, rfl⟩, fun b hb => ?_, q⟩
  rw [List.mem_singleton.mp hb]
  exact fp
/-- the turns of list(o), from the place i on -/
theorem own_turns {A1 : Around} {Rs : Result → Shared → Prop} {q it L : Addr} {zs : List V} (hc : X.calm = true) (hh : A1.in1.handled = none) (hL : H L = some (.lst zs)) (hq0 : H q = none) (hi : it ≠ q) (hdone : ∀ s, Inv X pins σ (upd H q (.lst zs)) s → Rs (.ok (.ret .none)) s) :
    ∀ (n i : Nat) (s : Shared), i + n = zs.length → Inv X pins σ (upd H q (.lst (zs.take i))) s → FpOk X pins (upd H q (.lst (zs.take i))) it → s.heap.IsListIter it L i → codeAny (model X.prog X.w) A1 (.builtin "list.extend.loop" ⟨[.ref q, .ref it, .none], []⟩) Rs s := by
  have nLq : L ≠ q := ne_of_none hL hq0
  intro n
  induction n with
  | zero =>
    intro i s hn I fp st
    refine codeAny_builtin PySem.F.entry_extend_loop ?_
    rw [Around.under_plainId PySem.F.plain_extend_loop _]
    show wpAny _ A1.in1 (pyNext (.ref it) >>= _) _ _ s
    obtain ⟨its, rv, pl, hz⟩ := I.list (SqL.of (keep_set nLq hL))
    obtain ⟨f0, f1, f2, f3, f4, f5⟩ := fp
    refine wpAny_bind (wpAny_pyNext_list_end hh st pl.isList (by rw [List.getElem?_toArray]; exact rv.none_of (List.getElem?_eq_none (by omega))) fun h' eb => wpAny_pure (hdone _ ?_))
    have I1 := I.turned (t' := s.toks) (fun b ob hb e => eb b ob hb e) f0 f1 f3 f4 f5
    rw [List.take_of_length_le (by omega)] at I1
    exact I1
  | succ n ih =>
    intro i s hn I fp st
    refine codeAny_builtin PySem.F.entry_extend_loop ?_
    rw [Around.under_plainId PySem.F.plain_extend_loop _]
    show wpAny _ A1.in1 (pyNext (.ref it) >>= _) _ _ s
    obtain ⟨its, rv, pl, hz⟩ := I.list (SqL.of (keep_set nLq hL))
    obtain ⟨f0, f1, f2, f3, f4, f5⟩ := id fp
    have lt : i < zs.length := by omega
    obtain ⟨u, hu, ru⟩ := rv.get (List.getElem?_eq_getElem lt)
    refine wpAny_bind (wpAny_pyNext_list_item st pl.isList (by rw [List.getElem?_toArray]; exact hu) fun h' st' sb => ?_)
    have I1 := I.turned (t' := s.toks) (fun b ob hb e => (sb.2 b hb).trans e) f0 f1 f3 f4 f5
    show wpAny _ A1.in1 (updateSeq q (·.push u) >>= _) _ _ _
    have hq : upd H q (.lst (zs.take i)) q = some (.lst (zs.take i)) := upd_same
    obtain ⟨z, its2, k2, r2, hl, e⟩ := I1.lstM hq
    have hlen : (zs.take i).length = i := by rw [List.length_take]; omega
    have hzl : zs.length ≤ sizeLine := hz
    have hl2 := r2.length
    refine wpAny_bind (wpAny_updateSeq e rfl (wpAny_pure ⟨plainId_quiet PySem.F.plain_extend_loop _, ?_⟩) (by rw [List.size_toArray]; omega) (by show (its2.toArray.push u).size ≤ sizeLine + 1; rw [Array.size_push, List.size_toArray]; omega))
    have I2 := I1.lset (f := (·.push u)) (its' := its2 ++ [u]) (ys := zs.take i ++ [zs[i]]) (t' := s.toks) hq e (by simp) (r2.append (.cons ru .nil)) (by rw [List.length_append, List.length_singleton]; omega)
    have et : zs.take i ++ [zs[i]] = zs.take (i + 1) := by rw [List.take_add_one, List.getElem?_eq_getElem lt, Option.toList_some]
    rw [upd_upd, et] at I2
    refine ih (i + 1) _ (by omega) I2 ⟨?_, f1, f2, f3, f4, f5⟩ ?_
    · rw [upd_ne hi] at f0 ⊢
      exact f0
    · obtain ⟨o, ho, hc2, hd2⟩ := st'
      exact ⟨o, (Heap.get?_update_ne _ _ _ _ hi).trans ho, hc2, hd2⟩
/-- list(o), o an instance of C whose list is at L -/
def rOwnL (C : Addr) (G : Addr → Hp → Addr → Prop) : List V → Hp → VK → Prop := fun xs H Q => ∃ a dx fs L zs, xs = [.ref a] ∧ H a = some (.ins C dx fs) ∧ G a H L ∧ H L = some (.lst zs) ∧ (∀ q, H q = none → G a (upd H q (.lst [])) L) ∧ ∀ q, H q = none → Q (.ref q) (upd H q (.lst zs))
/-- what is not there -/
structure NoLen (K : PySem.W.Frag) (C : Addr) : Prop where
  nolen : PySem.W.findIn K (.ref C) "__len__" = some none
  nohint : PySem.W.findIn K (.ref C) "__length_hint__" = some none
theorem call_listOwnL (hc : X.calm = true) (S1 : Spec1 X.K C "__iter__" f) (N1 : NoLen X.K C) (F : FnIt X.prog X.w X.K X.mg X.base k f G) (hr : Room (k + 2) X.A) (hx : Passes (L2.CX X.prog X.w) X E0) : CallR X (.type "list") (rOwnL C G) := by
  intro pins s σ H xs us Q I rv h
  obtain ⟨a, dx, fs, L, zs, rfl, ha, g, hL, hg, hQ⟩ := h
  obtain ⟨u, rfl, ru⟩ := rv.one
  cases ru
  refine callType_codes (Q₁ := fun obj s₁ => obj = .ref s.heap.objs.size ∧ s₁ = { s with heap := s.heap.push { cls := .type "list", data := .seq #[] } }) PySem.F.called_list (PySem.F.typeCall_list_1 _) PySem.F.entry_list_init
    (code_list_new _ ⟨rfl, rfl⟩) fun obj s₁ h₁ => ?_
  obtain ⟨rfl, rfl⟩ := h₁
  have hS : (s.heap.push { cls := .type "list", data := .seq #[] }).get? s.heap.objs.size = some { cls := .type "list", data := .seq #[] } := Heap.get?_push_size _ rfl
  refine ⟨⟨_, hS, rfl⟩, PySem.F.args_list_init_2 _ _, ?_⟩
  have fr : H s.heap.objs.size = none := I.hok.fresh (Nat.le_refl _)
  have hQ1 := hQ _ fr
  have g1 := hg _ fr
  have na : a ≠ s.heap.objs.size := ne_of_none ha fr
  generalize hq : s.heap.objs.size = q at *
  have I1 : Inv X pins σ (upd H q (.lst [])) { s with heap := s.heap.push { cls := .type "list", data := .seq #[] } } := by
    rw [← hq]
    exact I.lnew (its := []) (t' := s.toks) .nil (Nat.zero_le _)
  show wpAny _ _ (Builtin.List.listItems (.ref q) >>= fun old => Builtin.List.listUpdate (.ref q) (fun _ => #[]) >>= fun _ => letGo old.toList.reverse >>= fun _ => Builtin.List.listExtendWith (.ref q) (.ref a) .none) _ _ _
  refine wpAny_bind ?_
  unfold Builtin.List.listItems
  refine wpAny_bind (wpAny_seqItems hS rfl (wpAny_pure ?_))
  refine wpAny_bind (wpAny_updateSeq hS rfl ?_)
  have I2 := I1.lset (f := fun _ => #[]) (its := []) (its' := []) (ys := []) (t' := s.toks) upd_same hS rfl .nil (Nat.zero_le _)
  rw [upd_upd] at I2
  refine wpAny_bind (wpAny_letGo ?_)
  have ha2 : upd H q (.lst []) a = some (.ins C dx fs) := keep_set na ha
  obtain ⟨ox, od, J⟩ := inst_at I2 ha2
  unfold Builtin.List.listExtendWith
  refine wpAny_bind (J.type.here ?_)
  rw [if_neg (show ¬ (Builtin.List.listSameRef (.ref q) (.ref a) || Value.ref C == Value.type "list" || Value.ref C == Value.type "tuple") = true by simp [Builtin.List.listSameRef, Ne.symm na] <;> exact ⟨rfl, rfl⟩)]
  refine wpAny_bind (own_iter (A := X.A.in1.in1) I2 S1 F hr.in1.in1 rfl hx ha2 g1 fun it s3 h1 h2 I3 => ?_)
  have eo := itO_get I3 upd_same
  have hi : it ≠ q := fun z => by
    rw [z, upd_same] at h1
    cases h1
  have hd : upd (upd H q (.lst [])) it (ItO L it 0) it = some (.ext fun h => h.get? it = some (GNX.itObj L 0)) := upd_same
  have lt : X.s_0.heap.objs.size ≤ it := Nat.le_trans I2.sz h2
  have I4 := inv_drop I3 hd
  have fp := inv_fp I3 hd lt
  rw [dropH_upd h1] at I4 fp
  obtain ⟨ox2, od2, J2⟩ := inst_at I4 ha2
  have hint : ∀ {P : Bool → Shared → Prop}, P true s3 → wpAny (model X.prog X.w) X.A.in1.in1 (Builtin.List.listLengthHint (.ref a)) P X.xe s3 := fun {P} p => by
    unfold Builtin.List.listLengthHint
    refine wpAny_bind (wpAny_bind (J2.type.here ((PySem.W.looks_findIn I4.kIn N1.nolen).here ?_)))
    refine PySem.W.KFB.if_not rfl (PySem.W.KFB.if_not rfl ?_)
    exact wpAny_bind (wpAny_bind (J2.type.here ((PySem.W.looks_findIn I4.kIn N1.nohint).here (wpAny_pure p))))
  have go : ∀ s4, Inv X pins σ (upd H q (.lst [])) s4 → s4.heap.IsListIter it L 0 → codeAny (model X.prog X.w) X.A.in1 (.builtin "list.extend.loop" ⟨[.ref q, .ref it, .none], []⟩) (wants (fun r s₂ => r = .none ∧ EP X pins σ Q (.ref q) s₂) X.xe) s4 := fun s4 I5 st =>
    own_turns (A1 := X.A.in1) (H := H) (zs := zs) hc (I5.ok.hd hc) hL fr hi (fun s5 I6 => ⟨rfl, .ref q, _, I6, rfl, hQ1⟩) zs.length 0 s4 (Nat.zero_add _) I5 fp st
  refine wpAny_bind (wpAny_holding (hint ?_))
  obtain ⟨z, its, kk, r3, hl3, e3⟩ := I4.lstM upd_same
  cases r3
  refine wpAny_ite_split (fun _ => ?_) (fun _ => wpAny_pure ⟨plainId_quiet PySem.F.plain_extend_loop _, go s3 I4 ⟨_, eo, rfl, rfl⟩⟩)
  refine wpAny_bind (wpAny_rule (wpAny_bind ?_))
  show wpAny _ _ (updateSeq q (·.push .none) >>= fun _ => updateSeq q (·.pop)) _ _ _
  refine wpAny_bind (wpAny_updateSeq e3 rfl ?_)
  have I5 := I4.lset (f := (·.push Value.none)) (its' := [Value.none]) (ys := [.non]) (t' := s3.toks) upd_same e3 (by simp) (.cons rfl .nil) (by rw [List.length_singleton, sizeLine_eq]; decide)
  obtain ⟨z4, its4, k4, r4, hl4, e4⟩ := I5.lstM upd_same
  obtain ⟨u4, rfl, ru4⟩ := r4.one
  refine wpAny_updateSeq e4 rfl (wpAny_pure ⟨plainId_quiet PySem.F.plain_extend_loop _, go _ ?_ ?_⟩) (by show 1 ≤ sizeLine; rw [sizeLine_eq]; decide) (Nat.zero_le _)
  · have I6 := I5.lset (f := (·.pop)) (its := [u4]) (its' := []) (ys := []) (t' := s3.toks) upd_same e4 (by rfl) .nil (Nat.zero_le _)
    rw [upd_upd, upd_upd] at I6
    exact I6
  · exact ⟨_, (Heap.get?_update_ne _ _ _ _ hi).trans ((Heap.get?_update_ne _ _ _ _ hi).trans eo), rfl, rfl⟩
end
end Lx
set_option Elab.async false
set_option linter.all false
set_option maxRecDepth 100000
set_option maxHeartbeats 2000000
/-! sorted of tuples whose first items are different texts -/
namespace Lx
open PySem PySem.Spec PyProof.Rows L2 SrtO
/-- a tuple of two, the first a text -/
def IsSP (h : Heap) (v : Value) (x : Str) : Prop := ∃ (a : Addr) (o : Obj) (t : Tok) (y : Value) (n : Nat), v = .ref a ∧ h.get? a = some o ∧ o.cls = .type "tuple" ∧ o.data = .seq #[.str x t, y] n
theorem IsSP.keeps {h h' : Heap} {v : Value} {x : Str} (p : IsSP h v x) (k : ∀ b o, h.get? b = some o → o.cls = .type "tuple" → h'.get? b = some o) : IsSP h' v x := by
  obtain ⟨a, o, t, y, n, e, ho, hc, hd⟩ := p
  exact ⟨a, o, t, y, n, e, k _ _ ho hc, hc, hd⟩
def sLt (x y : Str) : Bool := decide (x.cps.toList < y.cps.toList)
theorem swo_str {α : Type} (k : α → Str) : Swo fun v u => sLt (k v) (k u) := by
  constructor
  · intro x y h
    exact decide_eq_false (List.lt_asymm (of_decide_eq_true h))
  · intro x y z h1 h2
    have a1 : (k x).cps.toList ≤ (k y).cps.toList := of_decide_eq_false h1
    have a2 : (k y).cps.toList ≤ (k z).cps.toList := of_decide_eq_false h2
    exact decide_eq_false (show ¬ _ from List.le_trans a1 a2)
section
variable {prog : Program} {w : World} {A : Around} {s : Shared} {E : Value → Shared → Prop}
theorem sp_cmp {vs : List Value} {k : Value → Str} (hp : ∀ v ∈ vs, IsSP s.heap v (k v)) (inj : ∀ v ∈ vs, ∀ u ∈ vs, k v = k u → v = u) : Cmp prog w A s (tuples' true) (fun p => p.1 ∈ vs) (lt2 fun v u => sLt (k v) (k u)) := by
  intro p q hm hm'
  have h1 := hp _ hm
  have h2 := hp _ hm'
  have hj := inj _ hm _ hm'
  show wpAny (model prog w) A (keyLt' (tuples' true) p.1 q.1) (fun r s' => s' = s ∧ r = sLt (k p.1) (k q.1)) (fun _ _ => False) s
  generalize k p.1 = x at h1 hj ⊢
  generalize k q.1 = z at h2 hj ⊢
  obtain ⟨a, o, t, y, n, e, ho, hc, hd⟩ := h1
  obtain ⟨a', o', t', y', n', e', ho', hc', hd'⟩ := h2
  rw [e, e'] at hj ⊢
  refine PySem.W.kat_lt ho hd ho' hd' ?_
  show PySem.W.KatLex prog w A true (decide (2 < 2)) _ [(.str x t, .str z t'), (y, y')] 0 s
  refine PySem.W.kat_cons (SeqAt.EqAt.str_str x t z t' prog w _ _ ?_)
  refine PySem.W.kat_go (fun e1 => ?_) (fun e1 => ?_)
  · have exz : x = z := by simpa using e1
    have ea : a = a' := Value.ref.inj (hj exz)
    subst ea
    rw [ho] at ho'
    cases ho'
    rw [hd] at hd'
    injection hd' with h3 h4
    have h5 : y = y' := by
      have q := congrArg (fun (r : Array Value) => r[1]?) h3
      exact Option.some.inj q
    subst h5
    refine PySem.W.kat_yes (PySem.W.kat_cons (SeqAt.EqAt.same y prog w _ _ ?_))
    have e3 : sLt x z = false := by
      rw [exz]
      exact decide_eq_false (List.lt_irrefl _)
    exact PySem.W.kat_yes (PySem.W.kat_nil ⟨rfl, e3.symm⟩)
  · exact PySem.W.kat_no (oneLt_str ⟨rfl, rfl⟩)
theorem sp_firsts {h : Heap} {k : Value → Str} : ∀ {vs : List Value}, (∀ v ∈ vs, IsSP h v (k v)) → ∃ fs : List Value, PySem.W.KatTups h vs fs ∧ fs.length = vs.length ∧ ∀ f ∈ fs, ∃ x t, f = Value.str x t
  | [], _ => ⟨[], PySem.W.KatTups.nil, rfl, fun _ hm => by simp at hm⟩
  | v :: vs, hp => by
    obtain ⟨fs, h1, h2, h3⟩ := sp_firsts (vs := vs) fun u hm => hp u (List.mem_cons_of_mem _ hm)
    obtain ⟨a, o, t, y, n, e, ho, hc, hd⟩ := hp v List.mem_cons_self
    subst e
    refine ⟨.str _ t :: fs, PySem.W.KatTups.cons ho hc hd rfl h1, by rw [List.length_cons, List.length_cons, h2], fun f hm => ?_⟩
    rcases List.mem_cons.mp hm with rfl | hm
    · exact ⟨_, t, rfl⟩
    · exact h3 f hm
theorem sp_sortable {a : Addr} {vs : List Value} {k : Value → Str} (h0 : 0 < vs.length) (hp : ∀ v ∈ vs, IsSP s.heap v (k v)) (inj : ∀ v ∈ vs, ∀ u ∈ vs, k v = k u → v = u) (ha : ∀ o, s.heap.get? a = some o → o.cls ≠ .type "tuple") : SortableO prog w A s a vs fun v u => sLt (k v) (k u) := by
  intro h' keep
  have hp' : ∀ v ∈ vs, IsSP h' v (k v) := fun v hm => (hp v hm).keeps fun b o e c => keep b o (fun z => ha o (by rw [← z]; exact e) c) e
  obtain ⟨fs, h1, h2, h3⟩ := sp_firsts hp'
  refine ⟨tuples' true, fun Q E hq => ?_, sp_cmp hp' inj⟩
  refine PySem.W.kat_kind (T := .type "str") h1 (by rw [h2]; exact h0) (fun f hm => ?_) (by rfl) ?_
  · obtain ⟨x, t, rfl⟩ := h3 f hm
    exact PySem.W.Looks.now
  · have e : (Value.type "str" != Value.type "tuple") = true := by decide +kernel
    rw [e]
    exact hq
theorem sorted_sp {l : Addr} {vs : List Value} {k : Value → Str} {Q : Value → Shared → Prop} (hl : s.heap.IsList l vs.toArray) (hz : vs.length ≤ sizeLine) (hp : ∀ v ∈ vs, IsSP s.heap v (k v)) (inj : ∀ v ∈ vs, ∀ u ∈ vs, k v = k u → v = u)
    (h : ∀ (h' : Heap) (d : Addr) (out : List Value), Srtd (fun v u => sLt (k v) (k u)) out → Stb (fun v u => sLt (k v) (k u)) out vs → (∀ b o, s.heap.get? b = some o → h'.get? b = some o) → s.heap.objs.size ≤ d → (∃ n, h'.get? d = some (seqObj "list" out.toArray n)) → Q (.ref d) { s with heap := h' }) :
    wpAny (model prog w) A (call (.builtin "sorted") [.ref l]) Q E s := by
  refine sorted_ord (swo_str k) hl hz (fun h2 hh b hb kk => ?_) fun out hs hb => h _ _ out hs hb (fun b o e => sortedAll_old e) (Nat.le_succ _) (sortedAll_at s.heap vs out.toArray)
  refine sp_sortable (s := { s with heap := hh }) (by omega) (fun v hm => (hp v hm).keeps fun c o e _ => (kk c o e).2) inj fun o e c => ?_
  have e' : some o = some (seqObj "list" vs.toArray 0) := e.symm.trans hb
  cases e'
  exact absurd (Value.type.inj c) (by decide)
end
def rSortedSP (K : PySem.W.Frag) : List V → Hp → VK → Prop := fun vs H Q => ∃ (a : Addr) (xs : List V) (k : V → Str), vs = [V.ref a] ∧ SqL K H a xs ∧ (∀ x ∈ xs, ∃ t y, x = V.ref t ∧ SqT K H t [.str (k x), y]) ∧ (∀ x ∈ xs, ∀ y ∈ xs, k x = k y → x = y) ∧
  ∀ (ys : List V) (p : Addr), ys.Perm xs → ys.Pairwise (fun x y => ¬ (k y).cps.toList < (k x).cps.toList) → H p = none → Q (.ref p) (upd H p (.lst ys))
section
variable {X : Cx}
theorem cr_sortedSP : CallR X (.builtin "sorted") (rSortedSP X.K) := by
  intro pins s σ H vs us Q I r h
  obtain ⟨a, xs, k, rfl, hs, hx, inj, q⟩ := h
  obtain ⟨its, rv, hl, hz⟩ := I.list hs
  obtain ⟨u, rfl, ru⟩ := vals1 r
  cases ru
  obtain ⟨e1, e2⟩ := refs_back rv fun x m => by
    obtain ⟨t, _, e, _⟩ := hx x m
    exact ⟨t, e⟩
  refine sorted_sp (k := fun u => k (backV u)) hl.isList (by rw [← rv.length]; exact hz) (fun v hv => ?_) (fun v hv u hu e => ?_) fun h' d out h1 h2 kp hd hn => ?_
  · obtain ⟨t, rfl⟩ := e2 v hv
    obtain ⟨t', y, e, ht⟩ := hx (V.ref t) (by rw [e1]; exact List.mem_map.mpr ⟨_, hv, rfl⟩)
    cases e
    obtain ⟨its2, r2, pl, _⟩ := I.tuple ht
    obtain ⟨u1, u2, rfl, ri, rj⟩ := vals2 r2
    obtain ⟨t1, rfl⟩ := ri
    obtain ⟨o, ho, hc, n, hd⟩ := pl
    exact ⟨t, o, t1, u2, n, rfl, ho, hc, hd⟩
  · obtain ⟨t, rfl⟩ := e2 v hv
    obtain ⟨t', rfl⟩ := e2 u hu
    have q := inj (V.ref t) (by rw [e1]; exact List.mem_map.mpr ⟨_, hv, rfl⟩) (V.ref t') (by rw [e1]; exact List.mem_map.mpr ⟨_, hu, rfl⟩) e
    cases q
    rfl
  · have h3 : ∀ u ∈ out, ∃ a, u = Value.ref a := fun u hu => e2 u (h2.perm.mem_iff.mp hu)
    obtain ⟨n, hn⟩ := hn
    have pm : (out.map backV).Perm xs := by
      rw [e1]
      exact h2.perm.map backV
    have sd : (out.map backV).Pairwise (fun x y => ¬ (k y).cps.toList < (k x).cps.toList) := by
      rw [List.pairwise_map]
      exact h1.imp fun h => of_decide_eq_false h
    exact ⟨.ref d, upd H d (.lst (out.map backV)), I.laid (t' := s.toks) kp hd ⟨by rw [pm.length_eq]; exact hz, out, n, vals_back h3, hn⟩, rfl, q _ d pm sd (I.hok.fresh hd)⟩
end
end Lx
set_option Elab.async false
set_option linter.all false
set_option maxRecDepth 100000
set_option maxHeartbeats 6400000
/-! len(set(xs)), xs any list of texts: the number of different ones -/
namespace Lx
open PySem PySem.Spec PyProof.Rows L2
/-- after some texts -/
def Seen (prog : Program) (w : World) (h : Heap) (S : Addr) (xs : List Str) : Prop := h.SetOf (PySem.strKind prog w) S (fun k => decide (k ∈ dd xs)) (dd xs).length
theorem Seen.keep {prog : Program} {w : World} {h h2 : Heap} {S : Addr} {xs : List Str} (q : Seen prog w h S xs) (k : ∀ o, h.get? S = some o → h2.get? S = some o) : Seen prog w h2 S xs := by
  obtain ⟨o, es, ep, tb, ho, rest⟩ := q
  exact ⟨o, es, ep, tb, k o ho, rest⟩
section
variable {prog : Program} {w : World} {A : Around} {R : Result → Shared → Prop} {I : Addr} {fp wr : List Addr} {G : Array GenState → Array GenState → Prop} {n : Nat} {P : Nat → Value → Prop} {St : Nat → Shared → Prop}
theorem addStrs (W : WalksS prog w A.in1 I fp wr G n P St) (S : Addr) (off : S ∉ fp) (xs : List Str) (len : xs.length = n) (few : n < 1000) (item : ∀ (i : Nat) (v : Value), P i v → ∃ x t, xs[i]? = some x ∧ v = .str x t) (m : Nat) :
    ∀ (i : Nat) (s : Shared), i + m = n → St i s → Seen prog w s.heap S (xs.take i) → (∀ s2, Moved (S :: wr) G s s2 → Seen prog w s2.heap S xs → R (.ok (.ret .none)) s2) →
      codeAny (model prog w) A (.builtin "set.update.loop" ⟨[.ref S, .ref I], []⟩) R s := by
  have offw : S ∉ wr := fun z => off (W.sub _ z)
  have up : ∀ b ∈ wr, b ∈ S :: wr := fun b z => List.mem_cons_of_mem _ z
  induction m with
  | zero =>
    intro i s e st q r
    have e' : i = n := e
    rw [e'] at st
    rw [e', ← len, List.take_length] at q
    refine codeAny_builtin PyProof.Rows.F.entry_set_update_loop ?_
    rw [Around.under_plainId PyProof.Rows.F.plain_set_update_loop _]
    exact wpAny_bind (m := pyNext (.ref I)) (W.done s _ _ st fun s2 mv => wpAny_pure (r s2 (mv.mono up) (q.keep fun o h => mv.heap S _ offw h)))
  | succ m ih =>
    intro i s e st q r
    have lt : i < n := by omega
    refine codeAny_builtin PyProof.Rows.F.entry_set_update_loop ?_
    rw [Around.under_plainId PyProof.Rows.F.plain_set_update_loop _]
    refine wpAny_bind (m := pyNext (.ref I)) (W.item i s _ _ lt st fun v s2 pv st2 mv => ?_)
    obtain ⟨x, t, ex, rfl⟩ := item i v pv
    have q2 : Seen prog w s2.heap S (xs.take i) := q.keep fun o h => mv.heap S _ offw h
    refine wpAny_bind (m := holding [Value.str x t] (setAdd S (.str x t))) (wpAny_holding ?_)
    unfold setAdd
    refine wpAny_holding (wpAny_bind ((PySem.strKind prog w).pyHash (k := x) (strKind_is _ _ _ _) ?_))
    have room : (dd (xs.take i)).length + 1 < scanBound := by
      have h1 := (dd_facts (xs.take i)).2.2
      have h2 : (xs.take i).length ≤ i := List.length_take_le ..
      unfold scanBound
      omega
    refine wpAny_setAddHashed_of (knd := PySem.strKind prog w) (s := { s2 with toks := s2.toks + 1 }) (strKind_is _ _ _ _) rfl q2 room fun h3 but q3 => ?_
    have tk : xs.take (i + 1) = xs.take i ++ [x] := by rw [List.take_add_one, ex]; rfl
    have q4 : Seen prog w h3 S (xs.take (i + 1)) := by
      refine SetOf_congr q3 (fun k => ?_) ?_
      · rw [tk, dd_snoc]
        by_cases z : x ∈ dd (xs.take i)
        · rw [if_pos z]
          by_cases y : k = x
          · subst y
            simp [z]
          · simp [y]
        · rw [if_neg z]
          simp
      · rw [tk, dd_snoc]
        by_cases z : x ∈ dd (xs.take i)
        · simp [z]
        · simp [z]
    refine wpAny_pure ⟨plainId_quiet PyProof.Rows.F.plain_set_update_loop _, ih (i + 1) _ (by omega) (W.frame _ s2 _ _ st2 (Nat.le_succ _) fun b hb o eb => ?_) q4 fun s5 mv5 q5 => r s5 (Moved.trans W.gtrans ((mv.mono up).then_heap (Nat.le_succ _) fun b o hb eb => ?_) mv5) q5⟩
    · rw [but.2 b fun z => off (z ▸ hb)]
      exact eb
    · rw [but.2 b fun z => hb (z ▸ List.mem_cons_self)]
      exact eb
end
section
variable {prog : Program} {w : World} {A : Around} {E : Value → Shared → Prop} {s : Shared}
abbrev freshSet (led : Bool) : Obj := { cls := .type "set", dict := none, data := .set #[] 0 (.fresh 0 0 led) }
theorem set_strs {l : Addr} {vs : Array Value} {xs : List Str} {Q : Value → Shared → Prop} (calm : A.handled = none) (hl : s.heap.IsList l vs) (hi : StrsAre vs.toList xs) (few : xs.length < 1000)
    (h : ∀ (h2 : Heap) (tk : Nat), Seen prog w h2 s.heap.objs.size xs → (∀ b o, b < s.heap.objs.size → s.heap.get? b = some o → h2.get? b = some o) → Q (.ref s.heap.objs.size) { s with heap := h2, toks := tk }) :
    wpAny (model prog w) A (call (.type "set") [.ref l]) Q E s := by
  obtain ⟨c, tl, made0⟩ := PySem.F.called_set.mro
  have made1 := PySem.F.called_set.made
  have made2 := PySem.F.called_set.sub
  refine wpAny_call (codeAny_of_tree ?_)
  show wpAny _ _ (callAny (.type "set") _) _ _ _
  refine wpAny_pure ⟨Code.quiet_builtin _ (by decide +kernel), codeAny_builtin PySem.F.entry_type_call ?_⟩
  rw [Around.under_plain (weight_type_call_type "set" [.ref l] []) rfl]
  have made3 := PySem.F.called_set.notType
  have made4 := PySem.F.called_set.canCreate
  have made5 := PySem.F.typeCall_set_1 (.ref l)
  repeat (any_goals (first | assumption | wp_step))
  refine codeAny_mono (code_set_new_1 (.ref l) (E := E) (Q₁ := fun v s1 => ∃ led : Bool, v = .ref s.heap.objs.size ∧ s1 = { s with heap := s.heap.push (freshSet led) }) fun led => ⟨led, rfl, rfl⟩) fun r s1 hr => ?_
  rcases r with e | (v | _ | _ | _)
  · exact hr
  · exact hr.elim
  · exact hr.elim
  · exact hr.elim
  obtain ⟨led, rfl, rfl⟩ := hr
  have new : (s.heap.push (freshSet led)).get? s.heap.objs.size = some (freshSet led) := Heap.get?_push_size _ rfl
  have isSet : Shared.TypeIs { s with heap := s.heap.push (freshSet led) } (.ref s.heap.objs.size) "set" := ⟨_, new, rfl⟩
  have made6 := PySem.F.called_set.init.lookup
  have made7 := PySem.F.called_set.init.bind (.ref s.heap.objs.size)
  repeat (any_goals (first | assumption | wp_step))
  refine codeAny_mono (codeAny_call_builtin (R := wants (fun r s2 => r = .none ∧ ∃ h2 tk, s2 = { s with heap := h2, toks := tk } ∧ Seen prog w h2 s.heap.objs.size xs ∧ ∀ b o, b < s.heap.objs.size → s.heap.get? b = some o → h2.get? b = some o) E) PySem.F.called_set.init.plain PySem.F.entry_set_init (check_set_init_1 isSet ?_)) fun r2 s2 hr2 => ?_
  · obtain ⟨⟨oc, od, oda, osl⟩, ol, hc, nl, hd⟩ := hl
    simp only at hc hd
    subst hc
    subst hd
    have ol' : (s.heap.push (freshSet led)).get? l = some ⟨.type "list", od, .seq vs nl, osl⟩ := Heap.get?_push_of_some _ ol
    have made8 := PySem.F.sub_list_set
    have made9 := PySem.F.sub_list_frozenset
    have made10 : (Value.type "list" == Value.type "dict") = false := by decide
    have il : (s.heap.push (freshSet led)).IsList l vs := ⟨_, ol', rfl, nl, rfl⟩
    unfold Builtin.«set.__init__» noKeywords Builtin.Frozenset.updateFrom
    generalize hPI : pyIter = PI
    wp_walk
    subst hPI
    refine wpAny_pyIter_list il (wpAny_bind (wpAny_runValue ?_))
    have ls : l < s.heap.objs.size := Heap.lt_size ol
    have sz1 : (s.heap.push (freshSet led)).objs.size = s.heap.objs.size + 1 := Heap.size_push ..
    have calm3 : A.in1.in1.in1.handled = none := by simp [calm]
    have ln : l ≠ (s.heap.push (freshSet led)).objs.size := by rw [sz1]; exact Nat.ne_of_lt (Nat.lt_succ_of_lt ls)
    have off : s.heap.objs.size ∉ [(s.heap.push (freshSet led)).objs.size, l] := by
      rw [sz1]
      intro z
      rcases List.mem_cons.mp z with z | z
      · omega
      · exact Nat.ne_of_gt ls (List.mem_singleton.mp z)
    have hsz : xs.length = vs.size := by rw [← StrsAre.len_eq hi, Array.length_toList]
    have item : ∀ (i : Nat) (v : Value), vs[i]? = some v → ∃ x t, xs[i]? = some x ∧ v = .str x t := fun i v hv => by
      obtain ⟨t, rfl⟩ := SS.strs_at hi i v (by rw [Array.getElem?_toList]; exact hv)
      have il : i < xs.length := by
        rw [hsz]
        exact (Array.getElem?_eq_some_iff.mp hv).1
      refine ⟨_, t, List.getElem?_eq_getElem il, ?_⟩
      rw [List.getD_eq_getElem?_getD, List.getElem?_eq_getElem il]
      rfl
    refine addStrs ((Walks.list calm3 _ l ln vs).toS) s.heap.objs.size off xs hsz (by rw [← hsz]; exact few) item vs.size 0 _ (Nat.zero_add _) ⟨⟨_, Heap.get?_push_size _ rfl, rfl, rfl⟩, il.push _⟩ ?first fun s5 mv q5 => ?_
    case first =>
      have at0 : ((s.heap.push (freshSet led)).push { cls := .type "list_iterator", data := .fields #[.ref l, .int 0 0] }).get? s.heap.objs.size = some (freshSet led) := Heap.get?_push_of_some _ new
      exact SetOf_congr ((setObjOf_fresh (knd := PySem.strKind prog w) led).setOf at0 (by unfold scanBound; omega)) (fun _ => rfl) rfl
    · obtain ⟨h5, g5, d5, t5, os5⟩ := s5
      have eg : g5 = s.gens := mv.gens
      have ed : d5 = s.drawn := mv.drawn
      have eo : os5 = s.os := mv.os
      subst eg
      subst ed
      subst eo
      refine wpAny_pure ?_
      show wpAny _ _ (ret Value.none) _ _ _
      refine wpAny_pure ⟨rfl, h5, t5, rfl, q5, fun b o hb e => mv.heap b o (fun z => ?_) (Heap.get?_push_of_some _ (Heap.get?_push_of_some _ e))⟩
      rcases List.mem_cons.mp z with z | z
      · exact absurd z (Nat.ne_of_lt hb)
      · have q := List.mem_singleton.mp z
        rw [sz1] at q
        exact absurd q (Nat.ne_of_lt (Nat.lt_succ_of_lt hb))
  · rcases r2 with e | (v | _ | _ | _)
    · exact hr2
    · exact hr2.elim
    · exact hr2.elim
    · exact hr2.elim
    obtain ⟨rfl, h2, tk, rfl, q2, k2⟩ := hr2
    repeat (any_goals (first | assumption | wp_step))
    exact h _ _ q2 k2
end
/-- len(set(xs)), xs a list of texts -/
def tLenSetN (K : PySem.W.Frag) (ta : TE) : TE := fun σ H Q => ta σ H fun x H1 => ∃ (l : Addr) (xs : List Str), x = .ref l ∧ SqL K H1 l (xs.map V.str) ∧ xs.length < 1000 ∧ Q (.int (dd xs).length) H1
section
variable {X : Cx}
theorem pe_lenSetN {a : Expr} {ta : TE} {p p2 q pos : Pos} (hc : X.calm = true) (hg : Gl X "len") (hm : X.mg "len" = none) (hg2 : Gl X "set") (hm2 : X.mg "set" = none) (ha : PE X a ta)
    (na : starEach [a] X.env = (false, eval a X.env) :: starEach [] X.env := by rfl) : PE X (.Call (.Name "len" p) [.Call (.Name "set" p2) [a] [] q] [] pos) (tLenSetN X.K ta) := by
  refine ⟨fun pins s σ H Q I h => Call_ (ld_blt I hg hm boot_len (PyProof.Rows.callWith_builtin1 (PyProof.Rows.args_cons ?_ rfl) rfl rfl))⟩
  refine Call_ (ld_blt I hg2 hm2 boot_set (PyProof.Rows.callWith_type1 (PyProof.Rows.args_cons (thn (ha.run pins s σ H _ I h) fun v s1 ⟨x, H1, I1, r1, q1⟩ => PyProof.Rows.args_nil ?_) na) na rfl))
  obtain ⟨l, xs, rfl, hq, few, q1⟩ := q1
  cases r1
  obtain ⟨its, r, pl, hz⟩ := I1.list hq
  refine set_strs (I1.ok.hd hc) pl.isList (by simpa using strsAre_of r) few fun h2 tk S k => PyProof.Rows.args_nil ?_
  obtain ⟨o, es, ep, t, ho, hex, hd, _, _, _, hf, hn⟩ := S
  have I2 : Inv X pins σ H1 { s1 with heap := h2, toks := tk } := I1.kept fun b o e => k b o (Heap.lt_size e) e
  have le := (dd_facts xs).2.2
  exact call_len_set ho hex hd hf (by rw [hn]; omega) ⟨.int (dd xs).length, H1, I2.tok _, ⟨_, by rw [hn]⟩, q1⟩
end
end Lx
set_option Elab.async false
set_option linter.all false
set_option maxRecDepth 100000
set_option maxHeartbeats 2000000
/-! == of two dicts whose values are plain data -/
namespace Lx
open PySem PySem.Spec PyProof.Rows L2
def lookK (es : List (Key × PyData)) (k : Key) : Option PyData := match es with
  | [] => none
  | (q, d) :: r => if q = k then some d else lookK r k
def eqvD (ds es : List (Key × PyData)) : Bool := ds.length == es.length && ds.all fun p => match lookK es p.1 with
  | some e => PyData.eqv p.2 e
  | none => false
def rEqDD (K : PySem.W.Frag) (neg : Bool) : R2 := fun x y H Q => ∃ (a b : Addr) (ks ls : List (Key × V)) (ds es : List (Key × PyData)), x = .ref a ∧ y = .ref b ∧ H a = some (.dK ks) ∧ H b = some (.dK ls) ∧
  ks.map Prod.fst = ds.map Prod.fst ∧ DpAll K H (ks.map Prod.snd) (ds.map Prod.snd) ∧ ls.map Prod.fst = es.map Prod.fst ∧ DpAll K H (ls.map Prod.snd) (es.map Prod.snd) ∧
  (∀ p ∈ ds, SeqAt.shaped p.2 = true) ∧ (∀ p ∈ es, SeqAt.shaped p.2 = true) ∧ Q (.bl (if neg then !eqvD ds es else eqvD ds es)) H
theorem lookK_val {K : PySem.W.Frag} {H : Hp} {k : Key} : ∀ {ls : List (Key × V)} {es : List (Key × PyData)}, ls.map Prod.fst = es.map Prod.fst → DpAll K H (ls.map Prod.snd) (es.map Prod.snd) →
    (valV ls k = none ∧ lookK es k = none) ∨ ∃ v e, valV ls k = some v ∧ lookK es k = some e ∧ Dp K H v e ∧ ∃ q, (q, e) ∈ es
  | [], [], _, _ => .inl ⟨rfl, rfl⟩
  | [], _ :: _, h, _ => by cases h
  | _ :: _, [], h, _ => by cases h
  | (k1, v1) :: ls, (k2, e2) :: es, h, d => by
    simp only [List.map_cons, List.cons.injEq] at h
    obtain ⟨h1, h2⟩ := h
    subst h1
    simp only [List.map_cons] at d
    cases d with
    | cons d1 d2 =>
      by_cases e : k1 = k
      · refine .inr ⟨v1, e2, ?_, ?_, d1, k1, List.mem_cons_self⟩
        · simp [valV, e]
        · simp [lookK, e]
      · rcases lookK_val (k := k) h2 d2 with ⟨q1, q2⟩ | ⟨v, e', q1, q2, q3, q, q4⟩
        · refine .inl ⟨?_, ?_⟩
          · simpa [valV, e] using q1
          · simpa [lookK, e] using q2
        · refine .inr ⟨v, e', ?_, ?_, q3, q, List.mem_cons_of_mem _ q4⟩
          · simpa [valV, e] using q1
          · simpa [lookK, e] using q2
section
variable {X : Cx} {pins : List (Addr × Obj)} {σ : L2.St} {H : Hp} {s : Shared}
theorem hitsD {A : Around} (I : Inv X pins σ H s) (hu : A.units + 64 < cLine) {ls : List (Key × V)} {es : List (Key × PyData)} {vb : List (Key × Value)} (rb : KV ls vb) (he : ls.map Prod.fst = es.map Prod.fst) (de : DpAll X.K H (ls.map Prod.snd) (es.map Prod.snd)) (se : ∀ p ∈ es, SeqAt.shaped p.2 = true) :
    ∀ {ks : List (Key × V)} {va : List (Key × Value)} {ds : List (Key × PyData)}, KV ks va → ks.map Prod.fst = ds.map Prod.fst → DpAll X.K H (ks.map Prod.snd) (ds.map Prod.snd) → (∀ p ∈ ds, SeqAt.shaped p.2 = true) →
      PySem.W.KeqHits A s vb va (ds.all fun p => match lookK es p.1 with | some e => PyData.eqv p.2 e | none => false) := by
  intro ks va ds ra
  unfold KV at ra
  induction ra generalizing ds with
  | nil =>
    intro e _ _
    cases ds with
    | nil => exact .nil
    | cons _ _ => cases e
  | @cons p q ps qs h t ih =>
    intro e dd sd
    cases ds with
    | nil => cases e
    | cons z ds =>
      obtain ⟨zk, zd⟩ := z
      obtain ⟨pk, pv⟩ := p
      obtain ⟨k, v⟩ := q
      simp only [List.map_cons, List.cons.injEq] at e
      obtain ⟨e1, e2⟩ := e
      subst e1
      simp only [List.map_cons] at dd
      obtain ⟨h1, h2⟩ := h
      have h1' : pk = k := h1
      subst h1'
      have h2' : RelV pv v := h2
      cases dd with
      | cons d1 d2 =>
        have ihh := ih e2 d2 fun p m => sd p (List.mem_cons_of_mem _ m)
        have rv := rb.val pk
        rcases lookK_val (k := pk) he de with ⟨q1, q2⟩ | ⟨y, e', q1, q2, q3, kk, q4⟩
        · rw [q1] at rv
          have hn : valueAt vb pk = none := by
            cases hz : valueAt vb pk with
            | none => rfl
            | some u => rw [hz] at rv; exact rv.elim
          rw [List.all_cons, q2]
          exact .miss hn
        · rw [q1] at rv
          obtain ⟨u, hz, ru⟩ := rv.some_of
          rw [List.all_cons, q2]
          obtain ⟨as, r1⟩ := Dp.reads I zd pv v d1 h2'
          obtain ⟨bs, r2⟩ := Dp.reads I e' y u q3 ru
          have s1 := sd _ List.mem_cons_self
          have s2 := se _ q4
          exact .hit hz (SeqAt.eqAt_reads zd e' A s v u as bs r1 r2 (SeqAt.canLay_of_shaped s1) (SeqAt.canLay_of_shaped s2) (SeqAt.room_of_shaped s1 hu)) ihh
theorem op_eqDD (hu : X.A.units + 65 < cLine) : OpR X (compareOp .Eq) (rEqDD X.K false) := by
  intro pins s σ H x y v u Q I rx ry h
  obtain ⟨a, b, ks, ls, ds, es, rfl, rfl, ea, eb, h1, h2, h3, h4, h5, h6, q⟩ := h
  obtain rfl : v = Value.ref a := rx
  obtain rfl : u = Value.ref b := ry
  obtain ⟨_, ya, va, ra, da⟩ := (show ObjOk X.prog X.w H s.heap a (.dK ks) from I.hok a _ ea)
  obtain ⟨_, yb, vb, rb, db⟩ := (show ObjOk X.prog X.w H s.heap b (.dK ls) from I.hok b _ eb)
  have l1 : va.length = ds.length := by rw [← ra.length, ← List.length_map (as := ks) (f := Prod.fst), h1, List.length_map]
  have l2 : vb.length = es.length := by rw [← rb.length, ← List.length_map (as := ls) (f := Prod.fst), h3, List.length_map]
  have hits := hitsD (A := X.A.in1) I (show X.A.units + 1 + 64 < cLine by omega) rb h3 h4 h6 ra h1 h2 h5
  refine PySem.W.keq_eq (knd := mixKind X.prog X.w) ya yb da db (by omega) (fun _ => hits) ?_
  rw [l1, l2]
  exact fin_bl I q rfl
end
end Lx
set_option Elab.async false
set_option linter.all false
set_option maxRecDepth 100000
set_option maxHeartbeats 3200000
/-! {k: v for a in xs for b in ys}: a dict comprehension with two sources, no ifs -/
namespace Lx
open PySem PySem.Spec PyProof.Rows L2
/-- a turn of a comprehension's loop, its deed left open -/
def turnOf (t i : Expr) (deed : Sem Unit) (e : Expr) (d : Nat) (it acc : Value) (env : Env) : Sem PySem.Fin := do
  standAt i.pos
  match ← pyNext it with
  | none => pure (.done .next)
  | some v =>
    letOwnedTupleGo t it v
    assign t env v
    deed
    again (.compLoop e d it acc env)
theorem loop_of {prog : Program} {w : World} {A : Around} {R : Result → Shared → Prop} {e t i : Expr} {d : Nat} {it acc : Value} {env : Env} {deed : Sem Unit} (hf : (Code.compLoop e d it acc env).isFrame = false) (hu : A.under (.compLoop e d it acc env) = A) (eq : compTurn e d it acc env = turnOf t i deed e d it acc env) (I : Nat → Shared → Prop)
    (turn : ∀ n s, I n s → wpAny (model prog w) A (pyNext it) (fun r s1 => match r with
      | none => R (.ok .next) s1
      | some v => wpAny (model prog w) A (letOwnedTupleGo t it v) (fun _ s2 => wpAny (model prog w) A (assign t env v) (fun _ s3 => wpAny (model prog w) A deed (fun _ s4 => ∃ m, m < n ∧ I m s4) (fun _ _ => False) s3) (fun _ _ => False) s2) (fun _ _ => False) s1) (fun _ _ => False) s)
    {n : Nat} {s : Shared} (h : I n s) : codeAny (model prog w) A (.compLoop e d it acc env) R s := by
  refine codeAny_loop rfl I (fun n s hI => ?_) n h
  rw [hu]
  show wpAny _ A (if (Code.compLoop e d it acc env).isFrame = true then (compTurn e d it acc env).onRaise (leaving env) else (compTurn e d it acc env).onRaise (fun x => do noteFrame x env; theTreesLotGoes x)) _ _ s
  rw [hf]
  refine wpAny_noted ?_
  rw [eq]
  unfold turnOf
  refine wpAny_bind (wpAny_standAt (wpAny_bind (wpAny_mono (turn n s hI) (fun r s1 h1 => ?_) fun _ _ z => z.elim)))
  cases r with
  | none => exact wpAny_pure h1
  | some v => exact wpAny_bind (wpAny_mono h1 (fun _ s2 h2 => wpAny_bind (wpAny_mono h2 (fun _ s3 h3 => wpAny_bind (wpAny_mono h3 (fun _ s4 h4 => wpAny_pure ⟨rfl, h4⟩) fun _ _ z => z.elim)) fun _ _ z => z.elim)) fun _ _ z => z.elim)
/-- σ2 knows what σb knows -/
def Kp (σb σ2 : L2.St) : Prop := σb.length = σ2.length ∧ ∀ (j : Nat) (v : V), σb[j]? = some (some v) → σ2[j]? = some (some v)
theorem Kp.wipe {σb σ2 : L2.St} {vs : List Nat} (e : L2.wipe σ2 vs = σb) : Kp σb σ2 := ⟨by rw [← e, wipe_length], fun j v h => by
  rw [← e] at h
  exact (wipe_some h).1⟩
/-- a comprehension's loop in its block -/
theorem walkLoop {X : Cx} {J : It} {fp : List Addr} {it : Addr} {tn : Nat → Heap → Prop} {t i : Expr} {g : TG} {e : Expr} {d : Nat} {acc : Value} {deed : Sem Unit} {pins : List (Addr × Obj)} {σb : L2.St} {R : Result → Shared → Prop}
    (T : Turn X.prog X.w X.K t J fp it tn) (hc : X.calm = true) (hxe : X.xe = fun _ _ => False) (hf : (Code.compLoop e d (.ref it) acc X.env).isFrame = false) (hu : X.A.under (.compLoop e d (.ref it) acc X.env) = X.A) (eq : compTurn e d (.ref it) acc X.env = turnOf t i deed e d (.ref it) acc X.env)
    (stat : ∀ {σ' : L2.St} {H' : Hp} {s' : Shared}, Inv X pins σ' H' s' → (∀ b ∈ fp, H' b = none) → ∀ b ∈ fp, FpOk X pins H' b) (pg : PG X t g) (W : Nat → Nat → Hp → Prop) (Fin : Hp → Prop) (rd : L2.St → Hp → (Hp → Prop) → Prop) (kq : L2.St → Prop) (kqk : ∀ σ2, kq σ2 → Kp σb σ2)
    (step : ∀ i m H, W i m H → (J.stop i H ∧ Fin H) ∨ (J.go i H ∧ ∃ Nx : Hp → Prop, (∀ H', Nx H' → ∃ m', m' < m ∧ W (i + 1) m' H') ∧ ∀ x H', J.yld i H x H' → g x σb H' fun σ2 H2 => kq σ2 ∧ rd σ2 H2 Nx))
    (act : ∀ (ps : List (Addr × Obj)) (s : Shared) (σ2 : L2.St) (H2 : Hp) (Nx : Hp → Prop), Inv X (pins ++ ps) σ2 H2 s → Kp σb σ2 → rd σ2 H2 Nx → wpAny (model X.prog X.w) X.A deed (fun _ s' => ∃ σ' H', Inv X (pins ++ ps) σ' H' s' ∧ Kp σb σ' ∧ Nx H') (fun _ _ => False) s)
    (fin : ∀ s H, Inv X pins σb H s → Fin H → R (.ok .next) s) {m0 : Nat} {H0 : Hp} {s : Shared} (I : Inv X pins σb H0 s) (st : tn 0 s.heap) (nf : ∀ b ∈ fp, H0 b = none) (w0 : W 0 m0 H0) :
    codeAny (model X.prog X.w) X.A (.compLoop e d (.ref it) acc X.env) R s := by
  refine loop_of hf hu eq (fun m s' => ∃ i H', Inv X pins σb H' s' ∧ tn i s'.heap ∧ (∀ b ∈ fp, H' b = none) ∧ W i m H') ?_ ⟨0, H0, I, st, nf, w0⟩
  rintro m s1 ⟨k, H1, I1, st1, n1, w1⟩
  rcases step k m H1 w1 with ⟨stop, q⟩ | ⟨go, Nx, hNx, turn⟩
  · refine thnF (T.done X rfl rfl rfl hc k pins s1 σb H1 (fun _ _ => False) I1 (stat I1 n1) st1 stop) fun r s2 ⟨e, I2⟩ => ?_
    subst e
    exact fin s2 H1 I2 q
  · refine thnF (T.item X rfl rfl rfl hc k pins s1 σb H1 (fun _ _ => False) I1 (stat I1 n1) st1 go) fun r s2 ⟨u, e, h2⟩ => ?_
    subst e
    refine thnF h2 fun _ s3 ⟨x, H3, I3, r3, y3, st3, n3⟩ => ?_
    have I3' := I3.pinned (stat I3 n3) (T.obj _ _ st3)
    have a := pg.run _ s3 σb H3 x u _ I3' r3 (turn x H3 y3)
    rw [hxe] at a
    refine thnF a fun _ s4 ⟨σ4, H4, I4, kp0, q4⟩ => ?_
    have kp := kqk σ4 kp0
    refine thnF (act _ s4 σ4 H4 Nx I4 kp q4) fun _ s5 ⟨σ5, H5, I5, kp5, nx⟩ => ?_
    obtain ⟨m', hm, w'⟩ := hNx H5 nx
    have still : ∀ b ∈ fp, ∀ o, s3.heap.get? b = some o → s5.heap.get? b = some o ∧ H5 b = none := fun b hb o eb =>
      have z := I5.pin (b, o) (List.mem_append_right _ (List.mem_append_right _ (mem_pinsAt hb eb)))
      ⟨z.1, z.2.1⟩
    refine ⟨m', hm, k + 1, H5, I5.unpinned.weak kp5.1 kp5.2, T.keep _ _ _ st3 fun b hb o eb => (still b hb o eb).1, fun b hb => ?_, w'⟩
    obtain ⟨o, eb, _⟩ := T.obj _ _ st3 b hb
    exact (still b hb o eb).2
section
variable {kx vx t0 i0 t1 i1 : Expr} {scope : Scope} {pos : Pos} {D : Addr} {it : Value} {env : Env}
abbrev two (kx vx t0 i0 t1 i1 : Expr) (scope : Scope) (pos : Pos) : Expr := .DictComp kx vx [⟨t0, i0, [], 0⟩, ⟨t1, i1, [], 0⟩] scope pos
def deedIn (kx vx : Expr) (D : Addr) (env : Env) : Sem Unit := do
  let kv ← eval kx env
  let vv ← holding [kv] (eval vx env)
  standAt { kx.pos with endLine := vx.pos.endLine, endCol := vx.pos.endCol }
  holding [kv, vv] (dictSet D kv vv)
def deedOut (e i1 : Expr) (D : Addr) (env : Env) : Sem Unit := do
  let x ← eval i1 env
  standAt i1.pos
  let x ← foldedSetIterable i1 env x
  let _ ← runOwn (.compStart e 1 (← holding [x] (pyIter x)) (.ref D) env) env
theorem turn_in : compTurn (two kx vx t0 i0 t1 i1 scope pos) 1 it (.ref D) env = turnOf t1 i1 (deedIn kx vx D env) (two kx vx t0 i0 t1 i1 scope pos) 1 it (.ref D) env := by
  unfold turnOf deedIn
  simp only [bind_assoc]
  first | rfl | (unfold compTurn; simp; rfl)
theorem turn_out : compTurn (two kx vx t0 i0 t1 i1 scope pos) 0 it (.ref D) env = turnOf t0 i0 (deedOut (two kx vx t0 i0 t1 i1 scope pos) i1 D env) (two kx vx t0 i0 t1 i1 scope pos) 0 it (.ref D) env := by
  unfold turnOf deedOut
  simp only [bind_assoc]
  first | rfl | (unfold compTurn; simp)
end
/-- {k: v for a in xs for b in ys}: D the new dict; vs the block's names, vs1 those of the second target -/
def tDc2 (wi : TI) (g : TG) (wi1 : TI) (g1 : TG) (tk tv : TE) (vs vs1 : List Nat) : TE := fun σ H Q => wi σ H fun J H1 => ∀ D, H1 D = none → ∃ W : Nat → Nat → Hp → Prop, (∃ m, W 0 m (upd H1 D (.dK []))) ∧ ∀ i m H, W i m H →
  (J.stop i H ∧ Q (.ref D) H) ∨ (J.go i H ∧ ∃ Nx : Hp → Prop, (∀ H', Nx H' → ∃ m', m' < m ∧ W (i + 1) m' H') ∧ ∀ x H', J.yld i H x H' → g x (wipe σ vs) H' fun σ2 H2 => wipe σ2 vs = wipe σ vs ∧
    wi1 σ2 H2 fun J1 H4 => ∃ W1 : Nat → Nat → Hp → Prop, (∃ m, W1 0 m H4) ∧ ∀ j k H, W1 j k H →
      (J1.stop j H ∧ Nx H) ∨ (J1.go j H ∧ ∃ Nx1 : Hp → Prop, (∀ H', Nx1 H' → ∃ k', k' < k ∧ W1 (j + 1) k' H') ∧ ∀ x H', J1.yld j H x H' → g1 x (wipe σ2 vs1) H' fun σ3 H5 => wipe σ3 vs1 = wipe σ2 vs1 ∧
        tk σ3 H5 fun y H6 => tv σ3 H6 fun z H7 => ∃ kvs k, y = kV k ∧ H7 D = some (.dK kvs) ∧ kvs.length < sizeLine ∧ Nx1 (upd H7 D (.dK (putK kvs k z)))))
section
variable {X : Cx} {kx vx t0 i0 t1 i1 : Expr} {scope : Scope} {own : List (Str × Nat)} {vs1 : List Nat} {pos pos' : Pos} {wi wi1 : TI} {g g1 : TG} {tk tv : TE}
theorem isFrame0 {it acc : Value} {env : Env} {d : Nat} : (Code.compLoop (two kx vx t0 i0 t1 i1 scope pos) d it acc env).isFrame = false := rfl
theorem under0 {A : Around} {it acc : Value} {env : Env} {d : Nat} : A.under (Code.compLoop (two kx vx t0 i0 t1 i1 scope pos) d it acc env) = A := rfl
abbrev InBlk (X : Cx) (scope : Scope) (p : Cx → Prop) : Prop := ∀ (s : Shared) (H : Hp) (C : Addr) (cl : List (Str × Addr)) (fp : List Addr), p (X.blk s H scope (compEnvC scope cl C X.env) fp)
/-- the second clause's start -/
theorem start1 {M : Program} {w : World} {A : Around} {R : Result → Shared → Prop} {s : Shared} {it acc : Value} {env : Env} (h0 : codeAny (model M w) A (.compLoop (two kx vx t0 i0 t1 i1 scope pos) 1 it acc env) R s)
    (h : wpAny (model M w) A (pyIter it) (fun it' s' => codeAny (model M w) A (.compLoop (two kx vx t0 i0 t1 i1 scope pos) 1 it' acc env) R s') (fun _ _ => False) s) : codeAny (model M w) A (.compStart (two kx vx t0 i0 t1 i1 scope pos) 1 it acc env) R s := by
  refine codeAny_of_tree ?_
  show wpAny _ _ ((compStart (two kx vx t0 i0 t1 i1 scope pos) 1 it acc env).onRaise (fun x => do noteFrame x env; standAt theWindowsPlace)) _ _ s
  refine wpAny_notedAt ?_
  unfold compStart
  show wpAny _ _ (ask >>= _) _ _ s
  refine wpAny_bind (wpAny_askSetting (wpAny_ite ?_))
  split
  · first
      | exact wpAny_bind (wpAny_pure (wpAny_pure (And.intro rfl h0)))
      | exact wpAny_pure (And.intro rfl h0)
  · first
      | exact wpAny_bind (wpAny_rule (wpAny_bind (wpAny_standAt (wpAny_bind (wpAny_mono h (fun it' s' z => wpAny_pure (And.intro rfl z)) fun _ _ z => z.elim)))))
      | (refine wpAny_bind (wpAny_rule ?_); show wpAny _ _ (standAt i1.pos >>= _) _ _ s; exact wpAny_bind (wpAny_standAt (wpAny_bind (wpAny_mono h (fun it' s' z => wpAny_pure (And.intro rfl z)) fun _ _ z => z.elim))))
/-- the inner loop, as the outer one's deed -/
theorem deed_ok {Xb : Cx} (hc : Xb.calm = true) (hxe : Xb.xe = fun _ _ => False) {psb : List (Addr × Obj)} {σb : L2.St} {D : Addr} (pi1 : PI Xb t1 i1 wi1) (pg1 : PG Xb t1 g1) (pk : PE Xb kx tk) (pv : PE Xb vx tv) (hs1 : ∀ env x, foldedSetIterable i1 env x = pure x)
    (hv : ∀ (σ2 : L2.St), Kp σb σ2 → Kp σb (wipe σ2 vs1)) (s : Shared) (σ2 : L2.St) (H2 : Hp) (Nx : Hp → Prop) (I : Inv Xb psb σ2 H2 s) (kp : Kp σb σ2)
    (rd : wi1 σ2 H2 fun J1 H4 => ∃ W1 : Nat → Nat → Hp → Prop, (∃ m, W1 0 m H4) ∧ ∀ j k H, W1 j k H →
      (J1.stop j H ∧ Nx H) ∨ (J1.go j H ∧ ∃ Nx1 : Hp → Prop, (∀ H', Nx1 H' → ∃ k', k' < k ∧ W1 (j + 1) k' H') ∧ ∀ x H', J1.yld j H x H' → g1 x (wipe σ2 vs1) H' fun σ3 H5 => wipe σ3 vs1 = wipe σ2 vs1 ∧
        tk σ3 H5 fun y H6 => tv σ3 H6 fun z H7 => ∃ kvs k, y = kV k ∧ H7 D = some (.dK kvs) ∧ kvs.length < sizeLine ∧ Nx1 (upd H7 D (.dK (putK kvs k z))))) :
    wpAny (model Xb.prog Xb.w) Xb.A (deedOut (two kx vx t0 i0 t1 i1 scope pos) i1 D Xb.env) (fun _ s' => ∃ σ' H', Inv Xb psb σ' H' s' ∧ Kp σb σ' ∧ Nx H') (fun _ _ => False) s := by
  have a := pi1.run psb s σ2 H2 _ I rd
  rw [hxe] at a
  unfold deedOut
  refine wpAny_bind (thnF a fun xv s1 h1 => wpAny_bind (wpAny_standAt ?_))
  rw [hs1]
  refine wpAny_bind (wpAny_pure (wpAny_bind (wpAny_holding (thnF h1 fun itv s2 h2 => ?_))))
  obtain ⟨it1, fp1, tn1, J1, H4, e, I4, T1, st4, f4, W1, ⟨m1, w1⟩, turn1⟩ := h2
  subst e
  have stat : ∀ {σ' : L2.St} {H' : Hp} {s' : Shared}, Inv Xb psb σ' H' s' → (∀ b ∈ fp1, H' b = none) → ∀ b ∈ fp1, FpOk Xb psb H' b := fun _ hn b hb => ⟨hn b hb, (f4 b hb).2⟩
  have loop : codeAny (model Xb.prog Xb.w) Xb.A (.compLoop (two kx vx t0 i0 t1 i1 scope pos) 1 (.ref it1) (.ref D) Xb.env) (fun r s' => match r with
      | .ok _ => ∃ σ' H', Inv Xb psb σ' H' s' ∧ Kp σb σ' ∧ Nx H'
      | .error _ => False) s2 := by
    refine walkLoop T1 hc hxe isFrame0 under0 turn_in stat pg1 W1 Nx (fun σ3 H5 Nx1 => tk σ3 H5 fun y H6 => tv σ3 H6 fun z H7 => ∃ kvs k, y = kV k ∧ H7 D = some (.dK kvs) ∧ kvs.length < sizeLine ∧ Nx1 (upd H7 D (.dK (putK kvs k z)))) (fun σ3 => wipe σ3 vs1 = wipe σ2 vs1) (fun σ3 e => Kp.wipe e) (σb := wipe σ2 vs1) (fun j k H w => turn1 j k H w) ?_ ?_ (I4.weak (wipe_length _ _) fun j v e => (wipe_some e).1) st4 (fun b hb => (f4 b hb).1) w1
    · intro ps s3 σ3 H5 Nx1 I5 kp5 rd5
      have b1 := pk.run (psb ++ ps) s3 σ3 H5 _ I5 rd5
      rw [hxe] at b1
      unfold deedIn
      refine wpAny_bind (thnF b1 fun kv s4 ⟨yk, H6, I6, r6, q6⟩ => ?_)
      have b2 := pv.run (psb ++ ps) s4 σ3 H6 _ I6 q6
      rw [hxe] at b2
      refine wpAny_bind (wpAny_holding (thnF b2 fun vv s5 ⟨yv, H7, I7, r7, kvs, k, ek, hD, hz, nx⟩ => ?_))
      subst ek
      refine wpAny_bind (wpAny_standAt (wpAny_holding ?_))
      exact d_dictSet (X := Xb) I7 hD hz r6 r7 fun s6 I8 => ⟨σ3, _, I8, kp5, nx⟩
    · intro s3 H5 I5 nx
      exact ⟨wipe σ2 vs1, H5, I5, hv σ2 kp, nx⟩
  refine wpAny_bind (wpAny_runOwn ?_)
  rw [Around.mark_none]
  refine codeAny_mono (start1 loop (T1.self Xb.A 0 _ _ _ st4 loop)) fun r s' hr => ?_
  cases r with
  | ok f => exact wpAny_pure hr
  | error e => exact hr.elim
theorem pe_dc2 (hc : X.calm = true) (hN : X.N.Nodup) (hi : PI X t0 i0 wi) (ok : BlkOk X.N X.env.scope scope own) (hv : ∀ i ∈ vs1, i ∈ own.map (·.2)) (hg : InBlk X scope fun Y => PG Y t0 g) (hi1 : InBlk X scope fun Y => PI Y t1 i1 wi1) (hg1 : InBlk X scope fun Y => PG Y t1 g1)
    (hk : InBlk X scope fun Y => PE Y kx tk) (hw : InBlk X scope fun Y => PE Y vx tv) (hs0 : ∀ x, foldedSetIterable i0 X.env x = pure x := by intro _; rfl) (hs1 : ∀ env x, foldedSetIterable i1 env x = pure x := by intro _ _; rfl) :
    PE X (two kx vx t0 i0 t1 i1 scope pos) (tDc2 wi g wi1 g1 tk tv (own.map (·.2)) vs1) := by
  refine ⟨fun pins s σ H Q I rd => ?_⟩
  rw [arm_eval_DictComp]
  have known : ∀ y ∈ scope.names, y.2 = .free → ∃ c, X.env.cells.lookup y.1 = some c := fun y hy e => (ok.free y hy e).elim (fun z => I.ok.has _ (.inl z)) fun z => I.ok.has _ (.inr z)
  refine wpAny_comprehension_free rfl hs0 (closure_ok known) ok.kind (fun y hy e => by rw [ok.uniq y hy, e]) (thn (hi.run pins s σ H _ I rd) fun xv sa ha => thn ha fun itv s2 h2 => ?_)
  obtain ⟨it, fp, tn, J, H2, e, I2, T, st2, f2, q⟩ := h2
  subst e
  refine wpAny_newObj_type (newEnv_comp ?_)
  have nD : H2 s2.heap.objs.size = none := I2.hok.fresh (Nat.le_refl _)
  obtain ⟨W, ⟨m0, w0⟩, turn⟩ := q s2.heap.objs.size nD
  generalize e3 : ({ s2 with heap := s2.heap.push { cls := .type "dict", data := .dict #[] } } : Shared) = s3
  have g3 : s3.heap = s2.heap.push { cls := .type "dict", data := .dict #[] } := by rw [← e3]
  have I3 : Inv X pins σ (upd H2 s2.heap.objs.size (.dK [])) s3 := by
    rw [← e3]
    exact I2.laid (t' := s2.toks) (fun b o z => Heap.get?_push_of_some _ z) (Nat.le_refl _) (dk_empty s2.heap I2.big)
  have f3 : ∀ b ∈ fp, FpOk X pins (upd H2 s2.heap.objs.size (.dK [])) b ∧ b < s3.heap.objs.size := fun b hb => by
    obtain ⟨o, eo, _⟩ := T.obj _ _ st2 b hb
    have lt := Heap.lt_size eo
    obtain ⟨p0, p1⟩ := f2 b hb
    refine ⟨⟨?_, p1⟩, by rw [g3, Heap.size_push]; exact Nat.lt_succ_of_lt lt⟩
    rw [upd_ne (Nat.ne_of_lt lt)]
    exact p0
  have st3 : tn 0 s3.heap := T.keep _ _ _ st2 fun b _ o eo => by rw [g3]; exact Heap.get?_push_of_some _ eo
  have I4 := block_start I3 ok hN f3
  have pg := hg s3 (upd H2 s2.heap.objs.size (.dK [])) s3.heap.objs.size (cellsFrom (s3.heap.objs.size + 1) scope.names (cloFrom X.env.cells scope.names [])) fp
  have pi1 := hi1 s3 (upd H2 s2.heap.objs.size (.dK [])) s3.heap.objs.size (cellsFrom (s3.heap.objs.size + 1) scope.names (cloFrom X.env.cells scope.names [])) fp
  have pg1 := hg1 s3 (upd H2 s2.heap.objs.size (.dK [])) s3.heap.objs.size (cellsFrom (s3.heap.objs.size + 1) scope.names (cloFrom X.env.cells scope.names [])) fp
  have pk := hk s3 (upd H2 s2.heap.objs.size (.dK [])) s3.heap.objs.size (cellsFrom (s3.heap.objs.size + 1) scope.names (cloFrom X.env.cells scope.names [])) fp
  have pv := hw s3 (upd H2 s2.heap.objs.size (.dK [])) s3.heap.objs.size (cellsFrom (s3.heap.objs.size + 1) scope.names (cloFrom X.env.cells scope.names [])) fp
  have g0 : ∀ b ∈ fp, (upd H2 s2.heap.objs.size (.dK [])) b = none := fun b hb => (f3 b hb).1.1
  show codeAny _ _ (.compStart (two kx vx t0 i0 t1 i1 scope pos) 0 (.ref it) (.ref s2.heap.objs.size) (compEnvC scope (cellsFrom (s3.heap.objs.size + 1) scope.names (cloFrom X.env.cells scope.names [])) s3.heap.objs.size X.env)) _ { s3 with heap := pushCells (s3.heap.push { cls := .type "dict", data := .dict #[] }) scope.names }
  generalize s2.heap.objs.size = D at turn w0 I3 I4 pg pi1 pg1 pk pv g0 f3 ⊢
  generalize hce : compEnvC scope (cellsFrom (s3.heap.objs.size + 1) scope.names (cloFrom X.env.cells scope.names [])) s3.heap.objs.size X.env = ce at I4 pg pi1 pg1 pk pv ⊢
  have cL : ce.locals = s3.heap.objs.size := by rw [← hce]; rfl
  generalize hH3 : upd H2 D (.dK []) = H3 at I3 I4 pg pi1 pg1 pk pv w0 g0 f3
  generalize e4 : ({ s3 with heap := pushCells (s3.heap.push { cls := .type "dict", data := .dict #[] }) scope.names } : Shared) = s4 at I4 ⊢
  have st4 : tn 0 s4.heap := T.keep _ _ _ st3 fun b _ o eo => by rw [← e4]; exact pushCells_keeps _ _ _ _ (Heap.get?_push_of_some _ eo)
  let Y : Cx := X.blk s3 H3 scope ce fp
  have loop : codeAny (model Y.prog Y.w) Y.A (.compLoop (two kx vx t0 i0 t1 i1 scope pos) 0 (.ref it) (.ref D) Y.env) (compPost (model X.prog X.w) X.A X.xe none (EP X pins σ Q) (.ref D) s3.heap.objs.size) s4 := by
    refine walkLoop (X := Y) T hc rfl isFrame0 under0 turn_out (fun {σ' H' s'} J' hn b hb => ⟨hn b hb, (J'.ok.exf b hb).1, J'.ok.exfs b hb, .inl hb, fun x c z => (J'.ok.exf b hb).2 x c z, fun p hp => absurd (show p ∈ ([] : List (Addr × Obj)) ++ [] from hp) (by simp)⟩) pg W (fun H' => Q (.ref D) H')
      (fun σ2 H4 Nx => wi1 σ2 H4 fun J1 H5 => ∃ W1 : Nat → Nat → Hp → Prop, (∃ m, W1 0 m H5) ∧ ∀ j k H, W1 j k H →
        (J1.stop j H ∧ Nx H) ∨ (J1.go j H ∧ ∃ Nx1 : Hp → Prop, (∀ H', Nx1 H' → ∃ k', k' < k ∧ W1 (j + 1) k' H') ∧ ∀ x H', J1.yld j H x H' → g1 x (wipe σ2 vs1) H' fun σ3 H5 => wipe σ3 vs1 = wipe σ2 vs1 ∧
          tk σ3 H5 fun y H6 => tv σ3 H6 fun z H7 => ∃ kvs k, y = kV k ∧ H7 D = some (.dK kvs) ∧ kvs.length < sizeLine ∧ Nx1 (upd H7 D (.dK (putK kvs k z)))))
      (fun σ2 => wipe σ2 (own.map (·.2)) = wipe σ (own.map (·.2))) (fun σ2 z => Kp.wipe z) turn ?_ ?_ I4 st4 g0 w0
    · intro ps s5 σ2 H5 Nx I5 kp rd5
      refine deed_ok (Xb := Y) (σb := wipe σ (own.map (·.2))) hc rfl pi1 pg1 pk pv hs1 (fun σ3 k3 => ⟨by rw [wipe_length σ3]; exact k3.1, fun j v z => ?_⟩) s5 σ2 H5 Nx I5 kp rd5
      have z1 := k3.2 j v z
      rw [wipe_out fun m => (wipe_some z).2 (hv j m)]
      exact z1
    · intro s6 H6 I6 qq
      have I7 : Inv X pins σ H6 s6 := I3.call' (ch := fp) I6.os I6.base I6.hok I6.bare fun b hb => ⟨(f3 b hb).1.2.2.2.1, (f3 b hb).1.2.1, (f3 b hb).1.2.2.2.2.1, (f3 b hb).1.2.2.2.2.2⟩
      have nC : H6 s3.heap.objs.size = none := by
        have z : H6 ce.locals = none := I6.free
        rwa [cL] at z
      obtain ⟨m, hn, _⟩ := I6.loc
      have hn : s6.heap.Ns ce.locals m := hn
      rw [cL] at hn
      refine ⟨m, hn, fun h'' sb => ?_⟩
      obtain ⟨p0, p1, p2, p3, p4, p5⟩ := I3.fpOk (Nat.le_refl _) nC
      exact ⟨.ref D, H6, I7.turned (t' := s6.toks) (fun b o hb z => (sb.2 b hb).trans z) p0 p1 p3 p4 p5, rfl, qq⟩
  exact codeAny_compStart_dict loop (T.self X.A 0 _ _ _ st4 loop)
end
end Lx
set_option Elab.async false
set_option linter.all false
set_option maxRecDepth 100000
set_option maxHeartbeats 2000000
/-! a second layer over HandS's readings: semantic types, slots, no addresses -/
namespace DL
open PySem L2 Lx
/-- what is said of a value in a heap, kept as long as the heap only grows -/
structure Ty where
  ok : V → Hp → Prop
  mono : ∀ {v : V} {H H' : Hp}, Same H H' → ok v H → ok v H'
def TyAll : List Ty → List V → Hp → Prop
  | [], [], _ => True
  | t :: ts, v :: vs, H => t.ok v H ∧ TyAll ts vs H
  | _, _, _ => False
theorem TyAll.mono {H H' : Hp} (s : Same H H') : ∀ {ts : List Ty} {vs : List V}, TyAll ts vs H → TyAll ts vs H'
  | [], [], _ => trivial
  | t :: ts, v :: vs, h => ⟨t.mono s h.1, TyAll.mono s (ts := ts) (vs := vs) h.2⟩
  | [], _ :: _, h => h.elim
  | _ :: _, [], h => h.elim
theorem TyAll.length {H : Hp} : ∀ {ts : List Ty} {vs : List V}, TyAll ts vs H → vs.length = ts.length
  | [], [], _ => rfl
  | t :: ts, v :: vs, h => by rw [List.length_cons, List.length_cons, TyAll.length (ts := ts) (vs := vs) h.2]
  | [], _ :: _, h => h.elim
  | _ :: _, [], h => h.elim
theorem TyAll.get {H : Hp} : ∀ {ts : List Ty} {vs : List V} {i : Nat} {T : Ty}, TyAll ts vs H → ts[i]? = some T → ∃ v, vs[i]? = some v ∧ T.ok v H
  | [], _, i, _, _, e => by simp at e
  | _ :: _, [], _, _, h, _ => h.elim
  | t :: ts, v :: vs, 0, T, h, e => by
    cases e
    exact ⟨v, rfl, h.1⟩
  | t :: ts, v :: vs, i + 1, T, h, e => TyAll.get (ts := ts) (vs := vs) (i := i) h.2 (by simpa using e)
theorem TyAll.got {H : Hp} : ∀ {ts : List Ty} {vs : List V} {i : Nat} {v : V}, TyAll ts vs H → vs[i]? = some v → ∃ T, ts[i]? = some T ∧ T.ok v H
  | _, [], i, _, _, e => by simp at e
  | [], _ :: _, _, _, h, _ => h.elim
  | t :: ts, v :: vs, 0, T, h, e => by
    cases e
    exact ⟨t, rfl, h.1⟩
  | t :: ts, v :: vs, i + 1, T, h, e => TyAll.got (ts := ts) (vs := vs) (i := i) h.2 (by simpa using e)
theorem TyAll.append {H : Hp} : ∀ {ts us : List Ty} {vs ws : List V}, TyAll ts vs H → TyAll us ws H → TyAll (ts ++ us) (vs ++ ws) H
  | [], _, [], _, _, h => h
  | t :: ts, us, v :: vs, ws, h, k => ⟨h.1, TyAll.append (ts := ts) (vs := vs) h.2 k⟩
  | [], _, _ :: _, _, h, _ => h.elim
  | _ :: _, _, [], _, h, _ => h.elim
theorem TyAll.take {H : Hp} : ∀ {ts : List Ty} {vs : List V} (n : Nat), TyAll ts vs H → TyAll (ts.take n) (vs.take n) H
  | _, _, 0, _ => by rw [List.take_zero, List.take_zero]; trivial
  | [], [], n + 1, _ => trivial
  | t :: ts, v :: vs, n + 1, h => ⟨h.1, TyAll.take (ts := ts) (vs := vs) n h.2⟩
  | [], _ :: _, _ + 1, h => h.elim
  | _ :: _, [], _ + 1, h => h.elim
theorem TyAll.drop {H : Hp} : ∀ {ts : List Ty} {vs : List V} (n : Nat), TyAll ts vs H → TyAll (ts.drop n) (vs.drop n) H
  | _, _, 0, h => h
  | [], [], n + 1, _ => trivial
  | t :: ts, v :: vs, n + 1, h => TyAll.drop (ts := ts) (vs := vs) n h.2
  | [], _ :: _, _ + 1, h => h.elim
  | _ :: _, [], _ + 1, h => h.elim
theorem TyAll.set {H : Hp} {T : Ty} {x : V} (hx : T.ok x H) : ∀ {ts : List Ty} {vs : List V} (n : Nat), TyAll ts vs H → TyAll (ts.set n T) (vs.set n x) H
  | [], [], _, _ => trivial
  | t :: ts, v :: vs, 0, h => ⟨hx, h.2⟩
  | t :: ts, v :: vs, n + 1, h => ⟨h.1, TyAll.set hx (ts := ts) (vs := vs) n h.2⟩
  | [], _ :: _, _, h => h.elim
  | _ :: _, [], _, h => h.elim
theorem TyAll.one {H : Hp} {t : Ty} {v : V} (h : t.ok v H) : TyAll [t] [v] H := ⟨h, trivial⟩
theorem TyAll.snoc {H : Hp} {ts : List Ty} {t : Ty} {vs : List V} {v : V} (hs : TyAll ts vs H) (h : t.ok v H) : TyAll (ts ++ [t]) (vs ++ [v]) H := hs.append (.one h)
/-- just the value x -/
def tyV (x : V) : Ty := ⟨fun v _ => v = x, fun _ h => h⟩
abbrev tyS (s : Str) : Ty := tyV (.str s)
abbrev tyI (n : Int) : Ty := tyV (.int n)
abbrev tyB (b : Bool) : Ty := tyV (.bl b)
abbrev tyN : Ty := tyV .non
theorem tyV_ok {x : V} {H : Hp} : (tyV x).ok x H := rfl
def tyL (ts : List Ty) : Ty := ⟨fun v H => ∃ a xs, v = .ref a ∧ H a = some (.lst xs) ∧ TyAll ts xs H, fun s ⟨a, xs, e, h, t⟩ => ⟨a, xs, e, s _ _ h, t.mono s⟩⟩
def tyT (K : PySem.W.Frag) (ts : List Ty) : Ty := ⟨fun v H => ∃ a xs, v = .ref a ∧ SqT K H a xs ∧ TyAll ts xs H, fun s ⟨a, xs, e, h, t⟩ => ⟨a, xs, e, seqT_same s h, t.mono s⟩⟩
/-- a tuple without a dict of its own -/
def tyF (ts : List Ty) : Ty := ⟨fun v H => ∃ a o xs, v = .ref a ∧ H a = some (.frz o (.tup xs)) ∧ o.dict = none ∧ TyAll ts xs H, fun s ⟨a, o, xs, e, h, d, t⟩ => ⟨a, o, xs, e, s _ _ h, d, t.mono s⟩⟩
theorem tyF_T {K : PySem.W.Frag} {ts : List Ty} {v : V} {H : Hp} (h : (tyF ts).ok v H) : (tyT K ts).ok v H := by
  obtain ⟨a, o, xs, rfl, h, _, t⟩ := h
  exact ⟨a, xs, rfl, .inl (.inr ⟨o, h⟩), t⟩
def tyD (kvs : List (Key × Ty)) : Ty := ⟨fun v H => ∃ a ws, v = .ref a ∧ H a = some (.dK ws) ∧ ws.map Prod.fst = kvs.map Prod.fst ∧ TyAll (kvs.map Prod.snd) (ws.map Prod.snd) H, fun s ⟨a, ws, e, h, k, t⟩ => ⟨a, ws, e, s _ _ h, k, t.mono s⟩⟩
def tyO (c : Addr) (fs : List (Str × Ty)) : Ty := ⟨fun v H => ∃ a dx ws, v = .ref a ∧ H a = some (.ins c dx ws) ∧ ws.map Prod.fst = fs.map Prod.fst ∧ TyAll (fs.map Prod.snd) (ws.map Prod.snd) H, fun s ⟨a, dx, ws, e, h, k, t⟩ => ⟨a, dx, ws, e, s _ _ h, k, t.mono s⟩⟩
theorem TyAll.vals {H : Hp} : ∀ {xs vs : List V}, TyAll (xs.map tyV) vs H → vs = xs
  | [], [], _ => rfl
  | x :: xs, v :: vs, h => by
    rw [show v = x from h.1, TyAll.vals (xs := xs) (vs := vs) h.2]
  | [], _ :: _, h => h.elim
  | _ :: _, [], h => h.elim
theorem TyAll.ofVals {H : Hp} : ∀ (xs : List V), TyAll (xs.map tyV) xs H
  | [] => trivial
  | x :: xs => ⟨rfl, TyAll.ofVals xs⟩
theorem TyAll.map {α : Type} {f : α → Ty} {H : Hp} : ∀ {l : List α} {vs : List V}, TyAll (l.map f) vs H → ∀ (i : Nat) (v : V), vs[i]? = some v → ∃ p, l[i]? = some p ∧ (f p).ok v H := fun {l vs} h i v e => by
  obtain ⟨T, e1, e2⟩ := h.got e
  rw [List.getElem?_map] at e1
  cases q : l[i]? with
  | none => rw [q] at e1; cases e1
  | some p =>
    rw [q] at e1
    cases e1
    exact ⟨p, rfl, e2⟩
theorem strs_map (ss : List Str) : ss.map tyS = (ss.map V.str).map tyV := by rw [List.map_map]; rfl
theorem ints_map (ss : List Int) : ss.map tyI = (ss.map V.int).map tyV := by rw [List.map_map]; rfl
theorem bls_map (ss : List Bool) : ss.map tyB = (ss.map V.bl).map tyV := by rw [List.map_map]; rfl
/-! ### slots -/
structure MTy where
  ok : Addr → HO → Hp → Prop
  mono : ∀ {a : Addr} {o : HO} {H H' : Hp}, Same H H' → ok a o H → ok a o H'
def mL (ts : List Ty) : MTy := ⟨fun _ o B => ∃ xs, o = .lst xs ∧ TyAll ts xs B, fun s ⟨xs, e, h⟩ => ⟨xs, e, h.mono s⟩⟩
def mO (c : Addr) (fs : List (Str × Ty)) : MTy := ⟨fun _ o B => ∃ dx ws, o = .ins c dx ws ∧ ws.map Prod.fst = fs.map Prod.fst ∧ TyAll (fs.map Prod.snd) (ws.map Prod.snd) B, fun s ⟨dx, ws, e, k, h⟩ => ⟨dx, ws, e, k, h.mono s⟩⟩
/-- a source of drawn numbers: three ints (of which the one at j counts draws): some k draws are left; j = 0: two ints, of which the second is a remainder -/
def BagOk (j k : Nat) (o : HO) : Prop := match j with
  | 0 => ∃ g x : Int, o = .lst [.int g, .int x] ∧ 0 ≤ x ∧ x < 2 ^ 31
  | 3 => ∃ g x y : Int, o = .lst [.int g, .int x, .int y] ∧ (0 ≤ x ∧ x + k ≤ 2 ^ 30) ∧ 0 ≤ y ∧ y < 2 ^ 62
  | _ => ∃ g x y : Int, o = .lst [.int g, .int x, .int y] ∧ 0 ≤ (if j = 1 then x else y) ∧ (if j = 1 then x else y) + k ≤ 2 ^ 40
theorem BagOk.le {j k m : Nat} {o : HO} (h : BagOk j k o) (e : m ≤ k) : BagOk j m o := by
  have old : ∀ {j : Nat}, (∃ g x y : Int, o = .lst [.int g, .int x, .int y] ∧ 0 ≤ (if j = 1 then x else y) ∧ (if j = 1 then x else y) + k ≤ 2 ^ 40) → ∃ g x y : Int, o = .lst [.int g, .int x, .int y] ∧ 0 ≤ (if j = 1 then x else y) ∧ (if j = 1 then x else y) + m ≤ 2 ^ 40 := fun {j} ⟨g, x, y, h, h0, h1⟩ => ⟨g, x, y, h, h0, by omega⟩
  match j, h with
  | 0, h => exact h
  | 1, h => exact old (j := 1) h
  | 2, h => exact old (j := 2) h
  | 3, h =>
    obtain ⟨g, x, y, h, h0, h1⟩ := h
    exact ⟨g, x, y, h, ⟨h0.1, by have := h0.2; omega⟩, h1⟩
  | j + 4, h => exact old (j := j + 4) h
def mBag (j k : Nat) : MTy := ⟨fun _ o _ => BagOk j k o, fun _ h => h⟩
inductive Slot where
  | no
  | is (T : Ty)
  | own (M : MTy)
  | bag (j k : Nat)
  | me (M : MTy)
def Slot.m : Slot → Option MTy
  | .own M => some M
  | .bag j k => some (mBag j k)
  | .me M => some M
  | _ => none
/-- slots whose content is never another thing -/
def Slot.fix : Slot → Bool
  | .bag _ _ => true
  | .me _ => true
  | _ => false
theorem fix_m {S : Slot} (h : S.fix = true) : S.m ≠ none := by
  cases S <;> first | (cases h; done) | (intro z; cases z)
/-- what a step does: B, the part that stands still, H, all -/
structure Eff (S : List Addr) (B H B' H' : Hp) : Prop where
  bb : Same B B'
  bh : Same B' H'
  fr : ∀ a o, H a = some o → B a = none → B' a = none
  ch : ∀ a o, a ∉ S → H a = some o → H' a = some o
  st : ∀ a o, H a = some o → ∃ o', H' a = some o'
theorem Eff.refl {S : List Addr} {B H : Hp} (s : Same B H) : Eff S B H B H := ⟨fun _ _ h => h, s, fun _ _ _ h => h, fun _ _ _ h => h, fun _ _ h => ⟨_, h⟩⟩
theorem Eff.trans {S : List Addr} {B H B1 H1 B2 H2 : Hp} (x : Eff S B H B1 H1) (y : Eff S B1 H1 B2 H2) : Eff S B H B2 H2 where
  bb := x.bb.trans y.bb
  bh := y.bh
  fr := fun a o h n => by
    obtain ⟨o', h'⟩ := x.st a o h
    exact y.fr a o' h' (x.fr a o h n)
  ch := fun a o n h => y.ch a o n (x.ch a o n h)
  st := fun a o h => by
    obtain ⟨o', h'⟩ := x.st a o h
    exact y.st a o' h'
theorem Eff.mono {S T : List Addr} {B H B' H' : Hp} (x : Eff S B H B' H') (h : ∀ a ∈ S, a ∈ T) : Eff T B H B' H' := ⟨x.bb, x.bh, x.fr, fun a o n => x.ch a o fun z => n (h a z), x.st⟩
theorem Eff.pure {S : List Addr} {B H B' H' : Hp} (x : Eff [] B H B' H') : Eff S B H B' H' := x.mono (by simp)
theorem base_none {B H : Hp} {p : Addr} (s : Same B H) (n : H p = none) : B p = none := Lx.Same.back s n
/-- a new thing that stands still -/
theorem Eff.new {S : List Addr} {B H : Hp} {p : Addr} {o : HO} (s : Same B H) (n : H p = none) : Eff S B H (upd B p o) (upd H p o) where
  bb := Lx.Same.new (base_none s n)
  bh := fun a u h => by
    unfold upd at h ⊢
    split
    · rename_i e
      rw [if_pos e] at h
      exact h
    · rename_i e
      rw [if_neg e] at h
      exact s a u h
  fr := fun a u h e => by
    rw [upd_ne (ne_of_none h n)]
    exact e
  ch := fun a u _ h => Lx.Same.new n a u h
  st := fun a u h => ⟨u, Lx.Same.new n a u h⟩
/-- a new thing that may change -/
theorem Eff.newOwn {S : List Addr} {B H : Hp} {p : Addr} {o : HO} (s : Same B H) (n : H p = none) : Eff S B H B (upd H p o) where
  bb := fun _ _ h => h
  bh := s.trans (Lx.Same.new n)
  fr := fun _ _ _ e => e
  ch := fun a u _ h => Lx.Same.new n a u h
  st := fun a u h => ⟨u, Lx.Same.new n a u h⟩
structure Sat (σ : L2.St) (B H : Hp) (Γ : List Slot) : Prop where
  bh : Same B H
  len : σ.length = Γ.length
  is_ : ∀ (i : Nat) (T : Ty), Γ[i]? = some (.is T) → ∃ v, σ[i]? = some (some v) ∧ T.ok v B
  own : ∀ (i : Nat) (S : Slot) (M : MTy), Γ[i]? = some S → S.m = some M → ∃ a o, σ[i]? = some (some (.ref a)) ∧ H a = some o ∧ B a = none ∧ M.ok a o B
  ap : ∀ (i i' : Nat) (S S' : Slot) (M M' : MTy), i ≠ i' → Γ[i]? = some S → S.m = some M → Γ[i']? = some S' → S'.m = some M' → σ[i]? ≠ σ[i']?
/-- the addresses that slots own -/
def Own (σ : L2.St) (Γ : List Slot) (a : Addr) : Prop := ∃ (i : Nat) (S : Slot) (M : MTy), Γ[i]? = some S ∧ S.m = some M ∧ σ[i]? = some (some (.ref a))
/-- from one state to a later one -/
structure Go (σ : L2.St) (Γ : List Slot) (B H : Hp) (σ' : L2.St) (Γ' : List Slot) (B' H' : Hp) : Prop where
  same : Same B B'
  bh : Same B' H'
  fr : ∀ a o, H a = some o → B a = none → ¬ Own σ Γ a → H' a = some o ∧ B' a = none
  ow : ∀ a, Own σ' Γ' a → Own σ Γ a ∨ H a = none
  bg : ∀ (i : Nat) (S : Slot), Γ'[i]? = some S → S.fix = true → σ'[i]? = σ[i]? ∧ ∃ S0, Γ[i]? = some S0 ∧ S0.fix = true
theorem get_set {α : Type} {l : List α} {i k : Nat} {x y : α} (h : (l.set i x)[k]? = some y) : (k = i ∧ y = x) ∨ (k ≠ i ∧ l[k]? = some y) := by
  by_cases e : i = k
  · subst e
    have hl : i < l.length := by
      have := (List.getElem?_eq_some_iff.mp h).1
      rwa [List.length_set] at this
    rw [List.getElem?_set_self hl] at h
    exact .inl ⟨rfl, (Option.some.inj h).symm⟩
  · rw [List.getElem?_set_ne e] at h
    exact .inr ⟨fun z => e z.symm, h⟩
section
variable {σ σ1 σ2 : L2.St} {B H B' H' B1 H1 B2 H2 : Hp} {Γ Γ1 Γ2 : List Slot}
theorem Go.refl (s : Same B H) : Go σ Γ B H σ Γ B H := ⟨fun _ _ h => h, s, fun _ _ h n _ => ⟨h, n⟩, fun _ h => .inl h, fun _ S h f => ⟨rfl, S, h, f⟩⟩
theorem Go.trans (x : Go σ Γ B H σ1 Γ1 B1 H1) (y : Go σ1 Γ1 B1 H1 σ2 Γ2 B2 H2) : Go σ Γ B H σ2 Γ2 B2 H2 where
  same := x.same.trans y.same
  bh := y.bh
  fr := fun a o h n no => by
    obtain ⟨h1, n1⟩ := x.fr a o h n no
    refine y.fr a o h1 n1 fun z => ?_
    rcases x.ow a z with q | q
    · exact no q
    · rw [q] at h
      cases h
  ow := fun a z => by
    rcases y.ow a z with q | q
    · exact x.ow a q
    · by_cases no : Own σ Γ a
      · exact .inl no
      · refine .inr ?_
        cases e : H a with
        | none => rfl
        | some o =>
          cases eb : B a with
          | some u =>
            have h1 := x.bh a u (x.same a u eb)
            rw [q] at h1
            cases h1
          | none =>
            obtain ⟨h1, _⟩ := x.fr a o e eb no
            rw [h1] at q
            cases q
  bg := fun i S h f => by
    obtain ⟨e, S1, h1, f1⟩ := y.bg i S h f
    obtain ⟨e2, S2, h2⟩ := x.bg i S1 h1 f1
    exact ⟨e.trans e2, S2, h2⟩
theorem Own.of_step {a : Addr} (h : Own σ Γ a) (s : Sat σ B H Γ) : ∃ o, H a = some o ∧ B a = none := by
  obtain ⟨i, S, M, h1, h2, h3⟩ := h
  obtain ⟨a', o, e1, e2, e3, _⟩ := s.own i S M h1 h2
  rw [h3] at e1
  cases e1
  exact ⟨o, e2, e3⟩
/-- a pure step -/
theorem Sat.step (s : Sat σ B H Γ) (e : Eff [] B H B' H') : Sat σ B' H' Γ where
  bh := e.bh
  len := s.len
  is_ := fun i T h => by
    obtain ⟨v, h1, h2⟩ := s.is_ i T h
    exact ⟨v, h1, T.mono e.bb h2⟩
  own := fun i S M h hm => by
    obtain ⟨a, o, h1, h2, h3, h4⟩ := s.own i S M h hm
    exact ⟨a, o, h1, e.ch _ _ (by simp) h2, e.fr _ _ h2 h3, M.mono e.bb h4⟩
  ap := s.ap
theorem Eff.go (e : Eff [] B H B' H') : Go σ Γ B H σ Γ B' H' := ⟨e.bb, e.bh, fun a o h n _ => ⟨e.ch a o (by simp) h, e.fr a o h n⟩, fun _ h => .inl h, fun _ S h f => ⟨rfl, S, h, f⟩⟩
theorem m_is {T : Ty} {M : MTy} (h : (Slot.is T).m = some M) : False := by cases h
theorem m_no {M : MTy} (h : Slot.no.m = some M) : False := by cases h
/-- what a slot's new content must be: no owner -/
theorem Sat.put0 (s : Sat σ B H Γ) {i : Nat} {x : Option V} {S : Slot} (hS : S.m = none) (h : ∀ T, S = .is T → ∃ v, x = some v ∧ T.ok v B) : Sat (σ.set i x) B H (Γ.set i S) where
  bh := s.bh
  len := by rw [List.length_set, List.length_set, s.len]
  is_ := fun k U q => by
    rcases get_set q with ⟨rfl, e⟩ | ⟨ne, q1⟩
    · obtain ⟨v, e1, e2⟩ := h U e.symm
      refine ⟨v, ?_, e2⟩
      have hl : k < σ.length := by
        have := (List.getElem?_eq_some_iff.mp q).1
        rw [List.length_set] at this
        rw [s.len]
        exact this
      rw [List.getElem?_set_self hl, e1]
    · rw [List.getElem?_set_ne (Ne.symm ne)]
      exact s.is_ k U q1
  own := fun k S' M q hm => by
    rcases get_set q with ⟨rfl, e⟩ | ⟨ne, q1⟩
    · rw [e, hS] at hm
      cases hm
    · rw [List.getElem?_set_ne (Ne.symm ne)]
      exact s.own k S' M q1 hm
  ap := fun k k' S1 S2 M M' n q hm q' hm' => by
    rcases get_set q with ⟨_, e⟩ | ⟨ne, q1⟩
    · rw [e, hS] at hm
      cases hm
    rcases get_set q' with ⟨_, e⟩ | ⟨ne', q2⟩
    · rw [e, hS] at hm'
      cases hm'
    rw [List.getElem?_set_ne (Ne.symm ne), List.getElem?_set_ne (Ne.symm ne')]
    exact s.ap k k' S1 S2 M M' n q1 hm q2 hm'
theorem go_put0 (s : Same B H) {i : Nat} {x : Option V} {S : Slot} (hS : S.m = none) : Go σ Γ B H (σ.set i x) (Γ.set i S) B H where
  same := fun _ _ h => h
  bh := s
  fr := fun _ _ h n _ => ⟨h, n⟩
  ow := fun a ⟨k, S', M, h1, h2, h3⟩ => by
    rcases get_set h1 with ⟨_, e⟩ | ⟨ne, q1⟩
    · rw [e, hS] at h2
      cases h2
    · rw [List.getElem?_set_ne (Ne.symm ne)] at h3
      exact .inl ⟨k, S', M, q1, h2, h3⟩
  bg := fun k S' h f => by
    rcases get_set h with ⟨_, e⟩ | ⟨ne, q1⟩
    · rw [e] at f
      exact absurd hS (fix_m f)
    · exact ⟨List.getElem?_set_ne (Ne.symm ne), S', q1, f⟩
theorem Sat.put (s : Sat σ B H Γ) {i : Nat} {v : V} {T : Ty} (h : T.ok v B) : Sat (σ.set i (some v)) B H (Γ.set i (.is T)) := s.put0 rfl fun U e => by
  cases e
  exact ⟨v, rfl, h⟩
/-- less is said of the slots -/
theorem Sat.less (s : Sat σ B H Γ) (hl : Γ1.length = Γ.length) (h : ∀ (i : Nat) (S : Slot), Γ1[i]? = some S → Γ[i]? = some S ∨ S = Slot.no ∨ (∃ T U, S = Slot.is U ∧ Γ[i]? = some (Slot.is T) ∧ ∀ v X, T.ok v X → U.ok v X) ∨ ∃ j k m, S = Slot.bag j k ∧ Γ[i]? = some (Slot.bag j m) ∧ k ≤ m) : Sat σ B H Γ1 where
  bh := s.bh
  len := by rw [s.len, hl]
  is_ := fun i T q => by
    rcases h i _ q with e | e | ⟨T', U, e, e', w⟩ | ⟨_, _, _, e, _⟩
    · exact s.is_ i T e
    · cases e
    · cases e
      obtain ⟨v, h1, h2⟩ := s.is_ i _ e'
      exact ⟨v, h1, w _ _ h2⟩
    · cases e
  own := fun i S M q hm => by
    rcases h i _ q with e | e | ⟨_, _, e, _⟩ | ⟨j, k, m, e, e', w⟩
    · exact s.own i S M e hm
    · subst e
      cases hm
    · subst e
      cases hm
    · subst e
      cases hm
      obtain ⟨a, o, h1, h2, h3, h4⟩ := s.own i _ _ e' rfl
      exact ⟨a, o, h1, h2, h3, BagOk.le h4 w⟩
  ap := fun i i' S S' M M' n q hm q' hm' => by
    have f : ∀ {i : Nat} {S : Slot} {M : MTy}, Γ1[i]? = some S → S.m = some M → ∃ S2 M2, Γ[i]? = some S2 ∧ S2.m = some M2 := fun {i S M} q hm => by
      rcases h i _ q with e | e | ⟨_, _, e, _⟩ | ⟨j, k, m, e, e', w⟩
      · exact ⟨S, M, e, hm⟩
      · subst e
        cases hm
      · subst e
        cases hm
      · exact ⟨_, _, e', rfl⟩
    obtain ⟨S1, M1, q1, m1⟩ := f q hm
    obtain ⟨S2, M2, q2, m2⟩ := f q' hm'
    exact s.ap i i' S1 S2 M1 M2 n q1 m1 q2 m2
theorem go_less (s : Same B H) (h : ∀ (i : Nat) (S : Slot), Γ1[i]? = some S → Γ[i]? = some S ∨ S = Slot.no ∨ (∃ T U, S = Slot.is U ∧ Γ[i]? = some (Slot.is T) ∧ ∀ v X, T.ok v X → U.ok v X) ∨ ∃ j k m, S = Slot.bag j k ∧ Γ[i]? = some (Slot.bag j m) ∧ k ≤ m) : Go σ Γ B H σ Γ1 B H where
  same := fun _ _ h => h
  bh := s
  fr := fun _ _ h n _ => ⟨h, n⟩
  ow := fun a ⟨k, S', M, h1, h2, h3⟩ => by
    rcases h k _ h1 with e | e | ⟨_, _, e, _⟩ | ⟨j, k', m, e, e', w⟩
    · exact .inl ⟨k, S', M, e, h2, h3⟩
    · subst e
      cases h2
    · subst e
      cases h2
    · exact .inl ⟨k, _, _, e', rfl, h3⟩
  bg := fun k S h1 f => by
    rcases h k _ h1 with e | e | ⟨_, _, e, _⟩ | ⟨j', k', m', e, e', w⟩
    · exact ⟨rfl, S, e, f⟩
    · rw [e] at f
      cases f
    · rw [e] at f
      cases f
    · exact ⟨rfl, _, e', rfl⟩
/-- a slot is given a new thing that may change -/
theorem Sat.putOwn (s : Sat σ B H Γ) {i : Nat} {p : Addr} {o : HO} {M : MTy} (hi : i < Γ.length) (n : H p = none) (h : M.ok p o B) : Sat (σ.set i (some (.ref p))) B (upd H p o) (Γ.set i (.own M)) where
  bh := s.bh.trans (Lx.Same.new n)
  len := by rw [List.length_set, List.length_set, s.len]
  is_ := fun k U q => by
    rcases get_set q with ⟨rfl, e⟩ | ⟨ne, q⟩
    · cases e
    · rw [List.getElem?_set_ne (Ne.symm ne)]
      exact s.is_ k U q
  own := fun k S N q hm => by
    rcases get_set q with ⟨rfl, e⟩ | ⟨ne, q1⟩
    · subst e
      cases hm
      exact ⟨p, o, List.getElem?_set_self (by rw [s.len]; exact hi), upd_same, base_none s.bh n, h⟩
    · obtain ⟨a, o', h1, h2, h3⟩ := s.own k S N q1 hm
      rw [List.getElem?_set_ne (Ne.symm ne)]
      exact ⟨a, o', h1, by rw [upd_ne (ne_of_none h2 n)]; exact h2, h3⟩
  ap := fun k k' S S' N N' d q hm q' hm' => by
    have self : (σ.set i (some (V.ref p)))[i]? = some (some (V.ref p)) := List.getElem?_set_self (by rw [s.len]; exact hi)
    have oth : ∀ {m : Nat} {S : Slot} {U : MTy}, m ≠ i → Γ[m]? = some S → S.m = some U → (σ.set i (some (V.ref p)))[m]? ≠ some (some (V.ref p)) := fun {m S U} ne e hm z => by
      rw [List.getElem?_set_ne (Ne.symm ne)] at z
      obtain ⟨a, o', h1, h2, _⟩ := s.own m S U e hm
      rw [z] at h1
      cases h1
      rw [n] at h2
      cases h2
    rcases get_set q with ⟨e1, e⟩ | ⟨ne, q1⟩
    · rcases get_set q' with ⟨e2, e'⟩ | ⟨ne', q2⟩
      · exact absurd (e1.trans e2.symm) d
      · rw [e1, self]
        exact fun z => oth ne' q2 hm' z.symm
    · rcases get_set q' with ⟨e2, e'⟩ | ⟨ne', q2⟩
      · rw [e2, self]
        exact oth ne q1 hm
      · rw [List.getElem?_set_ne (Ne.symm ne), List.getElem?_set_ne (Ne.symm ne')]
        exact s.ap k k' S S' N N' d q1 hm q2 hm'
theorem Sat.go_putOwn (s : Sat σ B H Γ) {i : Nat} {p : Addr} {o : HO} {M : MTy} (hi : i < Γ.length) (n : H p = none) : Go σ Γ B H (σ.set i (some (.ref p))) (Γ.set i (.own M)) B (upd H p o) where
  same := fun _ _ h => h
  bh := s.bh.trans (Lx.Same.new n)
  fr := fun a u h e _ => ⟨Lx.Same.new n a u h, e⟩
  ow := fun a ⟨k, S', N, h1, h2, h3⟩ => by
    rcases get_set h1 with ⟨e1, e⟩ | ⟨ne, q1⟩
    · subst e1
      rw [List.getElem?_set_self (by rw [s.len]; exact hi)] at h3
      cases h3
      exact .inr n
    · rw [List.getElem?_set_ne (Ne.symm ne)] at h3
      exact .inl ⟨k, S', N, q1, h2, h3⟩
  bg := fun k S h f => by
    rcases get_set h with ⟨_, e⟩ | ⟨ne, q1⟩
    · rw [e] at f
      cases f
    · exact ⟨List.getElem?_set_ne (Ne.symm ne), S, q1, f⟩
/-- a thing of ours is changed -/
theorem Sat.change (s : Sat σ B H Γ) {i : Nat} {a : Addr} {o : HO} {S S' : Slot} {M N : MTy} (hi : Γ[i]? = some S) (hm : S.m = some M) (hm' : S'.m = some N) (ha : σ[i]? = some (some (.ref a))) (h : N.ok a o B) (hb : S'.fix = true → S.fix = true) : Sat σ B (upd H a o) (Γ.set i S') ∧ Go σ Γ B H σ (Γ.set i S') B (upd H a o) := by
  have hl : i < Γ.length := (List.getElem?_eq_some_iff.mp hi).1
  obtain ⟨a', o', e1, e2, e3, e4⟩ := s.own i S M hi hm
  rw [ha] at e1
  cases e1
  have bh' : Same B (upd H a o) := fun b u q => by
    have ne : b ≠ a := fun z => by rw [z, e3] at q; cases q
    rw [upd_ne ne]
    exact s.bh b u q
  refine ⟨⟨bh', by rw [List.length_set]; exact s.len, fun k U q => ?_, fun k S2 U q hU => ?_, fun k k' S1 S2 U U' d q hU q' hU' => ?_⟩, ⟨fun _ _ h => h, bh', fun b u q n no => ?_, fun b ⟨k, S2, U, h1, h2, h3⟩ => ?_, fun k S0 q f => ?_⟩⟩
  · rcases get_set q with ⟨rfl, e⟩ | ⟨ne, q⟩
    · rw [← e] at hm'
      cases hm'
    · exact s.is_ k U q
  · rcases get_set q with ⟨rfl, e⟩ | ⟨ne, q⟩
    · rw [e, hm'] at hU
      cases hU
      exact ⟨a, o, ha, upd_same, e3, h⟩
    · obtain ⟨c, u, h1, h2, h3⟩ := s.own k S2 U q hU
      have nc : c ≠ a := fun z => by
        have d := s.ap k i S2 S U M ne q hU hi hm
        rw [h1, ha, z] at d
        exact d rfl
      exact ⟨c, u, h1, by rw [upd_ne nc]; exact h2, h3⟩
  · have f : ∀ {k : Nat} {S2 : Slot} {U : MTy}, (Γ.set i S')[k]? = some S2 → S2.m = some U → ∃ S3 U', Γ[k]? = some S3 ∧ S3.m = some U' := fun {k S2 U} q hU => by
      rcases get_set q with ⟨e, _⟩ | ⟨ne, q⟩
      · exact ⟨S, M, by rw [e]; exact hi, hm⟩
      · exact ⟨S2, U, q, hU⟩
    obtain ⟨S3, V1, q1, m1⟩ := f q hU
    obtain ⟨S4, V2, q2, m2⟩ := f q' hU'
    exact s.ap k k' S3 S4 V1 V2 d q1 m1 q2 m2
  · have ne : b ≠ a := fun z => no ⟨i, S, M, hi, hm, by rw [ha, z]⟩
    exact ⟨by rw [upd_ne ne]; exact q, n⟩
  · rcases get_set h1 with ⟨e1', e⟩ | ⟨ne, q1⟩
    · subst e1'
      exact .inl ⟨k, S, M, hi, hm, h3⟩
    · exact .inl ⟨k, S2, U, q1, h2, h3⟩
  · rcases get_set q with ⟨e1', e⟩ | ⟨ne, q1⟩
    · rw [e] at f
      exact ⟨rfl, S, by rw [e1']; exact hi, hb f⟩
    · exact ⟨rfl, S0, q1, f⟩
/-- a list of ours stands still from now on -/
theorem Sat.freezeM (s : Sat σ B H Γ) {i : Nat} {a : Addr} {o : HO} {M : MTy} {S0 : Slot} (hi : Γ[i]? = some S0) (h0 : S0.m = some M) (ha : σ[i]? = some (some (.ref a))) (ho : H a = some o) : Sat σ (upd B a o) H (Γ.set i .no) ∧ Go σ Γ B H σ (Γ.set i .no) (upd B a o) H := by
  have hl : i < Γ.length := (List.getElem?_eq_some_iff.mp hi).1
  obtain ⟨a', o', e1, e2, e3, e4⟩ := s.own i _ M hi h0
  rw [ha] at e1
  cases e1
  have bb : Same B (upd B a o) := Lx.Same.new e3
  have nn : ∀ {b : Addr}, b ≠ a → B b = none → upd B a o b = none := fun ne n => by rw [upd_ne ne]; exact n
  have bh' : Same (upd B a o) H := fun b u q => by
    by_cases ne : b = a
    · subst ne
      rw [upd_same] at q
      cases q
      exact ho
    · rw [upd_ne ne] at q
      exact s.bh b u q
  refine ⟨⟨bh', by rw [List.length_set]; exact s.len, fun k U q => ?_, fun k S U q hU => ?_, fun k k' S S' U U' d q hU q' hU' => ?_⟩, ⟨bb, bh', fun b u q n no => ⟨q, nn (fun z => no ⟨i, _, M, hi, h0, by rw [ha, z]⟩) n⟩, fun b ⟨k, S2, U, h1, h2, h3⟩ => ?_, fun k S q f => ?_⟩⟩
  · rcases get_set q with ⟨rfl, e⟩ | ⟨ne, q⟩
    · cases e
    · obtain ⟨v, h1, h2⟩ := s.is_ k U q
      exact ⟨v, h1, U.mono bb h2⟩
  · rcases get_set q with ⟨rfl, e⟩ | ⟨ne, q⟩
    · subst e
      cases hU
    · obtain ⟨c, u, h1, h2, h3, h4⟩ := s.own k S U q hU
      have nc : c ≠ a := fun z => by
        have d := s.ap k i S _ U M ne q hU hi h0
        rw [h1, ha, z] at d
        exact d rfl
      exact ⟨c, u, h1, h2, nn nc h3, U.mono bb h4⟩
  · rcases get_set q with ⟨_, e⟩ | ⟨ne, q⟩
    · subst e
      cases hU
    rcases get_set q' with ⟨_, e⟩ | ⟨ne', q'⟩
    · subst e
      cases hU'
    exact s.ap k k' S S' U U' d q hU q' hU'
  · rcases get_set h1 with ⟨_, e⟩ | ⟨ne, q1⟩
    · subst e
      cases h2
    · exact .inl ⟨k, S2, U, q1, h2, h3⟩
  · rcases get_set q with ⟨_, e⟩ | ⟨ne, q1⟩
    · rw [e] at f
      cases f
    · exact ⟨rfl, S, q1, f⟩
theorem Sat.freeze (s : Sat σ B H Γ) {i : Nat} {a : Addr} {o : HO} {M : MTy} (hi : Γ[i]? = some (.own M)) (ha : σ[i]? = some (some (.ref a))) (ho : H a = some o) : Sat σ (upd B a o) H (Γ.set i .no) ∧ Go σ Γ B H σ (Γ.set i .no) (upd B a o) H := s.freezeM hi rfl ha ho
end
end DL
set_option Elab.async false
set_option linter.all false
set_option maxRecDepth 100000
set_option maxHeartbeats 2000000
/-! the second layer's judgements and rules: expressions, tests, arguments, lists, targets, walks, statements -/
namespace DL
open PySem L2 Lx
/-- an exception's wish: where it goes, what may be raised -/
structure Xn where
  E : L2.St → XK
  χ : Addr → Str → Ty → List Slot → Prop
def ExOk (X : Xn) (σ : L2.St) (Γ : List Slot) (B H : Hp) : Prop := ∀ (σ' : L2.St) (v : V) (y : Addr) (B' H' : Hp) (C : Addr) (f : Str) (T : Ty) (Γ' : List Slot), X.χ C f T Γ' → Sat σ' B' H' Γ' → Go σ Γ B H σ' Γ' B' H' → T.ok v B' → H' y = none → X.E σ' (.ref C) (some y) (upd H' y (.xd [(f, v)]))
theorem ExOk.after {X : Xn} {σ σ1 : L2.St} {Γ Γ1 : List Slot} {B H B1 H1 : Hp} (x : ExOk X σ Γ B H) (g : Go σ Γ B H σ1 Γ1 B1 H1) : ExOk X σ1 Γ1 B1 H1 := fun σ' v y B' H' C f T Γ' c s g' t n => x σ' v y B' H' C f T Γ' c s (g.trans g') t n
abbrev KE := Ty → List Slot → Prop
def WE (X : Xn) (t : TE) (Γ : List Slot) (κ : Ty → List Slot → Prop) : Prop := ∀ (σ : L2.St) (B H : Hp), Sat σ B H Γ → ExOk X σ Γ B H → ∀ Q : VK, (∀ (v : V) (B' H' : Hp) (T : Ty) (Γ' : List Slot), κ T Γ' → Sat σ B' H' Γ' → Go σ Γ B H σ Γ' B' H' → T.ok v B' → Q v H') → t σ H Q
def WA (X : Xn) (t : TA) (Γ : List Slot) (κ : List Ty → List Slot → Prop) : Prop := ∀ (σ : L2.St) (B H : Hp), Sat σ B H Γ → ExOk X σ Γ B H → ∀ Q : List V → Hp → Prop, (∀ (vs : List V) (B' H' : Hp) (Ts : List Ty) (Γ' : List Slot), κ Ts Γ' → Sat σ B' H' Γ' → Go σ Γ B H σ Γ' B' H' → TyAll Ts vs B' → Q vs H') → t σ H Q
def WT (X : Xn) (t : TT) (Γ : List Slot) (κ : Bool → List Slot → Prop) : Prop := ∀ (σ : L2.St) (B H : Hp), Sat σ B H Γ → ExOk X σ Γ B H → ∀ Q : Bool → Hp → Prop, (∀ (b : Bool) (B' H' : Hp) (Γ' : List Slot), κ b Γ' → Sat σ B' H' Γ' → Go σ Γ B H σ Γ' B' H' → Q b H') → t σ H Q
/-- a list, to be read at once -/
def WL (X : Xn) (t : TE) (Γ : List Slot) (κ : List Ty → List Slot → Prop) : Prop := ∀ (σ : L2.St) (B H : Hp), Sat σ B H Γ → ExOk X σ Γ B H → ∀ Q : VK, (∀ (a : Addr) (xs : List V) (B' H' : Hp) (ts : List Ty) (Γ' : List Slot), κ ts Γ' → Sat σ B' H' Γ' → Go σ Γ B H σ Γ' B' H' → H' a = some (.lst xs) → TyAll ts xs B' → Q (.ref a) H') → t σ H Q
/-- a new thing, nobody else's -/
def WO (X : Xn) (t : TE) (Γ : List Slot) (κ : MTy → List Slot → Prop) : Prop := ∀ (σ : L2.St) (B H : Hp), Sat σ B H Γ → ExOk X σ Γ B H → ∀ Q : VK, (∀ (p : Addr) (o : HO) (B' H1 : Hp) (M : MTy) (Γ' : List Slot), κ M Γ' → Sat σ B' H1 Γ' → Go σ Γ B H σ Γ' B' H1 → H1 p = none → M.ok p o B' → Q (.ref p) (upd H1 p o)) → t σ H Q
def WG (g : TG) (T : Ty) (Γ : List Slot) (κ : List Slot → Prop) : Prop := ∀ (σ : L2.St) (B H : Hp) (v : V), Sat σ B H Γ → T.ok v B → ∀ k : L2.St → Hp → Prop, (∀ (σ' : L2.St) (B' H' : Hp) (Γ' : List Slot), κ Γ' → Sat σ' B' H' Γ' → Go σ Γ B H σ' Γ' B' H' → k σ' H') → g v σ H k
def WGs (g : TGs) (Ts : List Ty) (Γ : List Slot) (κ : List Slot → Prop) : Prop := ∀ (σ : L2.St) (B H : Hp) (vs : List V), Sat σ B H Γ → TyAll Ts vs B → ∀ k : L2.St → Hp → Prop, (∀ (σ' : L2.St) (B' H' : Hp) (Γ' : List Slot), κ Γ' → Sat σ' B' H' Γ' → Go σ Γ B H σ' Γ' B' H' → k σ' H') → g vs σ H k
def ItOk (B : Hp) (J : It) (Xs : List Ty) : Prop := ∀ B' H' : Hp, Same B B' → Same B' H' → (∀ i, i < Xs.length → J.go i H') ∧ J.stop Xs.length H' ∧ ∀ (i : Nat) (v : V) (H'' : Hp), i < Xs.length → J.yld i H' v H'' → ∃ (T : Ty) (B'' : Hp), Xs[i]? = some T ∧ Eff [] B' H' B'' H'' ∧ T.ok v B''
def WI (X : Xn) (wi : TI) (Γ : List Slot) (κ : List Ty → List Slot → Prop) : Prop := ∀ (σ : L2.St) (B H : Hp), Sat σ B H Γ → ExOk X σ Γ B H → ∀ R : It → Hp → Prop, (∀ (J : It) (B' H' : Hp) (Xs : List Ty) (Γ' : List Slot), κ Xs Γ' → Sat σ B' H' Γ' → Go σ Γ B H σ Γ' B' H' → ItOk B' J Xs → R J H') → wi σ H R
/-- what a built-in does with values (pure) -/
def RC (r : List V → Hp → VK → Prop) (Ts : List Ty) (κ : Ty → Prop) : Prop := ∀ (vs : List V) (B H : Hp) (Q : VK), Same B H → TyAll Ts vs B → (∀ (v : V) (B' H' : Hp) (T : Ty), κ T → Eff [] B H B' H' → T.ok v B' → Q v H') → r vs H Q
def R2w (r : R2) (T U : Ty) (κ : Ty → Prop) : Prop := ∀ (x y : V) (B H : Hp) (Q : VK), Same B H → T.ok x B → U.ok y B → (∀ (v : V) (B' H' : Hp) (W : Ty), κ W → Eff [] B H B' H' → W.ok v B' → Q v H') → r x y H Q
structure En where
  nx : List Slot → Prop
  rt : Ty → List Slot → Prop
  bk : List Slot → Prop := fun _ => False
  ct : List Slot → Prop := fun _ => False
/-- the ends that a statement meets -/
structure Met (σ : L2.St) (Γ : List Slot) (B H : Hp) (κ : En) (D : Ends) : Prop where
  nx : ∀ (σ' : L2.St) (B' H' : Hp) (Γ' : List Slot), κ.nx Γ' → Sat σ' B' H' Γ' → Go σ Γ B H σ' Γ' B' H' → D.nx σ' H'
  rt : ∀ (σ' : L2.St) (v : V) (B' H' : Hp) (T : Ty) (Γ' : List Slot), κ.rt T Γ' → Sat σ' B' H' Γ' → Go σ Γ B H σ' Γ' B' H' → T.ok v B' → D.rt v H'
  bk : ∀ (σ' : L2.St) (B' H' : Hp) (Γ' : List Slot), κ.bk Γ' → Sat σ' B' H' Γ' → Go σ Γ B H σ' Γ' B' H' → D.bk σ' H'
  ct : ∀ (σ' : L2.St) (B' H' : Hp) (Γ' : List Slot), κ.ct Γ' → Sat σ' B' H' Γ' → Go σ Γ B H σ' Γ' B' H' → D.ct σ' H'
theorem Met.same {σ σ1 : L2.St} {Γ Γ1 : List Slot} {B H B1 H1 : Hp} {κ : En} {D : Ends} (m : Met σ Γ B H κ D) (s : Go σ Γ B H σ1 Γ1 B1 H1) : Met σ1 Γ1 B1 H1 κ D :=
  ⟨fun σ' B2 H' Γ' k h e => m.nx σ' B2 H' Γ' k h (s.trans e), fun σ' v B2 H' T Γ' k h e => m.rt σ' v B2 H' T Γ' k h (s.trans e), fun σ' B2 H' Γ' k h e => m.bk σ' B2 H' Γ' k h (s.trans e), fun σ' B2 H' Γ' k h e => m.ct σ' B2 H' Γ' k h (s.trans e)⟩
def WS (X : Xn) (t : TS) (Γ : List Slot) (κ : En) : Prop := ∀ (σ : L2.St) (B H : Hp), Sat σ B H Γ → ExOk X σ Γ B H → ∀ D : Ends, Met σ Γ B H κ D → t D σ H
section
variable {X : Xn} {Γ : List Slot} {κ : Ty → List Slot → Prop} {K : PySem.W.Frag}
theorem refl_same {B : Hp} : Same B B := fun _ _ h => h
theorem WE.imp {t : TE} {κ' : Ty → List Slot → Prop} (h : WE X t Γ κ') (i : ∀ T Γ', κ' T Γ' → κ T Γ') : WE X t Γ κ := fun σ B H s xo Q q => h σ B H s xo Q fun v B' H' T Γ' k => q v B' H' T Γ' (i T Γ' k)
theorem WE.asT (K : PySem.W.Frag) {t : TE} (h : WE X t Γ fun T Γ1 => ∃ ts, T = tyF ts ∧ κ (tyT K ts) Γ1) : WE X t Γ κ := fun σ B H s xo Q q => h σ B H s xo Q fun v B' H' T Γ' k s' g ok => by
  obtain ⟨ts, rfl, k⟩ := k
  exact q v B' H' _ Γ' k s' g (tyF_T ok)
theorem WE.var {i : Nat} {T : Ty} (h : Γ[i]? = some (.is T)) (k : κ T Γ) : WE X (tVar i) Γ κ := fun σ B H s xo Q q => by
  obtain ⟨v, h1, h2⟩ := s.is_ i T h
  exact ⟨v, h1, q v B H T Γ k s (.refl s.bh) h2⟩
theorem WE.cT {v : V} (T : Ty) (hT : ∀ B, T.ok v B) (k : κ T Γ) : WE X (tC v) Γ κ := fun σ B H s xo Q q => q v B H T Γ k s (.refl s.bh) (hT B)
theorem WE.c {v : V} (k : κ (tyV v) Γ) : WE X (tC v) Γ κ := .cT (tyV v) (fun _ => rfl) k
theorem WE.op {r : R2} {ta tb : TE} (h : WE X ta Γ fun T Γ1 => WE X tb Γ1 fun U Γ2 => R2w r T U fun W => κ W Γ2) : WE X (tOp r ta tb) Γ κ := fun σ B H s xo Q q =>
  h σ B H s xo _ fun x B1 H1 T Γ1 k1 s1 b1 t1 => k1 σ B1 H1 s1 (xo.after b1) _ fun y B2 H2 U Γ2 k2 s2 b2 t2 => k2 x y B2 H2 Q s2.bh (T.mono b2.same t1) t2 fun v B' H' W w e ok => q v B' H' W Γ2 w (s2.step e) ((b1.trans b2).trans e.go) ok
theorem WE.cb {r : List V → Hp → VK → Prop} {t : TA} (h : WA X t Γ fun Ts Γ1 => RC r Ts fun W => κ W Γ1) : WE X (tCB r t) Γ κ := fun σ B H s xo Q q =>
  h σ B H s xo _ fun vs B1 H1 Ts Γ1 k1 s1 b1 t1 => k1 vs B1 H1 Q s1.bh t1 fun v B' H' W w e ok => q v B' H' W Γ1 w (s1.step e) (b1.trans e.go) ok
theorem WE.m0 {r : V → List V → Hp → VK → Prop} {to : TE} (h : WE X to Γ fun T Γ1 => (∃ z : Str, T = tyS z) ∧ RC (fun vs H Q => ∃ x, vs = [x] ∧ r x [] H Q) [T] fun W => κ W Γ1) : WE X (tM0 r to) Γ κ := fun σ B H s xo Q q =>
  h σ B H s xo _ fun x B1 H1 T Γ1 k1 s1 b1 t1 => by
    obtain ⟨⟨z, rfl⟩, k1⟩ := k1
    refine ⟨⟨z, t1⟩, ?_⟩
    obtain ⟨y, e, f⟩ := k1 [x] B1 H1 Q s1.bh (.one t1) fun v B' H' W w e ok => q v B' H' W Γ1 w (s1.step e) (b1.trans e.go) ok
    cases e
    exact f
theorem WE.m1 {r : V → List V → Hp → VK → Prop} {to te : TE} (h : WE X to Γ fun T Γ1 => ∃ z : Str, T = tyS z ∧ WE X te Γ1 fun U Γ2 => RC (fun vs H Q => ∃ x y, vs = [x, y] ∧ r x [y] H Q) [T, U] fun W => κ W Γ2) : WE X (tM1 r to te) Γ κ := fun σ B H s xo Q q =>
  h σ B H s xo _ fun x B1 H1 T Γ1 k1 s1 b1 t1 => by
    obtain ⟨z, rfl, k1⟩ := k1
    refine ⟨⟨z, t1⟩, ?_⟩
    refine k1 σ B1 H1 s1 (xo.after b1) _ fun y B2 H2 U Γ2 k2 s2 b2 t2 => ?_
    obtain ⟨x', y', e, f⟩ := k2 [x, y] B2 H2 Q s2.bh ⟨Ty.mono _ b2.same t1, t2, trivial⟩ fun v B' H' W w e ok => q v B' H' W Γ2 w (s2.step e) ((b1.trans b2).trans e.go) ok
    cases e
    exact f
theorem WA.nil {κ : List Ty → List Slot → Prop} (k : κ [] Γ) : WA X tNil Γ κ := fun σ B H s xo Q q => q [] B H [] Γ k s (.refl s.bh) trivial
theorem WA.cons {κ : List Ty → List Slot → Prop} {ta : TE} {tr : TA} (h : WE X ta Γ fun T Γ1 => WA X tr Γ1 fun Ts Γ2 => κ (T :: Ts) Γ2) : WA X (tCons ta tr) Γ κ := fun σ B H s xo Q q =>
  h σ B H s xo _ fun x B1 H1 T Γ1 k1 s1 b1 t1 => k1 σ B1 H1 s1 (xo.after b1) _ fun xs B2 H2 Ts Γ2 k2 s2 b2 t2 => q (x :: xs) B2 H2 (T :: Ts) Γ2 k2 s2 (b1.trans b2) ⟨T.mono b2.same t1, t2⟩
theorem seqT_same' {H H' : Hp} {a : Addr} {xs : List V} (e : Same H H') (h : SqT K H a xs) : SqT K H' a xs := seqT_same e h
theorem WE.lst {t : TA} (h : WA X t Γ fun Ts Γ1 => Ts.length ≤ sizeLine ∧ κ (tyL Ts) Γ1) : WE X (tLst t) Γ κ := fun σ B H s xo Q q =>
  h σ B H s xo _ fun vs B1 H1 Ts Γ1 k1 s1 b1 t1 => ⟨by rw [t1.length]; exact k1.1, fun p np => q (.ref p) _ _ (tyL Ts) Γ1 k1.2 (s1.step (.new s1.bh np)) (b1.trans (Eff.go (.new s1.bh np))) ⟨p, vs, rfl, upd_same, t1.mono (Lx.Same.new (base_none s1.bh np))⟩⟩
theorem WE.tup (K : PySem.W.Frag) {t : TA} (h : WA X t Γ fun Ts Γ1 => Ts.length ≤ sizeLine ∧ κ (tyT K Ts) Γ1) : WE X (tTup t) Γ κ := fun σ B H s xo Q q =>
  h σ B H s xo _ fun vs B1 H1 Ts Γ1 k1 s1 b1 t1 => ⟨by rw [t1.length]; exact k1.1, fun p np => q (.ref p) _ _ (tyT K Ts) Γ1 k1.2 (s1.step (.new s1.bh np)) (b1.trans (Eff.go (.new s1.bh np))) ⟨p, vs, rfl, SqT.of upd_same, t1.mono (Lx.Same.new (base_none s1.bh np))⟩⟩
theorem WE.ifE {t : TT} {ta tb : TE} (h : WT X t Γ fun c Γ1 => (c = true → WE X ta Γ1 κ) ∧ (c = false → WE X tb Γ1 κ)) : WE X (tIf t ta tb) Γ κ := fun σ B H s xo Q q =>
  h σ B H s xo _ fun c B1 H1 Γ1 k1 s1 b1 => by
    cases c with
    | true => exact k1.1 rfl σ B1 H1 s1 (xo.after b1) Q fun v B' H' T Γ' k s' b => q v B' H' T Γ' k s' (b1.trans b)
    | false => exact k1.2 rfl σ B1 H1 s1 (xo.after b1) Q fun v B' H' T Γ' k s' b => q v B' H' T Γ' k s' (b1.trans b)
theorem WT.val {κ : Bool → List Slot → Prop} {t : TE} (h : WE X t Γ fun T Γ1 => ∃ b, T = tyB b ∧ κ b Γ1) : WT X (tTest t) Γ κ := fun σ B H s xo Q q =>
  h σ B H s xo _ fun v B1 H1 T Γ1 k1 s1 b1 t1 => by
    obtain ⟨b, rfl, k⟩ := k1
    exact ⟨b, t1, q b B1 H1 Γ1 k s1 b1⟩
theorem WT.valB {κ : Bool → List Slot → Prop} {t : TE} (h : WE X t Γ fun T Γ1 => ∃ b, T = tyB b ∧ κ b Γ1) : WT X (tB t) Γ κ := WT.val h
theorem WT.and {κ : Bool → List Slot → Prop} {t u : TT} (h : WT X t Γ fun c Γ1 => (c = true → WT X u Γ1 κ) ∧ (c = false → κ false Γ1)) : WT X (tAnd t u) Γ κ := fun σ B H s xo Q q =>
  h σ B H s xo _ fun c B1 H1 Γ1 k1 s1 b1 => by
    cases c with
    | true => exact if_true_of rfl (k1.1 rfl σ B1 H1 s1 (xo.after b1) Q fun v B' H' Γ' k s' b => q v B' H' Γ' k s' (b1.trans b))
    | false => exact if_false_of rfl (q false B1 H1 Γ1 (k1.2 rfl) s1 b1)
theorem WT.or {κ : Bool → List Slot → Prop} {t u : TT} (h : WT X t Γ fun c Γ1 => (c = true → κ true Γ1) ∧ (c = false → WT X u Γ1 κ)) : WT X (tOr t u) Γ κ := fun σ B H s xo Q q =>
  h σ B H s xo _ fun c B1 H1 Γ1 k1 s1 b1 => by
    cases c with
    | true => exact if_true_of rfl (q true B1 H1 Γ1 (k1.1 rfl) s1 b1)
    | false => exact if_false_of rfl (k1.2 rfl σ B1 H1 s1 (xo.after b1) Q fun v B' H' Γ' k s' b => q v B' H' Γ' k s' (b1.trans b))
theorem WT.not {κ : Bool → List Slot → Prop} {t : TT} (h : WT X t Γ fun c Γ1 => κ (!c) Γ1) : WT X (tNot t) Γ κ := fun σ B H s xo Q q => h σ B H s xo _ fun c B1 H1 Γ1 k1 s1 b1 => q (!c) B1 H1 Γ1 k1 s1 b1
/-- what is true of a value -/
def Tru (K : PySem.W.Frag) (T : Ty) (b : Bool) : Prop := ∀ (v : V) (H : Hp), T.ok v H → TruV K v H b
theorem WT.tru {κ : Bool → List Slot → Prop} {t : TE} {K : PySem.W.Frag} (h : WE X t Γ fun T Γ1 => ∃ b, Tru K T b ∧ κ b Γ1) : WT X (fun σ H Q => t σ H fun x H' => ∃ k, TruV K x H' k ∧ Q k H') Γ κ := fun σ B H s xo Q q =>
  h σ B H s xo _ fun v B1 H1 T Γ1 k1 s1 b1 t1 => by
    obtain ⟨b, tb, k⟩ := k1
    exact ⟨b, tb v H1 (T.mono s1.bh t1), q b B1 H1 Γ1 k s1 b1⟩
theorem tru_tup {ts : List Ty} {b : Bool} (h : b = !ts.isEmpty) : Tru K (tyT K ts) b := fun v H t => by
  obtain ⟨a, xs, rfl, h1, h2⟩ := t
  have e := h2.length
  refine .inr (.inl ⟨xs, h1, ?_⟩)
  rw [h]
  cases xs <;> cases ts <;> first | rfl | cases e
theorem tru_lst {ts : List Ty} {b : Bool} (h : b = !ts.isEmpty) : Tru K (tyL ts) b := fun v H t => by
  obtain ⟨a, xs, rfl, h1, h2⟩ := t
  have e := h2.length
  refine .inl ⟨xs, SqL.of h1, ?_⟩
  rw [h]
  cases xs <;> cases ts <;> first | rfl | cases e
theorem WE.fld {t : TE} {f : Str} (h : WE X t Γ fun T Γ1 => ∃ c fs U, T = tyO c fs ∧ Cls K c ∧ NoAttr K c f ∧ fs.lookup f = some U ∧ κ U Γ1) : WE X (tFld K t f) Γ κ := fun σ B H s xo Q q =>
  h σ B H s xo _ fun v B1 H1 T Γ1 k1 s1 b1 t1 => by
    obtain ⟨c, fs, U, rfl, h1, h2, h3, k⟩ := k1
    obtain ⟨a, dx, ws, rfl, e1, e2, e3⟩ := t1
    have look : ∀ {fs : List (Str × Ty)} {ws : List (Str × V)}, ws.map Prod.fst = fs.map Prod.fst → TyAll (fs.map Prod.snd) (ws.map Prod.snd) B1 → fs.lookup f = some U → ∃ x, ws.lookup f = some x ∧ U.ok x B1 := by
      intro fs
      induction fs with
      | nil => intro ws _ _ h; cases h
      | cons p r ih =>
        intro ws e t h
        cases ws with
        | nil => cases e
        | cons y z =>
          obtain ⟨pn, pt⟩ := p
          obtain ⟨yn, yv⟩ := y
          simp only [List.map_cons, List.cons.injEq] at e
          obtain ⟨e0, e⟩ := e
          subst e0
          by_cases q : f = yn
          · subst q
            rw [List.lookup_cons_self] at h
            cases h
            exact ⟨yv, List.lookup_cons_self, t.1⟩
          · have bne : (f == yn) = false := by simpa using q
            rw [List.lookup_cons, bne] at h
            obtain ⟨x, h1, h2⟩ := ih e t.2 h
            exact ⟨x, by rw [List.lookup_cons, bne]; exact h1, h2⟩
    obtain ⟨x, h4, h5⟩ := look e2 e3 h3
    exact ⟨a, c, dx, ws, x, rfl, s1.bh _ _ e1, h1, h2, h4, q x B1 H1 U Γ1 k s1 b1 h5⟩
theorem WE.chain {r r' : R2} {ta tb tc : TE} (h : WE X ta Γ fun T Γ1 => WE X tb Γ1 fun U Γ2 => R2w r T U fun Z => ∃ b, Z = tyB b ∧ (b = false → κ (tyB false) Γ2) ∧ (b = true → WE X tc Γ2 fun W Γ3 => R2w r' U W fun Y => κ Y Γ3)) : WE X (tChain r r' ta tb tc) Γ κ := fun σ B H s xo Q q =>
  h σ B H s xo _ fun x B1 H1 T Γ1 k1 s1 b1 t1 => k1 σ B1 H1 s1 (xo.after b1) _ fun y B2 H2 U Γ2 k2 s2 b2 t2 => k2 x y B2 H2 _ s2.bh (T.mono b2.same t1) t2 fun z B3 H3 Z k3 e3 t3 => by
    obtain ⟨b, rfl, kf, kt⟩ := k3
    have s3 := s2.step e3
    refine ⟨b, t3, ?_⟩
    cases b with
    | false => exact if_false_of rfl (q (.bl false) B3 H3 (tyB false) Γ2 (kf rfl) s3 ((b1.trans b2).trans e3.go) rfl)
    | true => exact if_true_of rfl (kt rfl σ B3 H3 s3 (xo.after ((b1.trans b2).trans e3.go)) _ fun w B4 H4 W Γ3 k4 s4 b4 t4 => k4 y w B4 H4 Q s4.bh (U.mono (e3.bb.trans b4.same) t2) t4 fun v B' H' Y y e ok => q v B' H' Y Γ3 y (s4.step e) (((b1.trans b2).trans (e3.go.trans b4)).trans e.go) ok)
/-! lists to be read -/
theorem WL.data {κ : List Ty → List Slot → Prop} {t : TE} (h : WE X t Γ fun T Γ1 => ∃ ts, T = tyL ts ∧ κ ts Γ1) : WL X t Γ κ := fun σ B H s xo Q q =>
  h σ B H s xo _ fun v B1 H1 T Γ1 k1 s1 b1 t1 => by
    obtain ⟨ts, rfl, k⟩ := k1
    obtain ⟨a, xs, rfl, h1, h2⟩ := t1
    exact q a xs B1 H1 ts Γ1 k s1 b1 (s1.bh _ _ h1) h2
theorem WL.own {κ : List Ty → List Slot → Prop} {i : Nat} {ts : List Ty} (h : Γ[i]? = some (.own (mL ts))) (k : κ ts Γ) : WL X (tVar i) Γ κ := fun σ B H s xo Q q => by
  obtain ⟨a, o, h1, h2, _, ⟨xs, rfl, h3⟩⟩ := s.own i _ _ h rfl
  exact ⟨.ref a, h1, q a xs B H ts Γ k s (.refl s.bh) h2 h3⟩
/-! statements -/
variable {κs : En}
theorem WS.seq {t u : TS} (h : WS X t Γ { κs with nx := fun Γ1 => WS X u Γ1 κs }) : WS X (tSeq t u) Γ κs := fun σ B H s xo D m =>
  h σ B H s xo _ ⟨fun σ' B' H' Γ' k s' b => k σ' B' H' s' (xo.after b) D (m.same b), m.rt, m.bk, m.ct⟩
theorem WS.next (k : κs.nx Γ) : WS X tNext Γ κs := fun σ B H s xo D m => m.nx σ B H Γ k s (.refl s.bh)
theorem WS.brk (k : κs.bk Γ) : WS X tBreak Γ κs := fun σ B H s xo D m => m.bk σ B H Γ k s (.refl s.bh)
theorem WS.cnt (k : κs.ct Γ) : WS X tCont Γ κs := fun σ B H s xo D m => m.ct σ B H Γ k s (.refl s.bh)
theorem WS.asg {te : TE} {g : TG} (h : WE X te Γ fun T Γ1 => WG g T Γ1 κs.nx) : WS X (tAsg te g) Γ κs := fun σ B H s xo D m =>
  h σ B H s xo _ fun v B1 H1 T Γ1 k1 s1 b1 t1 => k1 σ B1 H1 v s1 t1 _ fun σ' B' H' Γ' k s' b => m.nx σ' B' H' Γ' k s' (b1.trans b)
theorem WG.name {i : Nat} {T : Ty} {κ : List Slot → Prop} (k : κ (Γ.set i (.is T))) : WG (gName i) T Γ κ := fun σ B H v s t q c => c _ B H _ k (s.put t) (go_put0 s.bh rfl)
theorem WGs.nil {κ : List Slot → Prop} (k : κ Γ) : WGs gNil [] Γ κ := fun σ B H vs s t q c => by
  cases vs with
  | nil => exact ⟨rfl, c σ B H Γ k s (.refl s.bh)⟩
  | cons _ _ => exact t.elim
theorem WGs.cons {g : TG} {gs : TGs} {T : Ty} {Ts : List Ty} {κ : List Slot → Prop} (h : WG g T Γ fun Γ1 => WGs gs Ts Γ1 κ) : WGs (gCons g gs) (T :: Ts) Γ κ := fun σ B H vs s t q c => by
  cases vs with
  | nil => exact t.elim
  | cons v r => exact ⟨v, r, rfl, h σ B H v s t.1 _ fun σ' B' H' Γ' k s' b => k σ' B' H' r s' (TyAll.mono b.same t.2) _ fun σ2 B2 H2 Γ2 k2 s2 b2 => c σ2 B2 H2 Γ2 k2 s2 (b.trans b2)⟩
theorem WG.tup {n : Nat} {gs : TGs} {Ts : List Ty} {κ : List Slot → Prop} (hn : Ts.length = n) (h : WGs gs Ts Γ κ) : WG (gTup K n gs) (tyT K Ts) Γ κ := fun σ B H v s t q c => by
  obtain ⟨a, xs, rfl, h1, h2⟩ := t
  exact ⟨a, xs, rfl, seqT_same s.bh h1, by rw [h2.length, hn], h σ B H xs s h2 q c⟩
theorem WS.drop {te : TE} (h : WE X te Γ fun _ Γ1 => κs.nx Γ1) : WS X (tDrop te) Γ κs := fun σ B H s xo D m => h σ B H s xo _ fun v B1 H1 T Γ1 k1 s1 b1 t1 => m.nx σ B1 H1 Γ1 k1 s1 b1
theorem WS.ret {te : TE} (h : WE X te Γ κs.rt) : WS X (tRet te) Γ κs := fun σ B H s xo D m => h σ B H s xo _ fun v B1 H1 T Γ1 k1 s1 b1 t1 => m.rt σ v B1 H1 T Γ1 k1 s1 b1 t1
theorem WS.retN (h : κs.rt tyN Γ) : WS X tRetN Γ κs := fun σ B H s xo D m => m.rt σ _ B H tyN Γ h s (.refl s.bh) rfl
/-- a list of ours is handed back -/
theorem WS.retOwn {i : Nat} {ts : List Ty} (h : Γ[i]? = some (.own (mL ts))) (k : κs.rt (tyL ts) (Γ.set i .no)) : WS X (tRet (tVar i)) Γ κs := fun σ B H s xo D m => by
  obtain ⟨a, o, h1, h2, h3, ⟨xs, rfl, h4⟩⟩ := s.own i _ _ h rfl
  obtain ⟨s', b⟩ := s.freeze h h1 h2
  exact ⟨.ref a, h1, m.rt σ _ _ H (tyL ts) _ k s' b ⟨a, xs, rfl, upd_same, h4.mono b.same⟩⟩
/-- a list of ours stands still from here on -/
theorem WS.frz {t : TS} {i : Nat} {ts : List Ty} (h : Γ[i]? = some (.own (mL ts))) (k : WS X t (Γ.set i (.is (tyL ts))) κs) : WS X t Γ κs := fun σ B H s xo D m => by
  obtain ⟨a, o, h1, h2, h3, ⟨xs, rfl, h4⟩⟩ := s.own i _ _ h rfl
  obtain ⟨s', b⟩ := s.freeze h h1 h2
  have s2 := s'.put (i := i) (v := .ref a) (T := tyL ts) ⟨a, xs, rfl, upd_same, h4.mono b.same⟩
  have g2 : Go σ (Γ.set i Slot.no) _ H (σ.set i (some (V.ref a))) ((Γ.set i Slot.no).set i (.is (tyL ts))) _ H := go_put0 s'.bh rfl
  have es : σ.set i (some (V.ref a)) = σ := by
    refine List.ext_getElem? fun k => ?_
    by_cases e : i = k
    · subst e
      rw [List.getElem?_set_self (by rw [s.len]; exact (List.getElem?_eq_some_iff.mp h).1), h1]
    · rw [List.getElem?_set_ne e]
  rw [es, List.set_set] at s2 g2
  exact k σ _ H s2 (xo.after (b.trans g2)) D (m.same (b.trans g2))
theorem WS.ifS {c : TT} {t u : TS} (h : WT X c Γ fun b Γ1 => (b = true → WS X t Γ1 κs) ∧ (b = false → WS X u Γ1 κs)) : WS X (tIfS c t u) Γ κs := fun σ B H s xo D m =>
  h σ B H s xo _ fun b B1 H1 Γ1 k1 s1 b1 => by
    cases b with
    | true => exact if_true_of rfl (k1.1 rfl σ B1 H1 s1 (xo.after b1) D (m.same b1))
    | false => exact if_false_of rfl (k1.2 rfl σ B1 H1 s1 (xo.after b1) D (m.same b1))
theorem WS.par {i i' : Nat} {t : TA} (h : WA X t Γ fun Ts Γ1 => ∃ T U, Ts = [T, U] ∧ κs.nx ((Γ1.set i (.is T)).set i' (.is U))) : WS X (tPar i i' t) Γ κs := fun σ B H s xo D m =>
  h σ B H s xo _ fun vs B1 H1 Ts Γ1 k1 s1 b1 t1 => by
    obtain ⟨T, U, rfl, k⟩ := k1
    match vs, t1 with
    | [v, w], t1 => exact ⟨v, w, rfl, m.nx _ B1 H1 _ k ((s1.put t1.1).put t1.2.1) ((b1.trans (go_put0 s1.bh rfl)).trans (go_put0 s1.bh rfl))⟩
    | [], t1 => exact t1.elim
    | [_], t1 => exact t1.2.elim
    | _ :: _ :: _ :: _, t1 => exact t1.2.2.elim
theorem WS.setO {i : Nat} {te : TE} (h : WO X te Γ fun M Γ1 => i < Γ1.length ∧ κs.nx (Γ1.set i (.own M))) : WS X (tAsg te (gName i)) Γ κs := fun σ B H s xo D m =>
  h σ B H s xo _ fun p o B1 H1 M Γ1 k1 s1 b1 n ok => m.nx _ B1 _ _ k1.2 (s1.putOwn k1.1 n ok) (b1.trans (s1.go_putOwn k1.1 n))
theorem WO.lst {κ : MTy → List Slot → Prop} {t : TA} (h : WA X t Γ fun Ts Γ1 => Ts.length ≤ sizeLine ∧ κ (mL Ts) Γ1) : WO X (tLst t) Γ κ := fun σ B H s xo Q q =>
  h σ B H s xo _ fun vs B1 H1 Ts Γ1 k1 s1 b1 t1 => ⟨by rw [t1.length]; exact k1.1, fun p np => q p _ B1 H1 (mL Ts) Γ1 k1.2 s1 b1 np ⟨vs, rfl, t1⟩⟩
theorem WS.append {i : Nat} {te : TE} {ts : List Ty} (h0 : Γ[i]? = some (.own (mL ts))) (h : WE X te Γ fun T Γ1 => ∃ us, Γ1[i]? = some (.own (mL us)) ∧ us.length < sizeLine ∧ κs.nx (Γ1.set i (.own (mL (us ++ [T]))))) : WS X (tDrop (tBM K "list" rAppend (tVar i) (tCons te tNil))) Γ κs := fun σ B H s xo D m => by
  obtain ⟨a, o, h1, h2, _, ⟨xs, rfl, h3⟩⟩ := s.own i _ _ h0 rfl
  refine ⟨.ref a, h1, .inl ⟨rfl, _, SqL.of h2⟩, ?_⟩
  refine h σ B H s xo _ fun v B1 H1 T Γ1 k1 s1 b1 t1 => ?_
  obtain ⟨us, e0, e1, k⟩ := k1
  obtain ⟨a', o', f1, f2, f3, ⟨ys, rfl, f4⟩⟩ := s1.own i _ _ e0 rfl
  rw [h1] at f1
  cases f1
  exact ⟨a, ys, v, rfl, rfl, f2, by rw [f4.length]; exact e1, m.nx σ B1 _ _ k (s1.change (S' := .own (mL (us ++ [T]))) e0 rfl rfl h1 ⟨_, rfl, f4.snoc t1⟩ nofun).1 (b1.trans (s1.change (S' := .own (mL (us ++ [T]))) e0 rfl rfl h1 ⟨_, rfl, f4.snoc t1⟩ nofun).2)⟩
theorem WS.forI {wi : TI} {g : TG} {tb : TS} (h : WI X wi Γ fun Xs Γ1 => ∃ I : Nat → List Slot → Prop, I 0 Γ1 ∧ (∀ (i : Nat) (T : Ty) (Γi : List Slot), Xs[i]? = some T → I i Γi → WG g T Γi fun Γ2 => WS X tb Γ2 { nx := I (i + 1), ct := I (i + 1), bk := κs.nx, rt := κs.rt }) ∧ ∀ Γn, I Xs.length Γn → κs.nx Γn) : WS X (tFor wi g tb) Γ κs := fun σ B H s xo D m =>
  h σ B H s xo _ fun J B1 H1 Xs Γ1 k1 s1 b1 it => by
    obtain ⟨I, i0, ht, he⟩ := k1
    refine ⟨fun i m' σ' H' => m' = Xs.length - i ∧ i ≤ Xs.length ∧ ∃ B' Γ', I i Γ' ∧ Sat σ' B' H' Γ' ∧ Go σ Γ1 B1 H1 σ' Γ' B' H', ⟨Xs.length, by simp, Nat.zero_le _, B1, Γ1, i0, s1, .refl s1.bh⟩, ?_⟩
    rintro i m' σ' H' ⟨rfl, hi, B', Γ', hI, s', b'⟩
    obtain ⟨g1, g2, g3⟩ := it B' H' b'.same s'.bh
    by_cases hlt : i < Xs.length
    · refine .inr ⟨g1 i hlt, fun σ2 H2 => ∃ B2 Γ2, I (i + 1) Γ2 ∧ Sat σ2 B2 H2 Γ2 ∧ Go σ Γ1 B1 H1 σ2 Γ2 B2 H2, fun σ2 H2 q => ⟨Xs.length - (i + 1), by omega, rfl, hlt, q⟩, fun x H2 hy => ?_⟩
      obtain ⟨T, B2, e1, e2, e3⟩ := g3 i x H2 hlt hy
      refine ht i T Γ' e1 hI σ' B2 H2 x (s'.step e2) e3 _ fun σ3 B3 H3 Γ3 k3 s3 b3 => ?_
      have b13 := (b'.trans e2.go).trans b3
      exact k3 σ3 B3 H3 s3 (xo.after (b1.trans b13)) _ ⟨fun σ4 B4 H4 Γ4 k4 s4 b4 => ⟨B4, Γ4, k4, s4, b13.trans b4⟩, fun σ4 v B4 H4 T4 Γ4 k4 s4 b4 => m.rt σ4 v B4 H4 T4 Γ4 k4 s4 (b1.trans (b13.trans b4)), fun σ4 B4 H4 Γ4 k4 s4 b4 => m.nx σ4 B4 H4 Γ4 k4 s4 (b1.trans (b13.trans b4)), fun σ4 B4 H4 Γ4 k4 s4 b4 => ⟨B4, Γ4, k4, s4, b13.trans b4⟩⟩
    · have e : i = Xs.length := by omega
      subst e
      exact .inl ⟨g2, m.nx σ' B' H' Γ' (he Γ' hI) s' (b1.trans b')⟩
/-! walks -/
theorem WI.walk {wi : TI} {κ : List Ty → List Slot → Prop} {J : It} {Xs : List Ty} (G : Hp → Prop) (Y : Nat → Hp → V → Hp → Prop) (w : Walk J Xs.length G Y) {B : Hp} (hG : ∀ B' H', Same B B' → Same B' H' → G H') (hY : ∀ B' H' i v H'', Same B B' → Same B' H' → i < Xs.length → Y i H' v H'' → ∃ (T : Ty) (B'' : Hp), Xs[i]? = some T ∧ Eff [] B' H' B'' H'' ∧ T.ok v B'') : ItOk B J Xs := fun B' H' b b' =>
  ⟨fun i hi => w.goes i H' hi (hG _ _ b b'), w.stops H' (hG _ _ b b'), fun i v H'' hi y => hY B' H' i v H'' b b' hi (w.yields i H' v H'' hi (hG _ _ b b') y)⟩
theorem itok_list {B : Hp} {a : Addr} {xs : List V} {ts : List Ty} (h : B a = some (.lst xs)) (t : TyAll ts xs B) : ItOk B (Itl K a) ts :=
  WI.walk (wi := fun _ _ _ => True) (κ := fun _ _ => True) (fun H => SqL K H a xs) (YAt xs) (by rw [← t.length]; exact walk_list) (fun B' H' b b' => SqL.of (b' _ _ (b _ _ h))) fun B' H' i v H'' b b' hi ⟨e, y⟩ => by
    obtain ⟨T, e1, e2⟩ := t.got y
    exact ⟨T, B', e1, by rw [e]; exact .refl b', T.mono b e2⟩
theorem itok_tup {B : Hp} {a : Addr} {xs : List V} {ts : List Ty} (h : SqT K B a xs) (t : TyAll ts xs B) : ItOk B (Itt K a) ts :=
  WI.walk (wi := fun _ _ _ => True) (κ := fun _ _ => True) (fun H => SqT K H a xs) (YAt xs) (by rw [← t.length]; exact walk_tup) (fun B' H' b b' => seqT_same b' (seqT_same b h)) fun B' H' i v H'' b b' hi ⟨e, y⟩ => by
    obtain ⟨T, e1, e2⟩ := t.got y
    exact ⟨T, B', e1, by rw [e]; exact .refl b', T.mono b e2⟩
theorem WI.list {κ : List Ty → List Slot → Prop} {t : TE} (h : WE X t Γ fun T Γ1 => ∃ ts, T = tyL ts ∧ κ ts Γ1) : WI X (iList K t) Γ κ := fun σ B H s xo R r =>
  h σ B H s xo _ fun v B1 H1 T Γ1 k1 s1 b1 t1 => by
    obtain ⟨ts, rfl, k⟩ := k1
    obtain ⟨a, xs, rfl, h1, h2⟩ := t1
    exact ⟨a, rfl, ⟨xs, SqL.of (s1.bh _ _ h1)⟩, r _ B1 H1 ts Γ1 k s1 b1 (itok_list h1 h2)⟩
theorem WI.tup {κ : List Ty → List Slot → Prop} {t : TE} (h : WE X t Γ fun T Γ1 => ∃ ts, T = tyT K ts ∧ κ ts Γ1) : WI X (iTup K t) Γ κ := fun σ B H s xo R r =>
  h σ B H s xo _ fun v B1 H1 T Γ1 k1 s1 b1 t1 => by
    obtain ⟨ts, rfl, k⟩ := k1
    obtain ⟨a, xs, rfl, h1, h2⟩ := t1
    exact ⟨a, rfl, ⟨xs, seqT_same s1.bh h1⟩, r _ B1 H1 ts Γ1 k s1 b1 (itok_tup h1 h2)⟩
theorem itok_rng {B : Hp} {lo : Int} {n : Nat} : ItOk B (Itr lo n) ((List.range n).map fun i : Nat => tyI (lo + i)) :=
  WI.walk (wi := fun _ _ _ => True) (κ := fun _ _ => True) (fun _ => True) (YFn fun i => .int (lo + i)) (by rw [List.length_map, List.length_range]; exact walk_range) (fun _ _ _ _ => trivial) fun B' H' i v H'' b b' hi ⟨e, y⟩ => by
    rw [List.length_map, List.length_range] at hi
    exact ⟨tyI (lo + i), B', by rw [List.getElem?_map, List.getElem?_range hi]; rfl, by rw [e]; exact .refl b', y⟩
theorem WI.rng1 {κ : List Ty → List Slot → Prop} {t : TA} (h : WA X t Γ fun Ts Γ1 => ∃ n : Int, Ts = [tyI n] ∧ -(2 ^ 62) ≤ n ∧ n < 2 ^ 62 ∧ κ ((List.range n.toNat).map fun i : Nat => tyI (0 + i)) Γ1) : WI X (iRng1 t) Γ κ := fun σ B H s xo R r =>
  h σ B H s xo _ fun vs B1 H1 Ts Γ1 k1 s1 b1 t1 => by
    obtain ⟨n, rfl, l1, l2, k⟩ := k1
    have e : vs = [.int n] := TyAll.vals (xs := [.int n]) t1
    exact ⟨n, e, l1, l2, r _ B1 H1 _ Γ1 k s1 b1 itok_rng⟩
theorem itok_str {B : Hp} {x : Str} : ItOk B (Its x) (x.cps.toList.map fun c => tyS ⟨#[c]⟩) := fun B' H' b b' => by
  refine ⟨fun i hi => ?_, ?_, fun i v H'' hi y => ?_⟩
  · rw [List.length_map, Array.length_toList] at hi
    exact hi
  · show x.cps.size ≤ _
    rw [List.length_map, Array.length_toList]
    exact Nat.le_refl _
  · obtain ⟨e, c, e1, e2⟩ := y
    exact ⟨tyS ⟨#[c]⟩, B', by rw [List.getElem?_map, Array.getElem?_toList, e1]; rfl, by rw [e]; exact .refl b', e2⟩
theorem WI.str {κ : List Ty → List Slot → Prop} {t : TE} (h : WE X t Γ fun T Γ1 => ∃ x : Str, T = tyS x ∧ κ (x.cps.toList.map fun c => tyS ⟨#[c]⟩) Γ1) : WI X (iStr t) Γ κ := fun σ B H s xo R r =>
  h σ B H s xo _ fun v B1 H1 T Γ1 k1 s1 b1 t1 => by
    obtain ⟨x, rfl, k⟩ := k1
    exact ⟨x, t1, r _ B1 H1 _ Γ1 k s1 b1 itok_str⟩
end
end DL
set_option Elab.async false
set_option linter.all false
set_option maxRecDepth 100000
set_option maxHeartbeats 2000000
/-! the second layer: comprehensions -/
namespace DL
open PySem L2 Lx
def wipeG (Γ : List Slot) : List Nat → List Slot
  | [] => Γ
  | v :: vs => (wipeG Γ vs).set v .no
theorem wipeG_length (Γ : List Slot) : ∀ vs : List Nat, (wipeG Γ vs).length = Γ.length
  | [] => rfl
  | v :: vs => by unfold wipeG; rw [List.length_set, wipeG_length Γ vs]
/-- behind a comprehension: its own names are as they were -/
def mrg (vs : List Nat) (Γ Γ' : List Slot) : List Slot := vs.foldr (fun v acc => acc.set v (Γ.getD v .no)) Γ'
theorem mrg_length (Γ Γ' : List Slot) : ∀ vs : List Nat, (mrg vs Γ Γ').length = Γ'.length
  | [] => rfl
  | v :: vs => by
    show ((mrg vs Γ Γ').set v _).length = _
    rw [List.length_set, mrg_length Γ Γ' vs]
theorem mrg_at {Γ Γ' : List Slot} {k : Nat} {S : Slot} (hl : Γ.length = Γ'.length) : ∀ {vs : List Nat}, (mrg vs Γ Γ')[k]? = some S → (k ∈ vs ∧ Γ[k]? = some S) ∨ (k ∉ vs ∧ Γ'[k]? = some S)
  | [], h => .inr ⟨by simp, h⟩
  | v :: vs, h => by
    have h' : ((mrg vs Γ Γ').set v (Γ.getD v .no))[k]? = some S := h
    rcases get_set h' with ⟨rfl, e⟩ | ⟨ne, q⟩
    · refine .inl ⟨List.mem_cons_self, ?_⟩
      have hk : k < Γ.length := by
        have := (List.getElem?_eq_some_iff.mp h').1
        rw [List.length_set, mrg_length] at this
        omega
      rw [e, List.getD_eq_getElem?_getD, List.getElem?_eq_getElem hk]
      rfl
    · rcases mrg_at hl (vs := vs) q with ⟨m, e⟩ | ⟨m, e⟩
      · exact .inl ⟨List.mem_cons_of_mem _ m, e⟩
      · refine .inr ⟨fun z => ?_, e⟩
        rcases List.mem_cons.mp z with z | z
        · exact ne z
        · exact m z
def NoOwn (vs : List Nat) (Γ : List Slot) : Prop := ∀ v ∈ vs, ∀ S, Γ[v]? = some S → S.m = none
section
variable {σ σ2 : L2.St} {B H B' H' : Hp} {Γ Γ2 : List Slot} {vs : List Nat}
theorem Sat.wipe (s : Sat σ B H Γ) : ∀ vs : List Nat, Sat (L2.wipe σ vs) B H (wipeG Γ vs)
  | [] => s
  | v :: vs => by
    unfold L2.wipe wipeG
    exact (Sat.wipe s vs).put0 rfl nofun
theorem Go.wipe (s : Same B H) : ∀ vs : List Nat, Go σ Γ B H (L2.wipe σ vs) (wipeG Γ vs) B H
  | [] => .refl s
  | v :: vs => by
    unfold L2.wipe wipeG
    exact (Go.wipe s vs).trans (go_put0 s rfl)
theorem Sat.merge (s : Sat σ B H Γ) (s2 : Sat σ2 B' H' Γ2) (e : L2.wipe σ2 vs = L2.wipe σ vs) (g : Same B B') (n : NoOwn vs Γ) : Sat σ B' H' (mrg vs Γ Γ2) := by
  have hl2 : σ2.length = σ.length := by rw [← wipe_length σ2 vs, e, wipe_length]
  have hl : Γ.length = Γ2.length := by rw [← s.len, ← hl2, s2.len]
  have eq : ∀ {k : Nat}, k ∉ vs → σ2[k]? = σ[k]? := fun {k} h => by rw [← wipe_out (σ := σ2) h, e, wipe_out h]
  refine ⟨s2.bh, by rw [mrg_length, ← hl, s.len], fun k T q => ?_, fun k S M q hm => ?_, fun k k' S S' M M' d q hm q' hm' => ?_⟩
  · rcases mrg_at hl q with ⟨m, q1⟩ | ⟨m, q1⟩
    · obtain ⟨v, h1, h2⟩ := s.is_ k T q1
      exact ⟨v, h1, T.mono g h2⟩
    · rw [← eq m]
      exact s2.is_ k T q1
  · rcases mrg_at hl q with ⟨m, q1⟩ | ⟨m, q1⟩
    · rw [n k m S q1] at hm
      cases hm
    · rw [← eq m]
      exact s2.own k S M q1 hm
  · rcases mrg_at hl q with ⟨m, q1⟩ | ⟨m, q1⟩
    · rw [n k m S q1] at hm
      cases hm
    rcases mrg_at hl q' with ⟨m', q2⟩ | ⟨m', q2⟩
    · rw [n k' m' S' q2] at hm'
      cases hm'
    rw [← eq m, ← eq m']
    exact s2.ap k k' S S' M M' d q1 hm q2 hm'
theorem Go.merge (s : Sat σ B H Γ) (s2 : Sat σ2 B' H' Γ2) (e : L2.wipe σ2 vs = L2.wipe σ vs) (g : Go (L2.wipe σ vs) (wipeG Γ vs) B H σ2 Γ2 B' H') (n : NoOwn vs Γ) : Go σ Γ B H σ (mrg vs Γ Γ2) B' H' := by
  have hl2 : σ2.length = σ.length := by rw [← wipe_length σ2 vs, e, wipe_length]
  have hl : Γ.length = Γ2.length := by rw [← s.len, ← hl2, s2.len]
  have eq : ∀ {k : Nat}, k ∉ vs → σ2[k]? = σ[k]? := fun {k} h => by rw [← wipe_out (σ := σ2) h, e, wipe_out h]
  have wout : ∀ {k : Nat} {S : Slot} {vs : List Nat}, (wipeG Γ vs)[k]? = some S → S ≠ .no → Γ[k]? = some S := fun {k S vs} => by
    induction vs with
    | nil => exact fun h _ => h
    | cons v vs ih =>
      intro h hne
      rcases get_set (show ((wipeG Γ vs).set v .no)[k]? = some S from h) with ⟨_, e⟩ | ⟨_, q⟩
      · exact absurd e hne
      · exact ih q hne
  have wo : ∀ a, Own (L2.wipe σ vs) (wipeG Γ vs) a → Own σ Γ a := fun a ⟨k, S, M, h1, h2, h3⟩ => ⟨k, S, M, wout h1 (fun z => by rw [z] at h2; cases h2), h2, (wipe_some h3).1⟩
  have ow : ∀ a, Own σ (mrg vs Γ Γ2) a → Own σ2 Γ2 a := fun a ⟨k, S, M, h1, h2, h3⟩ => by
    rcases mrg_at hl h1 with ⟨m, q1⟩ | ⟨m, q1⟩
    · rw [n k m S q1] at h2
      cases h2
    · exact ⟨k, S, M, q1, h2, by rw [eq m]; exact h3⟩
  refine ⟨g.same, g.bh, fun a o h h0 no => g.fr a o h h0 fun z => no (wo a z), fun a z => ?_, fun k S q f => ?_⟩
  · rcases g.ow a (ow a z) with q | q
    · exact .inl (wo a q)
    · exact .inr q
  · rcases mrg_at hl q with ⟨mm, q1⟩ | ⟨mm, q1⟩
    · exact absurd (n k mm _ q1) (fix_m f)
    · obtain ⟨e1, S0, e2, f2⟩ := g.bg k S q1 f
      exact ⟨rfl, S0, wout e2 (fun z => by rw [z] at f2; cases f2), f2⟩
end
/-- a comprehension's target -/
def WC (g : TG) (T : Ty) (Γ : List Slot) (vs : List Nat) (κ : List Slot → Prop) : Prop := ∀ (σ : L2.St) (B H : Hp) (v : V), Sat σ B H Γ → T.ok v B → ∀ k : L2.St → Hp → Prop, (∀ (σ' : L2.St) (B' H' : Hp) (Γ' : List Slot), κ Γ' → Sat σ' B' H' Γ' → Go σ Γ B H σ' Γ' B' H' → L2.wipe σ' vs = L2.wipe σ vs → k σ' H') → g v σ H k
def WCs (g : TGs) (Ts : List Ty) (Γ : List Slot) (vs : List Nat) (κ : List Slot → Prop) : Prop := ∀ (σ : L2.St) (B H : Hp) (ws : List V), Sat σ B H Γ → TyAll Ts ws B → ∀ k : L2.St → Hp → Prop, (∀ (σ' : L2.St) (B' H' : Hp) (Γ' : List Slot), κ Γ' → Sat σ' B' H' Γ' → Go σ Γ B H σ' Γ' B' H' → L2.wipe σ' vs = L2.wipe σ vs → k σ' H') → g ws σ H k
theorem wipe_set {σ : L2.St} {x : Option V} {i : Nat} : ∀ {vs : List Nat}, i ∈ vs → L2.wipe (σ.set i x) vs = L2.wipe σ vs := fun {vs} h => by
  refine List.ext_getElem? fun k => ?_
  by_cases hk : k ∈ vs
  · have f : ∀ (τ : L2.St), (L2.wipe τ vs)[k]? = if k < τ.length then some none else none := fun τ => by
      split
      · rename_i hl
        have e : (L2.wipe τ vs)[k]? = some ((L2.wipe τ vs)[k]'(by rw [wipe_length]; exact hl)) := List.getElem?_eq_getElem _
        cases q : (L2.wipe τ vs)[k]'(by rw [wipe_length]; exact hl) with
        | none => rw [e, q]
        | some v =>
          rw [q] at e
          exact absurd hk (wipe_some e).2
      · rename_i hl
        exact List.getElem?_eq_none (by rw [wipe_length]; omega)
    rw [f, f, List.length_set]
  · rw [wipe_out hk, wipe_out hk, List.getElem?_set_ne (fun z => hk (by rw [← z]; exact h))]
theorem wipe_wipe {σ : L2.St} {vs : List Nat} : L2.wipe (L2.wipe σ vs) vs = L2.wipe σ vs := by
  have f : ∀ ws : List Nat, (∀ w ∈ ws, w ∈ vs) → L2.wipe (L2.wipe σ ws) vs = L2.wipe σ vs := fun ws => by
    induction ws with
    | nil => exact fun _ => rfl
    | cons w ws ih =>
      intro h
      show L2.wipe ((L2.wipe σ ws).set w none) vs = _
      rw [wipe_set (h w List.mem_cons_self)]
      exact ih fun x hx => h x (List.mem_cons_of_mem _ hx)
  exact f vs fun _ h => h
section
variable {X : Xn} {Γ : List Slot} {K : PySem.W.Frag} {vs : List Nat}
theorem WC.name {i : Nat} {T : Ty} {κ : List Slot → Prop} (hi : i ∈ vs) (k : κ (Γ.set i (.is T))) : WC (gName i) T Γ vs κ := fun σ B H v s t q c => c _ B H _ k (s.put t) (go_put0 s.bh rfl) (wipe_set hi)
theorem WCs.nil {κ : List Slot → Prop} (k : κ Γ) : WCs gNil [] Γ vs κ := fun σ B H ws s t q c => by
  cases ws with
  | nil => exact ⟨rfl, c σ B H Γ k s (.refl s.bh) rfl⟩
  | cons _ _ => exact t.elim
theorem WCs.cons {g : TG} {gs : TGs} {T : Ty} {Ts : List Ty} {κ : List Slot → Prop} (h : WC g T Γ vs fun Γ1 => WCs gs Ts Γ1 vs κ) : WCs (gCons g gs) (T :: Ts) Γ vs κ := fun σ B H ws s t q c => by
  cases ws with
  | nil => exact t.elim
  | cons v r => exact ⟨v, r, rfl, h σ B H v s t.1 _ fun σ' B' H' Γ' k s' b w => k σ' B' H' r s' (TyAll.mono b.same t.2) _ fun σ2 B2 H2 Γ2 k2 s2 b2 w2 => c σ2 B2 H2 Γ2 k2 s2 (b.trans b2) (w2.trans w)⟩
theorem WC.tup {n : Nat} {gs : TGs} {Ts : List Ty} {κ : List Slot → Prop} (hn : Ts.length = n) (h : WCs gs Ts Γ vs κ) : WC (gTup K n gs) (tyT K Ts) Γ vs κ := fun σ B H v s t q c => by
  obtain ⟨a, xs, rfl, h1, h2⟩ := t
  exact ⟨a, xs, rfl, seqT_same s.bh h1, by rw [h2.length, hn], h σ B H xs s h2 q c⟩
theorem WT.yes {κ : Bool → List Slot → Prop} (k : κ true Γ) : WT X tYes Γ κ := fun σ B H s xo Q q => q true B H Γ k s (.refl s.bh)
/-- the comprehension, by an invariant over (turn, slots, what is made) -/
def LcGoal (X : Xn) (g : TG) (tt : TT) (te : TE) (vs : List Nat) (κ : MTy → List Slot → Prop) (Xs : List Ty) (Γ1 : List Slot) : Prop :=
  ∃ I : Nat → List Slot → List Ty → Prop, I 0 Γ1 [] ∧ (∀ (i : Nat) (T : Ty) (Γi : List Slot) (acc : List Ty), Xs[i]? = some T → I i Γi acc → NoOwn vs Γi ∧ acc.length < sizeLine ∧
    WC g T (wipeG Γi vs) vs fun Γ2 => WT X tt Γ2 fun b Γ3 => (b = true → WE X te Γ3 fun U Γ4 => I (i + 1) (mrg vs Γi Γ4) (acc ++ [U])) ∧ (b = false → I (i + 1) (mrg vs Γi Γ3) acc)) ∧ ∀ Γn acc, I Xs.length Γn acc → κ (mL acc) Γn
def rem (H : Hp) (D : Addr) : Hp := fun a => if a = D then none else H a
theorem upd_rem {H : Hp} {D : Addr} {o : HO} (h : H D = some o) : upd (rem H D) D o = H := by
  funext a
  unfold upd rem
  split
  · rename_i e
    rw [e, h]
  · rfl
theorem rem_upd {H : Hp} {D : Addr} {o : HO} : rem (upd H D o) D = rem H D := by
  funext a
  by_cases e : a = D
  · unfold rem
    rw [if_pos e, if_pos e]
  · unfold rem
    rw [if_neg e, if_neg e, upd_ne e]
theorem rem_none {H : Hp} {D : Addr} (h : H D = none) : rem H D = H := by
  funext a
  by_cases e : a = D
  · unfold rem
    rw [if_pos e, e, h]
  · unfold rem
    rw [if_neg e]
theorem rem_self {H : Hp} {D : Addr} : rem H D D = none := by unfold rem; rw [if_pos rfl]
theorem rem_ne {H : Hp} {D a : Addr} (h : a ≠ D) : rem H D a = H a := by unfold rem; rw [if_neg h]
/-- what is said with a thing that nobody speaks of holds without it, too -/
theorem Sat.rem {σ : L2.St} {B H : Hp} {D : Addr} (s : Sat σ B H Γ) (hB : B D = none) (no : ¬ Own σ Γ D) : Sat σ B (rem H D) Γ where
  bh := fun a u h => by
    have ne : a ≠ D := fun z => by rw [z, hB] at h; cases h
    rw [rem_ne ne]
    exact s.bh a u h
  len := s.len
  is_ := s.is_
  own := fun k S M h hm => by
    obtain ⟨a, o, h1, h2, h3, h4⟩ := s.own k S M h hm
    have ne : a ≠ D := fun z => no ⟨k, S, M, h, hm, by rw [h1, z]⟩
    exact ⟨a, o, h1, by rw [rem_ne ne]; exact h2, h3, h4⟩
  ap := s.ap
theorem Go.rem {σ σ' : L2.St} {B H B' H' : Hp} {Γ Γ' : List Slot} {D : Addr} (g : Go σ Γ B H σ' Γ' B' H') (hB : B' D = none) : Go σ Γ B (rem H D) σ' Γ' B' (rem H' D) where
  same := g.same
  bh := fun a u h => by
    have ne : a ≠ D := fun z => by rw [z, hB] at h; cases h
    rw [rem_ne ne]
    exact g.bh a u h
  fr := fun a o h h0 no => by
    have ne : a ≠ D := fun z => by rw [z, rem_self] at h; cases h
    rw [rem_ne ne] at h ⊢
    exact g.fr a o h h0 no
  ow := fun a z => by
    rcases g.ow a z with q | q
    · exact .inl q
    · refine .inr ?_
      by_cases e : a = D
      · rw [e, rem_self]
      · rw [rem_ne e]
        exact q
  bg := g.bg
theorem WO.lc {wi : TI} {g : TG} {tt : TT} {te : TE} {κ : MTy → List Slot → Prop} (h : WI X wi Γ fun Xs Γ1 => LcGoal X g tt te vs κ Xs Γ1) : WO X (tLc wi g tt te vs) Γ κ := fun σ B H s xo Q q =>
  h σ B H s xo _ fun J B1 H1 Xs Γ1 k1 s1 b1 it D nD => by
    obtain ⟨I, i0, ht, he⟩ := k1
    have nB : B1 D = none := base_none s1.bh nD
    have r0 : rem (upd H1 D (.lst [])) D = H1 := by rw [rem_upd, rem_none nD]
    let Inv : Nat → Hp → Prop := fun i H' => ∃ B' Γ' acc xs, I i Γ' acc ∧ Sat σ B' (DL.rem H' D) Γ' ∧ Go σ Γ1 B1 H1 σ Γ' B' (DL.rem H' D) ∧ B' D = none ∧ H' D = some (.lst xs) ∧ TyAll acc xs B'
    refine ⟨fun i m' H' => m' = Xs.length - i ∧ i ≤ Xs.length ∧ Inv i H', ⟨Xs.length, by simp, Nat.zero_le _, B1, Γ1, [], [], i0, by rw [r0]; exact s1, by rw [r0]; exact .refl s1.bh, nB, upd_same, trivial⟩, ?_⟩
    rintro i m' H' ⟨rfl, hi, B', Γ', acc, xs, hI, sr, br, nB', hD, hacc⟩
    have er : Eff [] B' (DL.rem H' D) B' H' := by
      have := Eff.newOwn (S := []) (o := .lst xs) sr.bh (p := D) rem_self
      rw [upd_rem hD] at this
      exact this
    have s' := sr.step er
    have b' : Go σ Γ1 B1 H1 σ Γ' B' H' := br.trans er.go
    have nO' : ¬ Own σ Γ' D := fun z => by
      obtain ⟨o, e, _⟩ := z.of_step sr
      rw [rem_self] at e
      cases e
    obtain ⟨g1, g2, g3⟩ := it B' H' b'.same s'.bh
    by_cases hlt : i < Xs.length
    · refine .inr ⟨g1 i hlt, Inv (i + 1), fun H2 q => ⟨Xs.length - (i + 1), by omega, rfl, hlt, q⟩, fun x H2 hy => ?_⟩
      obtain ⟨T, B2, e1, e2, e3⟩ := g3 i x H2 hlt hy
      obtain ⟨no, hsz, hg⟩ := ht i T Γ' acc e1 hI
      have s2 := s'.step e2
      have b2 : Go σ Γ1 B1 H1 σ Γ' B2 H2 := b'.trans e2.go
      have xoD : ExOk X σ Γ' B2 H2 := (xo.after b1).after b2
      have nD2 := e2.fr D _ hD nB'
      have hD2 := e2.ch D _ (by simp) hD
      refine hg (L2.wipe σ vs) B2 H2 x (s2.wipe vs) e3 _ fun σ3 B3 H3 Γ3 k3 s3 b3 w3 => ?_
      have w3' : L2.wipe σ3 vs = L2.wipe σ vs := w3.trans wipe_wipe
      have wg := Go.wipe (σ := σ) (Γ := Γ') s2.bh vs
      refine ⟨w3', k3 σ3 B3 H3 s3 (xoD.after (wg.trans b3)) _ fun b B4 H4 Γ4 k4 s4 b4 => ?_⟩
      have nw : ¬ Own (L2.wipe σ vs) (wipeG Γ' vs) D := fun z => by
        rcases wg.ow D z with z | z
        · exact nO' z
        · rw [hD2] at z
          cases z
      -- a later state, D taken out
      have out : ∀ {B5 H5 : Hp} {Γ5 : List Slot}, Sat σ3 B5 H5 Γ5 → Go (L2.wipe σ vs) (wipeG Γ' vs) B2 H2 σ3 Γ5 B5 H5 → Sat σ B5 (DL.rem H5 D) (mrg vs Γ' Γ5) ∧ Go σ Γ1 B1 H1 σ (mrg vs Γ' Γ5) B5 (DL.rem H5 D) ∧ B5 D = none ∧ H5 D = some (.lst xs) := fun {B5 H5 Γ5} s5 gin => by
        have sm := Sat.merge s2 s5 w3' gin.same no
        have gm := Go.merge s2 s5 w3' gin no
        obtain ⟨hD5, nD5⟩ := gin.fr D _ hD2 nD2 nw
        have nO5 : ¬ Own σ (mrg vs Γ' Γ5) D := fun z => by
          rcases gm.ow D z with z | z
          · exact nO' z
          · rw [hD2] at z
            cases z
        exact ⟨sm.rem nD5 nO5, br.trans ((e2.go.trans gm).rem nD5), nD5, hD5⟩
      cases b with
      | true =>
        refine if_true_of rfl (k4.1 rfl σ3 B4 H4 s4 (xoD.after ((wg.trans b3).trans b4)) _ fun y B5 H5 U Γ5 k5 s5 b5 t5 => ?_)
        obtain ⟨p1, p2, p3, p4⟩ := out s5 ((b3.trans b4).trans b5)
        exact ⟨xs, p4, by rw [hacc.length]; exact hsz, B5, _, acc ++ [U], xs ++ [y], k5, by rw [rem_upd]; exact p1, by rw [rem_upd]; exact p2, p3, upd_same, (hacc.mono (e2.bb.trans ((b3.trans b4).trans b5).same)).snoc t5⟩
      | false =>
        obtain ⟨p1, p2, p3, p4⟩ := out s4 (b3.trans b4)
        exact if_false_of rfl ⟨B4, _, acc, xs, k4.2 rfl, p1, p2, p3, p4, hacc.mono (e2.bb.trans (b3.trans b4).same)⟩
    · have e : i = Xs.length := by omega
      subst e
      have qq := q D (.lst xs) B' (DL.rem H' D) (mL acc) Γ' (he Γ' acc hI) sr (b1.trans br) rem_self ⟨xs, rfl, hacc⟩
      rw [upd_rem hD] at qq
      exact .inl ⟨g2, qq⟩
/-- a new thing that is not changed any more -/
theorem WE.ofO {te : TE} {κ : Ty → List Slot → Prop} (h : WO X te Γ fun M Γ1 => ∃ ts, M = mL ts ∧ κ (tyL ts) Γ1) : WE X te Γ κ := fun σ B H s xo Q q =>
  h σ B H s xo _ fun p o B1 H1 M Γ1 k1 s1 b1 n ok => by
    obtain ⟨ts, rfl, k⟩ := k1
    obtain ⟨xs, rfl, hx⟩ := ok
    have e : Eff [] B1 H1 (upd B1 p (.lst xs)) (upd H1 p (.lst xs)) := .new s1.bh n
    exact q _ _ _ (tyL ts) Γ1 k (s1.step e) (b1.trans e.go) ⟨p, xs, rfl, upd_same, hx.mono e.bb⟩
/-- the common case: nothing but the new list is changed; kept are the p with b p, each gives F p -/
theorem LcGoal.map {g : TG} {tt : TT} {te : TE} {κ : MTy → List Slot → Prop} {α : Type} (ps : List α) (f : α → Ty) (b : α → Bool) (F : α → Ty) (hn : NoOwn vs Γ) (hz : ps.length < sizeLine)
    (ht : ∀ p, p ∈ ps → WC g (f p) (wipeG Γ vs) vs fun Γ2 => WT X tt Γ2 fun c Γ3 => c = b p ∧ (c = true → WE X te Γ3 fun U Γ4 => U = F p ∧ mrg vs Γ Γ4 = Γ) ∧ (c = false → mrg vs Γ Γ3 = Γ))
    (k : κ (mL ((ps.filter b).map F)) Γ) : LcGoal X g tt te vs κ (ps.map f) Γ := by
  refine ⟨fun i Γi acc => Γi = Γ ∧ acc = ((ps.take i).filter b).map F, ⟨rfl, by simp⟩, ?_, ?_⟩
  · rintro i T Γi acc hT ⟨rfl, rfl⟩
    rw [List.getElem?_map] at hT
    cases hp : ps[i]? with
    | none => rw [hp] at hT; cases hT
    | some p =>
      rw [hp] at hT
      cases hT
      refine ⟨hn, ?_, fun σ B H v s t k q => ht p (List.mem_of_getElem? hp) σ B H v s t k fun σ' B' H' Γ2 h2 s' g' w => q σ' B' H' Γ2 (fun σ B H s xo Q q => h2 σ B H s xo Q fun c B' H' Γ3 h3 => q c B' H' Γ3 ?_) s' g' w⟩
      · rw [List.length_map]
        exact Nat.lt_of_le_of_lt (Nat.le_trans (List.length_filter_le ..) (List.length_take_le' ..)) hz
      · obtain ⟨hc, h4, h5⟩ := h3
        have e : ((ps.take (i + 1)).filter b).map F = ((ps.take i).filter b).map F ++ (if c = true then [F p] else []) := by
          rw [List.take_add_one, hp, List.filter_append, List.map_append, hc]
          cases hb : b p <;> simp [hb]
        refine ⟨fun h => (h4 h).imp fun U Γ4 ⟨e1, e2⟩ => ⟨e2, ?_⟩, fun h => ⟨h5 h, ?_⟩⟩
        · rw [e, if_pos h, e1]
        · rw [e, h]
          simp
  · rintro Γn acc ⟨rfl, rfl⟩
    rw [List.length_map, List.take_length]
    exact k
end
end DL
set_option Elab.async false
set_option linter.all false
set_option maxRecDepth 100000
set_option maxHeartbeats 2000000
/-! the second layer: contracts, calls, raise, try -/
namespace DL
open PySem L2 Lx
inductive Out where
  | ret (T : Ty)
  | exc (C : Addr) (f : Str) (T : Ty)
/-- one case of a contract: the arguments, what must hold, what may come out -/
structure Cs where
  args : List Ty
  pre : Prop := True
  out : Out → Prop
/-- a def that changes nothing -/
def spP {α : Type} (c : α → Cs) : Sp := fun vs H Q E => ∃ (x : α) (B : Hp), Same B H ∧ TyAll (c x).args vs B ∧ (c x).pre ∧ ∀ o, (c x).out o → match o with
  | .ret T => ∀ (v : V) (B' H' : Hp), Eff [] B H B' H' → T.ok v B' → Q v H'
  | .exc C f T => ∀ (v : V) (y : Addr) (B' H' : Hp), Eff [] B H B' H' → T.ok v B' → H' y = none → E (.ref C) (some y) (upd H' y (.xd [(f, v)]))
/-- a def that draws at most n numbers from its first argument -/
def spB {α : Type} (j n : Nat) (c : α → Cs) : Sp := fun vs H Q E => ∃ (x : α) (B : Hp) (b : Addr) (us : List V) (k : Nat) (o : HO), vs = .ref b :: us ∧ Same B H ∧ H b = some o ∧ B b = none ∧ BagOk j (k + n) o ∧ TyAll (c x).args us B ∧ (c x).pre ∧ ∀ r, (c x).out r → match r with
  | .ret T => ∀ (v : V) (B' H' : Hp) (o' : HO), Eff [b] B H B' H' → H' b = some o' → BagOk j k o' → T.ok v B' → Q v H'
  | .exc C f T => ∀ (v : V) (y : Addr) (B' H' : Hp) (o' : HO), Eff [b] B H B' H' → H' b = some o' → BagOk j k o' → T.ok v B' → H' y = none → E (.ref C) (some y) (upd H' y (.xd [(f, v)]))
section
variable {X : Xn} {σ : L2.St} {B H : Hp} {Γ : List Slot} {κ : Ty → List Slot → Prop} {K : PySem.W.Frag}
/-- what comes out is welcome -/
def Post (X : Xn) (κ : Ty → List Slot → Prop) (Γ : List Slot) : Out → Prop
  | .ret T => κ T Γ
  | .exc C f T => X.χ C f T Γ
/-- a contract is met by these arguments -/
def Meets {α : Type} (c : α → Cs) (Ts : List Ty) (W : Out → Prop) : Prop := ∃ x : α, Ts = (c x).args ∧ (c x).pre ∧ ∀ o, (c x).out o → W o
theorem apply_P {α : Type} {c : α → Cs} {Ts : List Ty} {vs : List V} {Q : VK} (s : Sat σ B H Γ) (xo : ExOk X σ Γ B H) (t : TyAll Ts vs B) (h : Meets c Ts (Post X κ Γ))
    (q : ∀ (v : V) (B' H' : Hp) (T : Ty), κ T Γ → Sat σ B' H' Γ → Go σ Γ B H σ Γ B' H' → T.ok v B' → Q v H') : spP c vs H Q (X.E σ) := by
  obtain ⟨x, rfl, hp, ho⟩ := h
  refine ⟨x, B, s.bh, t, hp, fun o hr => ?_⟩
  have w := ho o hr
  cases o with
  | ret T => exact fun v B' H' e ok => q v B' H' T w (s.step e) e.go ok
  | exc C f T => exact fun v y B' H' e ok n => xo σ v y B' H' C f T Γ w (s.step e) e.go ok n
/-- behind a call that drew from the source in slot i -/
theorem Sat.bag {B' H' : Hp} {i j k m : Nat} {b : Addr} {o' : HO} (s : Sat σ B H Γ) (hi : Γ[i]? = some (.bag j m)) (hb : σ[i]? = some (some (.ref b))) (e : Eff [b] B H B' H') (h' : H' b = some o') (g : BagOk j k o') :
    Sat σ B' H' (Γ.set i (.bag j k)) ∧ Go σ Γ B H σ (Γ.set i (.bag j k)) B' H' := by
  have hl : i < Γ.length := (List.getElem?_eq_some_iff.mp hi).1
  obtain ⟨b', o, e1, e2, e3, _⟩ := s.own i _ _ hi rfl
  rw [hb] at e1
  cases e1
  refine ⟨⟨e.bh, by rw [List.length_set]; exact s.len, fun k U q => ?_, fun k S U q hU => ?_, fun k k' S S' U U' d q hU q' hU' => ?_⟩, ⟨e.bb, e.bh, fun a u h n no => ?_, fun a ⟨k, S, U, h1, h2, h3⟩ => ?_, fun k' S0 q f => ?_⟩⟩
  · rcases get_set q with ⟨rfl, z⟩ | ⟨ne, q⟩
    · cases z
    · obtain ⟨v, h1, h2⟩ := s.is_ k U q
      exact ⟨v, h1, U.mono e.bb h2⟩
  · rcases get_set q with ⟨rfl, z⟩ | ⟨ne, q⟩
    · subst z
      cases hU
      exact ⟨b, o', hb, h', e.fr _ _ e2 e3, g⟩
    · obtain ⟨a, u, h1, h2, h3, h4⟩ := s.own k S U q hU
      have nb : a ≠ b := fun z => by
        have d := s.ap k i S _ U _ ne q hU hi rfl
        rw [h1, hb, z] at d
        exact d rfl
      exact ⟨a, u, h1, e.ch _ _ (fun z => nb (List.mem_singleton.mp z)) h2, e.fr _ _ h2 h3, U.mono e.bb h4⟩
  · have f : ∀ {x : Slot} {k : Nat} {S : Slot} {U : MTy}, (Γ.set i x)[k]? = some S → S.m = some U → ∃ S3 U', Γ[k]? = some S3 ∧ S3.m = some U' := fun {x k S U} q hU => by
      rcases get_set q with ⟨e, _⟩ | ⟨ne, q⟩
      · exact ⟨_, _, by rw [e]; exact hi, rfl⟩
      · exact ⟨S, U, q, hU⟩
    obtain ⟨S3, V1, q1, m1⟩ := f q hU
    obtain ⟨S4, V2, q2, m2⟩ := f q' hU'
    exact s.ap k k' S3 S4 V1 V2 d q1 m1 q2 m2
  · have nb : a ≠ b := fun z => no ⟨i, _, _, hi, rfl, by rw [hb, z]⟩
    exact ⟨e.ch _ _ (fun z => nb (List.mem_singleton.mp z)) h, e.fr _ _ h n⟩
  · rcases get_set h1 with ⟨e1', z⟩ | ⟨ne, q1⟩
    · subst e1'
      exact .inl ⟨k, _, _, hi, rfl, h3⟩
    · exact .inl ⟨k, S, U, q1, h2, h3⟩
  · rcases get_set q with ⟨e1', z⟩ | ⟨ne, q1⟩
    · rw [e1']
      exact ⟨rfl, _, hi, rfl⟩
    · exact ⟨rfl, S0, q1, f⟩
theorem apply_B {α : Type} {c : α → Cs} {Ts : List Ty} {us : List V} {Q : VK} {i j m n : Nat} {b : Addr} (s : Sat σ B H Γ) (xo : ExOk X σ Γ B H) (hi : Γ[i]? = some (.bag j m)) (hb : σ[i]? = some (some (.ref b))) (hn : n ≤ m) (t : TyAll Ts us B) (h : Meets c Ts (Post X κ (Γ.set i (.bag j (m - n)))))
    (q : ∀ (v : V) (B' H' : Hp) (T : Ty), κ T (Γ.set i (.bag j (m - n))) → Sat σ B' H' (Γ.set i (.bag j (m - n))) → Go σ Γ B H σ (Γ.set i (.bag j (m - n))) B' H' → T.ok v B' → Q v H') : spB j n c (.ref b :: us) H Q (X.E σ) := by
  obtain ⟨x, rfl, hp, ho⟩ := h
  obtain ⟨b', o, e1, e2, e3, e4⟩ := s.own i _ _ hi rfl
  rw [hb] at e1
  cases e1
  refine ⟨x, B, b, us, m - n, o, rfl, s.bh, e2, e3, by rw [Nat.sub_add_cancel hn]; exact e4, t, hp, fun r hr => ?_⟩
  have w := ho r hr
  cases r with
  | ret T =>
    intro v B' H' o' e h' g ok
    obtain ⟨s', g'⟩ := s.bag hi hb e h' g
    exact q v B' H' T w s' g' ok
  | exc C f T =>
    intro v y B' H' o' e h' g ok n
    obtain ⟨s', g'⟩ := s.bag hi hb e h' g
    exact xo σ v y B' H' C f T _ w s' g' ok n
theorem WE.call {α : Type} {c : α → Cs} {E : XK} {t : TA} (hE : ∀ σ, X.E σ = E) (h : WA X t Γ fun Ts Γ1 => Meets c Ts (Post X κ Γ1)) : WE X (tCall (spP c) [] E t) Γ κ := fun σ B H s xo Q q =>
  h σ B H s xo _ fun vs B1 H1 Ts Γ1 k1 s1 b1 t1 => by
    rw [List.append_nil, ← hE σ]
    exact apply_P s1 (xo.after b1) t1 k1 fun v B' H' T k s' g' ok => q v B' H' T Γ1 k s' (b1.trans g') ok
theorem WE.callS {α : Type} {c : α → Cs} {E : L2.St → XK} {t : TA} (hE : ∀ σ, X.E σ = E σ) (h : WA X t Γ fun Ts Γ1 => Meets c Ts (Post X κ Γ1)) : WE X (tCallS (spP c) E t) Γ κ := fun σ B H s xo Q q =>
  h σ B H s xo _ fun vs B1 H1 Ts Γ1 k1 s1 b1 t1 => by
    rw [← hE σ]
    exact apply_P s1 (xo.after b1) t1 k1 fun v B' H' T k s' g' ok => q v B' H' T Γ1 k s' (b1.trans g') ok
/-- a def that cannot raise, wherever exceptions go -/
theorem WE.call0 {α : Type} {c : α → Cs} {E : XK} {t : TA} (h : WA X t Γ fun Ts Γ1 => Meets c Ts fun o => ∃ T, o = .ret T ∧ κ T Γ1) : WE X (tCall (spP c) [] E t) Γ κ := fun σ B H s xo Q q =>
  h σ B H s xo _ fun vs B1 H1 Ts Γ1 k1 s1 b1 t1 => by
    rw [List.append_nil]
    obtain ⟨x, e1, e2, e3⟩ := k1
    exact apply_P (X := ⟨fun _ => E, fun _ _ _ _ => False⟩) s1 (fun _ _ _ _ _ _ _ _ _ z => z.elim) t1 ⟨x, e1, e2, fun o ho => by
      obtain ⟨T, rfl, k⟩ := e3 o ho
      exact k⟩ fun v B' H' T k s' g' ok => q v B' H' T Γ1 k s' (b1.trans g') ok
theorem WE.callB {α : Type} {c : α → Cs} {E : XK} {t : TA} {i j n m0 : Nat} (hE : ∀ σ, X.E σ = E) (h0 : Γ[i]? = some (.bag j m0)) (h : WA X t Γ fun Ts Γ1 => ∃ m, Γ1[i]? = some (.bag j m) ∧ n ≤ m ∧ Meets c Ts (Post X κ (Γ1.set i (.bag j (m - n))))) : WE X (tCall (spB j n c) [] E (tCons (tVar i) t)) Γ κ := fun σ B H s xo Q q => by
  obtain ⟨b, o, e1, e2, e3, e4⟩ := s.own i _ _ h0 rfl
  refine ⟨.ref b, e1, h σ B H s xo _ fun vs B1 H1 Ts Γ1 k1 s1 b1 t1 => ?_⟩
  show spB j n c (V.ref b :: (vs ++ [])) H1 Q E
  rw [List.append_nil, ← hE σ]
  obtain ⟨m, hi, hn, hm⟩ := k1
  exact apply_B s1 (xo.after b1) hi e1 hn t1 hm fun v B' H' T k s' g' ok => q v B' H' T _ k s' (b1.trans g') ok
/-- a def that draws and cannot raise -/
theorem WE.callB0 {α : Type} {c : α → Cs} {E : XK} {t : TA} {i j n m0 : Nat} (h0 : Γ[i]? = some (.bag j m0)) (h : WA X t Γ fun Ts Γ1 => ∃ m, Γ1[i]? = some (.bag j m) ∧ n ≤ m ∧ Meets c Ts fun o => ∃ T, o = .ret T ∧ κ T (Γ1.set i (.bag j (m - n)))) : WE X (tCall (spB j n c) [] E (tCons (tVar i) t)) Γ κ := fun σ B H s xo Q q => by
  obtain ⟨b, o, e1, e2, e3, e4⟩ := s.own i _ _ h0 rfl
  refine ⟨.ref b, e1, h σ B H s xo _ fun vs B1 H1 Ts Γ1 k1 s1 b1 t1 => ?_⟩
  show spB j n c (V.ref b :: (vs ++ [])) H1 Q E
  rw [List.append_nil]
  obtain ⟨m, hi, hn, x, a1, a2, a3⟩ := k1
  exact apply_B (X := ⟨fun _ => E, fun _ _ _ _ => False⟩) s1 (fun _ _ _ _ _ _ _ _ _ z => z.elim) hi e1 hn t1 ⟨x, a1, a2, fun o ho => by
    obtain ⟨T, rfl, k⟩ := a3 o ho
    exact k⟩ fun v B' H' T k s' g' ok => q v B' H' T _ k s' (b1.trans g') ok
theorem lookup_names {fs : List (Str × Ty)} : ∀ {ws : List (Str × V)} {m : Str}, ws.map Prod.fst = fs.map Prod.fst → fs.lookup m = none → ws.lookup m = none := by
  induction fs with
  | nil =>
    intro ws m e _
    cases ws with
    | nil => rfl
    | cons _ _ => cases e
  | cons p r ih =>
    intro ws m e h
    cases ws with
    | nil => rfl
    | cons y z =>
      obtain ⟨pn, pt⟩ := p
      obtain ⟨yn, yv⟩ := y
      simp only [List.map_cons, List.cons.injEq] at e
      obtain ⟨e0, e⟩ := e
      subst e0
      rw [List.lookup_cons] at h ⊢
      cases q : m == yn with
      | true =>
        rw [q] at h
        cases h
      | false =>
        rw [q] at h
        exact ih e h
/-- o.m(..) by a def of o's class -/
theorem WE.meth {α : Type} {C : Addr} {m : Str} {c : α → Cs} {E : XK} {ta : TE} {t : TA} (hE : ∀ σ, X.E σ = E) (h : WE X ta Γ fun T Γ1 => ∃ fs, T = tyO C fs ∧ fs.lookup m = none ∧ WA X t Γ1 fun Ts Γ2 => Meets c (T :: Ts) (Post X κ Γ2)) : WE X (tMeth C m (spP c) [] E ta t) Γ κ := fun σ B H s xo Q q =>
  h σ B H s xo _ fun v B1 H1 T Γ1 k1 s1 b1 t1 => by
    obtain ⟨fs, rfl, hm, k1⟩ := k1
    have t1' := t1
    obtain ⟨a, dx, ws, rfl, e1, e2, e3⟩ := t1
    refine ⟨a, dx, ws, rfl, s1.bh _ _ e1, lookup_names e2 hm, k1 σ B1 H1 s1 (xo.after b1) _ fun vs B2 H2 Ts Γ2 k2 s2 b2 t2 => ?_⟩
    rw [List.append_nil, ← hE σ]
    exact apply_P s2 (xo.after (b1.trans b2)) (vs := .ref a :: vs) (Ts := tyO C fs :: Ts) ⟨Ty.mono _ b2.same t1', t2⟩ k2 fun v B' H' T k s' g' ok => q v B' H' T Γ2 k s' ((b1.trans b2).trans g') ok
theorem WE.meth0 {α : Type} {C : Addr} {m : Str} {c : α → Cs} {E : XK} {ta : TE} {t : TA} (h : WE X ta Γ fun T Γ1 => ∃ fs, T = tyO C fs ∧ fs.lookup m = none ∧ WA X t Γ1 fun Ts Γ2 => Meets c (T :: Ts) fun o => ∃ T, o = .ret T ∧ κ T Γ2) : WE X (tMeth C m (spP c) [] E ta t) Γ κ := fun σ B H s xo Q q =>
  h σ B H s xo _ fun v B1 H1 T Γ1 k1 s1 b1 t1 => by
    obtain ⟨fs, rfl, hm, k1⟩ := k1
    have t1' := t1
    obtain ⟨a, dx, ws, rfl, e1, e2, e3⟩ := t1
    refine ⟨a, dx, ws, rfl, s1.bh _ _ e1, lookup_names e2 hm, k1 σ B1 H1 s1 (xo.after b1) _ fun vs B2 H2 Ts Γ2 k2 s2 b2 t2 => ?_⟩
    rw [List.append_nil]
    obtain ⟨x, a1, a2, a3⟩ := k2
    exact apply_P (X := ⟨fun _ => E, fun _ _ _ _ => False⟩) s2 (fun _ _ _ _ _ _ _ _ _ z => z.elim) (vs := .ref a :: vs) (Ts := tyO C fs :: Ts) ⟨Ty.mono _ b2.same t1', t2⟩ ⟨x, a1, a2, fun o ho => by
      obtain ⟨T, rfl, k⟩ := a3 o ho
      exact k⟩ fun v B' H' T k s' g' ok => q v B' H' T Γ2 k s' ((b1.trans b2).trans g') ok
theorem WE.methE {α : Type} {C : Addr} {m : Str} {c : α → Cs} {E : L2.St → XK} {ta : TE} {t : TA} (hE : ∀ σ, X.E σ = E σ) (h : WE X ta Γ fun T Γ1 => ∃ fs, T = tyO C fs ∧ fs.lookup m = none ∧ WA X t Γ1 fun Ts Γ2 => Meets c (T :: Ts) (Post X κ Γ2)) : WE X (tMethE C m (spP c) E ta t) Γ κ := fun σ B H s xo Q q =>
  h σ B H s xo _ fun v B1 H1 T Γ1 k1 s1 b1 t1 => by
    obtain ⟨fs, rfl, hm, k1⟩ := k1
    have t1' := t1
    obtain ⟨a, dx, ws, rfl, e1, e2, e3⟩ := t1
    refine ⟨a, dx, ws, rfl, s1.bh _ _ e1, lookup_names e2 hm, k1 σ B1 H1 s1 (xo.after b1) _ fun vs B2 H2 Ts Γ2 k2 s2 b2 t2 => ?_⟩
    rw [← hE σ]
    exact apply_P s2 (xo.after (b1.trans b2)) (vs := .ref a :: vs) (Ts := tyO C fs :: Ts) ⟨Ty.mono _ b2.same t1', t2⟩ k2 fun v B' H' T k s' g' ok => q v B' H' T Γ2 k s' ((b1.trans b2).trans g') ok
/-! raise -/
theorem WS.raise {κs : En} {C : Addr} {f : Str} {ta : TE} {W : WX} (hW : ∀ σ, X.E σ = fun cls d H => W cls d σ H) (h : WE X ta Γ fun T Γ1 => X.χ C f T Γ1) : WS X (fun _ σ H => tMkX C f ta σ H fun cls d H' => W cls d σ H') Γ κs := fun σ B H s xo D m =>
  h σ B H s xo _ fun v B1 H1 T Γ1 k1 s1 b1 t1 d nd => by
    have := xo σ v d B1 H1 C f T Γ1 k1 s1 b1 t1 nd
    rw [hW σ] at this
    exact this
/-! try -/
def tyEx (a dd : Addr) (f : Str) (T : Ty) : Ty := ⟨fun v H => v = .ref a ∧ ∃ x, H dd = some (.xd [(f, x)]) ∧ T.ok x H, fun s ⟨e, x, h, t⟩ => ⟨e, x, s _ _ h, T.mono s t⟩⟩
theorem WE.xf {a dd C : Addr} {f : Str} {te : TE} (h : WE X te Γ fun T0 Γ1 => ∃ T, T0 = tyEx a dd f T ∧ κ T Γ1) : WE X (tXf a (.ref C) (some dd) C f te) Γ κ := fun σ B H s xo Q q =>
  h σ B H s xo _ fun v B1 H1 T Γ1 k1 s1 b1 t1 => by
    obtain ⟨T, rfl, k⟩ := k1
    obtain ⟨rfl, x, e1, e2⟩ := t1
    exact ⟨rfl, rfl, dd, _, x, rfl, s1.bh _ _ e1, (by simp [List.lookup]), q x B1 H1 T Γ1 k s1 b1 e2⟩
def unnameK (i : Nat) (κ : En) : En := { nx := fun Γ' => κ.nx (Γ'.set i .no), rt := κ.rt, bk := fun Γ' => κ.bk (Γ'.set i .no), ct := fun Γ' => κ.ct (Γ'.set i .no) }
def ClOk (K : PySem.W.Frag) (X : Xn) (κ : En) : List Clause → Addr → Str → Ty → List Slot → Prop
  | [], C, f, T, Γ' => X.χ C f T Γ'
  | (c, i, ts) :: r, C, f, T, Γ' => (PySem.W.exmOne K (.ref C) c = some true ∧ ∀ a dd, WS X (ts a (.ref C) (some dd)) (Γ'.set i (.is (tyEx a dd f T))) (unnameK i κ)) ∨ (PySem.W.exmOne K (.ref C) c = some false ∧ ClOk K X κ r C f T Γ')
theorem Met.unname {κs : En} {D : Ends} {i : Nat} (m : Met σ Γ B H κs D) : Met σ Γ B H (unnameK i κs) (Lx.unname i D) :=
  ⟨fun σ' B' H' Γ' k s g => m.nx _ _ _ _ k (s.put0 rfl nofun) (g.trans (go_put0 s.bh rfl)), m.rt, fun σ' B' H' Γ' k s g => m.bk _ _ _ _ k (s.put0 rfl nofun) (g.trans (go_put0 s.bh rfl)), fun σ' B' H' Γ' k s g => m.ct _ _ _ _ k (s.put0 rfl nofun) (g.trans (go_put0 s.bh rfl))⟩
theorem cl_ok {κs : En} {D : Ends} {out : WX} {C : Addr} {f : Str} {T : Ty} {v : V} {y : Addr} (hW : ∀ σ, X.E σ = fun cls d H => out cls d σ H) (s : Sat σ B H Γ) (xo : ExOk X σ Γ B H) (m : Met σ Γ B H κs D) (t : T.ok v B) (n : H y = none) :
    ∀ {l : List Clause}, ClOk K X κs l C f T Γ → wNamed K out D l (.ref C) (some y) σ (upd H y (.xd [(f, v)]))
  | [], h => by
    have := xo σ v y B H C f T Γ h s (.refl s.bh) t n
    rw [hW σ] at this
    exact this
  | (c, i, ts) :: r, h => by
    rcases h with ⟨e, w⟩ | ⟨e, w⟩
    · refine ⟨true, e, fun _ a na => ?_, nofun⟩
      have ef : Eff [] B H (upd B y (.xd [(f, v)])) (upd H y (.xd [(f, v)])) := .new s.bh n
      have s2 := (s.step ef).put (i := i) (v := .ref a) (T := tyEx a y f T) ⟨rfl, v, upd_same, T.mono ef.bb t⟩
      have g2 : Go σ Γ B H _ _ _ _ := ef.go.trans (go_put0 (i := i) (x := some (.ref a)) (S := .is (tyEx a y f T)) (s.step ef).bh rfl)
      exact w a y _ _ _ s2 (xo.after g2) _ (m.same g2).unname
    · exact ⟨false, e, nofun, fun _ => cl_ok hW s xo m t n w⟩
theorem WS.try {κs : En} {tb : WX → TS} {l : List Clause} {out : WX} (hW : ∀ σ, X.E σ = fun cls d H => out cls d σ H)
    (h : ∀ D : Ends, WS ⟨fun σ cls d H => wNamed K out D l cls d σ H, ClOk K X κs l⟩ (tb (wNamed K out D l)) Γ κs) : WS X (fun D σ H => tb (wNamed K out D l) D σ H) Γ κs := fun σ B H s xo D m =>
  h D σ B H s (fun σ' v y B' H' C f T Γ' c s' g t n => cl_ok hW s' (xo.after g) (m.same g) t n c) D m
end
/-! a def's body -/
section
variable {α : Type} {c : α → Cs} {vs : List V} {H : Hp} {Q : VK} {E : XK} {N : List Str}
def start8 (N : List Str) (S : List Slot) : List Slot := S ++ List.replicate (N.length - S.length) .no
theorem start_len (hl : vs.length ≤ N.length) : (L2.start N vs).length = N.length := by
  unfold L2.start
  rw [List.length_append, List.length_map, List.length_replicate]
  omega
theorem sat_start {B : Hp} {Ts : List Ty} {S : List Slot} (bh : Same B H) (hl : vs.length ≤ N.length) (e : S.length = vs.length) (hS : ∀ (i : Nat) (T : Ty), S[i]? = some (.is T) → ∃ v, vs[i]? = some v ∧ T.ok v B)
    (ho : ∀ (i : Nat) (S' : Slot) (M : MTy), S[i]? = some S' → S'.m = some M → i = 0 ∧ ∃ a o, vs[0]? = some (.ref a) ∧ H a = some o ∧ B a = none ∧ M.ok a o B) : Sat (L2.start N vs) B H (start8 N S) := by
  have gl : ∀ {i : Nat} {x : Slot}, (start8 N S)[i]? = some x → S[i]? = some x ∨ x = .no := fun {i x} h => by
    unfold start8 at h
    rcases Nat.lt_or_ge i S.length with q | q
    · rw [List.getElem?_append_left q] at h
      exact .inl h
    · rw [List.getElem?_append_right q] at h
      exact .inr (List.eq_of_mem_replicate (List.mem_of_getElem? h))
  have gs : ∀ {i : Nat} {v : V}, vs[i]? = some v → (L2.start N vs)[i]? = some (some v) := fun {i v} h => by
    unfold L2.start
    rw [List.getElem?_append_left (by rw [List.length_map]; exact (List.getElem?_eq_some_iff.mp h).1), List.getElem?_map, h]
    rfl
  refine ⟨bh, ?_, fun i T h => ?_, fun i S' M h hm => ?_, fun i i' S1 S2 M M' d h hm h' hm' => ?_⟩
  · rw [start_len hl]
    unfold start8
    rw [List.length_append, List.length_replicate]
    omega
  · rcases gl h with q | q
    · obtain ⟨v, h1, h2⟩ := hS i T q
      exact ⟨v, gs h1, h2⟩
    · cases q
  · rcases gl h with q | q
    · obtain ⟨rfl, a, o, h1, h2⟩ := ho i S' M q hm
      exact ⟨a, o, gs h1, h2⟩
    · rw [q] at hm
      cases hm
  · rcases gl h with q | q
    · rcases gl h' with q' | q'
      · obtain ⟨rfl, _⟩ := ho i S1 M q hm
        obtain ⟨rfl, _⟩ := ho i' S2 M' q' hm'
        exact absurd rfl d
      · rw [q'] at hm'
        cases hm'
    · rw [q] at hm
      cases hm
theorem run_P {t : TS} (hl : ∀ x, (c x).args.length ≤ N.length) (h : spP c vs H Q E)
    (body : ∀ x : α, (c x).pre → WS ⟨fun _ => E, fun C f T _ => (c x).out (.exc C f T)⟩ t (start8 N ((c x).args.map .is)) { nx := fun _ => (c x).out (.ret tyN), rt := fun T _ => (c x).out (.ret T) }) :
    t { nx := fun _ H' => Q .non H', rt := Q } (L2.start N vs) H := by
  obtain ⟨x, B, bh, ta, hp, ho⟩ := h
  have sa : Sat (L2.start N vs) B H (start8 N ((c x).args.map .is)) := sat_start (Ts := (c x).args) bh (by rw [ta.length]; exact hl x) (by rw [List.length_map, ta.length]) (fun i T q => by
    rw [List.getElem?_map] at q
    cases e : (c x).args[i]? with
    | none => rw [e] at q; cases q
    | some U =>
      rw [e] at q
      cases q
      exact ta.get e) (fun i S' M q hm => by
    rw [List.getElem?_map] at q
    cases e : (c x).args[i]? with
    | none => rw [e] at q; cases q
    | some U =>
      rw [e] at q
      cases q
      cases hm)
  have no : ∀ a, ¬ Own (L2.start N vs) (start8 N ((c x).args.map .is)) a := fun a ⟨i, S, M, h1, h2, h3⟩ => by
    unfold start8 at h1
    rcases Nat.lt_or_ge i ((c x).args.map Slot.is).length with q | q
    · rw [List.getElem?_append_left q, List.getElem?_map] at h1
      cases e : (c x).args[i]? with
      | none => rw [e] at h1; cases h1
      | some U =>
        rw [e] at h1
        cases h1
        cases h2
    · rw [List.getElem?_append_right q] at h1
      rw [List.eq_of_mem_replicate (List.mem_of_getElem? h1)] at h2
      cases h2
  have ef : ∀ {σ' : L2.St} {Γ' : List Slot} {B' H' : Hp}, Go (L2.start N vs) (start8 N ((c x).args.map .is)) B H σ' Γ' B' H' → Eff [] B H B' H' := fun {σ' Γ' B' H'} g =>
    have all : ∀ a o, H a = some o → H' a = some o := fun a o h => by
      cases e : B a with
      | none => exact (g.fr a o h e (no a)).1
      | some u =>
        have h2 := bh a u e
        rw [h] at h2
        cases h2
        exact g.bh a o (g.same a o e)
    ⟨g.same, g.bh, fun a o h e => (g.fr a o h e (no a)).2, fun a o _ h => all a o h, fun a o h => ⟨o, all a o h⟩⟩
  refine body x hp _ B H sa (fun σ' v y B' H' C f T Γ' k s g ok n => ho _ k v y B' H' (ef g) ok n) _ ⟨fun σ' B' H' Γ' k s g => ho _ k .non B' H' (ef g) rfl, fun σ' v B' H' T Γ' k s g ok => ho _ k v B' H' (ef g) ok, fun _ _ _ _ k => k.elim, fun _ _ _ _ k => k.elim⟩
theorem run_B {t : TS} {j n : Nat} (hl : ∀ x, (c x).args.length + 1 ≤ N.length) (h : spB j n c vs H Q E)
    (body : ∀ (x : α) (k : Nat), (c x).pre → WS ⟨fun _ => E, fun C f T Γ' => (∃ m, Γ'[0]? = some (.bag j m) ∧ k ≤ m) ∧ (c x).out (.exc C f T)⟩ t (start8 N (.bag j (k + n) :: (c x).args.map .is)) { nx := fun Γ' => (∃ m, Γ'[0]? = some (.bag j m) ∧ k ≤ m) ∧ (c x).out (.ret tyN), rt := fun T Γ' => (∃ m, Γ'[0]? = some (.bag j m) ∧ k ≤ m) ∧ (c x).out (.ret T) }) :
    t { nx := fun _ H' => Q .non H', rt := Q } (L2.start N vs) H := by
  obtain ⟨x, B, b, us, k, o, rfl, bh, hb, nb, hg, ta, hp, ho⟩ := h
  have sa : Sat (L2.start N (.ref b :: us)) B H (start8 N (.bag j (k + n) :: (c x).args.map .is)) := sat_start (Ts := (c x).args) bh (by rw [List.length_cons, ta.length]; exact hl x) (by rw [List.length_cons, List.length_cons, List.length_map, ta.length]) (fun i T q => by
    cases i with
    | zero => cases q
    | succ i =>
      rw [List.getElem?_cons_succ, List.getElem?_map] at q
      cases e : (c x).args[i]? with
      | none => rw [e] at q; cases q
      | some U =>
        rw [e] at q
        cases q
        exact ta.get e) (fun i S' M q hm => by
    cases i with
    | zero =>
      cases q
      cases hm
      exact ⟨rfl, b, o, rfl, hb, nb, hg⟩
    | succ i =>
      rw [List.getElem?_cons_succ, List.getElem?_map] at q
      cases e : (c x).args[i]? with
      | none => rw [e] at q; cases q
      | some U =>
        rw [e] at q
        cases q
        cases hm)
  have st0 : (L2.start N (.ref b :: us))[0]? = some (some (V.ref b)) := rfl
  have no : ∀ a, a ≠ b → ¬ Own (L2.start N (.ref b :: us)) (start8 N (.bag j (k + n) :: (c x).args.map .is)) a := fun a ne ⟨i, S, M, h1, h2, h3⟩ => by
    cases i with
    | zero =>
      rw [st0] at h3
      cases h3
      exact ne rfl
    | succ i =>
      unfold start8 at h1
      rcases Nat.lt_or_ge (i + 1) (Slot.bag j (k + n) :: (c x).args.map Slot.is).length with q | q
      · rw [List.getElem?_append_left q, List.getElem?_cons_succ, List.getElem?_map] at h1
        cases e : (c x).args[i]? with
        | none => rw [e] at h1; cases h1
        | some U =>
          rw [e] at h1
          cases h1
          cases h2
      · rw [List.getElem?_append_right q] at h1
        rw [List.eq_of_mem_replicate (List.mem_of_getElem? h1)] at h2
        cases h2
  have ef : ∀ {σ' : L2.St} {Γ' : List Slot} {B' H' : Hp}, (∃ m, Γ'[0]? = some (.bag j m) ∧ k ≤ m) → Sat σ' B' H' Γ' → Go (L2.start N (.ref b :: us)) (start8 N (.bag j (k + n) :: (c x).args.map .is)) B H σ' Γ' B' H' → ∃ o', Eff [b] B H B' H' ∧ H' b = some o' ∧ BagOk j k o' := fun {σ' Γ' B' H'} ⟨m, hm, hk⟩ s g => by
    obtain ⟨e0, _⟩ := g.bg 0 _ hm rfl
    obtain ⟨b', o', q1, q2, q3, q4⟩ := s.own 0 _ _ hm rfl
    rw [e0, st0] at q1
    cases q1
    have all : ∀ a o, a ≠ b → H a = some o → H' a = some o := fun a o ne h => by
      cases e : B a with
      | none => exact (g.fr a o h e (no a ne)).1
      | some u =>
        have h2 := bh a u e
        rw [h] at h2
        cases h2
        exact g.bh a o (g.same a o e)
    refine ⟨o', ⟨g.same, g.bh, fun a o h e => ?_, fun a o n h => all a o (fun z => n (List.mem_singleton.mpr z)) h, fun a o h => ?_⟩, q2, BagOk.le q4 hk⟩
    · by_cases z : a = b
      · rw [z]
        exact q3
      · exact (g.fr a o h e (no a z)).2
    · by_cases z : a = b
      · exact ⟨o', by rw [z]; exact q2⟩
      · exact ⟨o, all a o z h⟩
  refine body x k hp _ B H sa (fun σ' v y B' H' C f T Γ' kk s g ok n => ?_) _ ⟨fun σ' B' H' Γ' kk s g => ?_, fun σ' v B' H' T Γ' kk s g ok => ?_, fun _ _ _ _ kk => kk.elim, fun _ _ _ _ kk => kk.elim⟩
  · obtain ⟨o', e1, e2, e3⟩ := ef kk.1 s g
    exact ho _ kk.2 v y B' H' o' e1 e2 e3 ok n
  · obtain ⟨o', e1, e2, e3⟩ := ef kk.1 s g
    exact ho _ kk.2 .non B' H' o' e1 e2 e3 rfl
  · obtain ⟨o', e1, e2, e3⟩ := ef kk.1 s g
    exact ho _ kk.2 v B' H' o' e1 e2 e3 ok
end
end DL
set_option Elab.async false
set_option linter.all false
set_option maxRecDepth 100000
set_option maxHeartbeats 2000000
/-! tuples whose object is known: made from lists; their method index -/
namespace Lx
open PySem PySem.Spec PyProof.Rows L2
section
variable {X : Cx} {K : PySem.W.Frag}
def rTupF (K : PySem.W.Frag) : List V → Hp → VK → Prop := fun xs H Q => ∃ p ys, xs = [.ref p] ∧ SqL K H p ys ∧ ∀ (l : Addr) (o : Obj), H l = none → o.dict = none → Q (.ref l) (upd H l (.frz o (.tup ys)))
theorem call_tupleF : CallR X (.type "tuple") (rTupF X.K) := by
  intro pins s σ H xs us Q I r h
  obtain ⟨p, ys, rfl, hq, q⟩ := h
  obtain ⟨u, rfl, rx⟩ := vals1 r
  cases rx
  obtain ⟨its, r', pl, hz⟩ := I.list hq
  have hlen := r'.length
  refine call_tuple_list pl.isList (fun h' kp => ?_) (by simp only [List.size_toArray] <;> omega)
  have I1 : Inv X pins σ H { s with heap := h' } := I.kept (t' := s.toks) kp
  have new : (h'.push { cls := .type "tuple", data := .seq its.toArray }).get? h'.objs.size = some { cls := .type "tuple", data := .seq its.toArray } := Heap.get?_push_size _ rfl
  have I2 : Inv X pins σ (upd H h'.objs.size (.frz { cls := .type "tuple", data := .seq its.toArray } (.tup ys))) { s with heap := h'.push { cls := .type "tuple", data := .seq its.toArray } } :=
    I1.laid (t' := s.toks) (fun b o e => Heap.get?_push_of_some _ e) (Nat.le_refl _) (show ObjOk X.prog X.w _ _ _ (.frz _ (.tup ys)) from ⟨new, hz, its, r', IsTup.new _ _⟩)
  exact ⟨.ref h'.objs.size, _, I2, rfl, q _ _ (I1.hok.fresh (Nat.le_refl _)) rfl⟩
theorem call_tupleFK (e : X.K = K) : CallR X (.type "tuple") (rTupF K) := e ▸ call_tupleF
/-- a method of such a tuple -/
def tTM (r : V → List V → Hp → VK → Prop) (to : TE) (t : TA) : TE := fun σ H Q => to σ H fun x H1 => (∃ a o xs, x = .ref a ∧ H1 a = some (.frz o (.tup xs)) ∧ o.dict = none) ∧ t σ H1 fun xs H2 => r x xs H2 Q
def rTupIx (K : PySem.W.Frag) : V → List V → Hp → VK → Prop := fun x xs H Q => ∃ p, ∃ ys : List Str, ∃ z j, x = V.ref p ∧ xs = [.str z] ∧ SqT K H p (ys.map V.str) ∧ ys[j]? = some z ∧ (∀ m, m < j → ys[m]? ≠ some z) ∧ Q (.int (j : Nat)) H
variable {o e : Expr} {es : List Expr} {to : TE} {t : TA} {name : Str} {apos cpos : Pos} {T id : String} {r : V → List V → Hp → VK → Prop}
theorem pe_tm (pa : PlainAttrs "tuple") (slot : Slot "tuple" name id) (hty : typeOf (.builtin id) = pure (.type "method_descriptor")) (hm : MtR X id r) (ho : PE X o to) (ha : PA X (e :: es) t)
    (hbase : attributeBase o name X.env (eval o X.env) = eval o X.env := by rfl)
    (hfew : ((backTo cpos (starEach (e :: es) X.env)).all (fun x => !x.1) && (backToKw cpos (keywordEach [] X.env)).all (fun x => x.1.isSome)
      && decide ((e :: es).length + ([] : List Keyword).length + (if ([] : List Keyword).isEmpty then 0 else 1) < 30)) = true := by rfl)
    (hline : (apos.endLine == cpos.line) = true := by rfl) (hs : starEach (e :: es) X.env = (false, eval e X.env) :: starEach es X.env := by rfl) (hplain : (backTo cpos (starEach es X.env)).any (·.1) = false := by rfl) :
    PE X (.Call (.Attribute o name apos) (e :: es) [] cpos) (tTM r to t) := by
  refine ⟨fun pins s σ H Q I h => ?_⟩
  refine wpAny_Call_method_late hbase hfew hline rfl (thn (ho.run pins s σ H _ I h) fun v s1 ⟨x, H1, I1, r1, ty, q1⟩ => ?_)
  obtain ⟨a, ob, xs, rfl, hH, hd⟩ := ty
  obtain rfl : v = Value.ref a := r1
  obtain ⟨g, _, its, _, o2, g2, hc, _⟩ := (show ObjOk X.prog X.w H1 s1.heap a (.frz ob (.tup xs)) from I1.hok a _ hH)
  rw [g] at g2
  cases g2
  refine ⟨"tuple", id, pa, slot, hty, ⟨ob, g, hc⟩, fun b eb => ?_, ?_⟩
  · cases eb
    exact ⟨ob, g, hd⟩
  have hA := ha.run cpos pins s1 σ H1 _ I1 q1
  rw [hs] at hA ⊢
  refine Calls.callWith_builtin (by show (false || (backTo cpos (starEach es X.env)).any (·.1)) = false; rw [hplain] <;> rfl) (Calls.evalArgs_plain ?_)
  exact thn hA fun us s2 ⟨vs, H2, I2, r2, q2⟩ => hm pins s2 σ H2 (.ref a) vs (.ref a) us Q I2 rfl r2 q2
theorem mt_tupIx : MtR X "tuple.index" (rTupIx X.K) := mt_tup_index
theorem mt_tupIxK (e : X.K = K) : MtR X "tuple.index" (rTupIx K) := e ▸ mt_tup_index
end
end Lx
set_option Elab.async false
set_option linter.all false
set_option maxRecDepth 100000
set_option maxHeartbeats 2000000
/-! the second layer: operators, built-ins, methods -/
namespace DL
open PySem L2 Lx PyProof.Rows
section
variable {K : PySem.W.Frag} {κ : Ty → Prop}
theorem r2_I0 {g : Int → Int → V} {i j : Int} (k : κ (tyV (g i j))) : R2w (rI0 g) (tyI i) (tyI j) κ := fun x y B H Q bh hx hy q => ⟨i, j, hx, hy, q _ B H _ k (.refl bh) rfl⟩
theorem r2_I {C : Int → Int → Prop} {g : Int → Int → V} {i j : Int} (hc : C i j) (k : κ (tyV (g i j))) : R2w (rI C g) (tyI i) (tyI j) κ := fun x y B H Q bh hx hy q => ⟨i, j, hx, hy, hc, q _ B H _ k (.refl bh) rfl⟩
theorem r2_eq {a b : V} (hs : scal a b = true) (k : κ (tyB (decide (a = b)))) : R2w rEq (tyV a) (tyV b) κ := fun x y B H Q bh hx hy q => by
  cases hx
  cases hy
  exact ⟨hs, q _ B H _ k (.refl bh) rfl⟩
theorem r2_ne {a b : V} (hs : scal a b = true) (k : κ (tyB (!decide (a = b)))) : R2w rNe (tyV a) (tyV b) κ := fun x y B H Q bh hx hy q => by
  cases hx
  cases hy
  exact ⟨hs, q _ B H _ k (.refl bh) rfl⟩
theorem r2_addS {a b : Str} (h : a.length + b.length ≤ sizeLine) (k : κ (tyS (a ++ b))) : R2w (fun x y H Q => ∃ i j, x = .str i ∧ y = .str j ∧ i.length + j.length ≤ sizeLine ∧ Q (.str (i ++ j)) H) (tyS a) (tyS b) κ := fun x y B H Q bh hx hy q => ⟨a, b, hx, hy, h, q _ B H _ k (.refl bh) rfl⟩
theorem r2_leS {a b : Str} (k : κ (tyB (!decide (b.cps.toList < a.cps.toList)))) : R2w (fun x y H Q => ∃ i j, x = .str i ∧ y = .str j ∧ Q (.bl (!decide (j.cps.toList < i.cps.toList))) H) (tyS a) (tyS b) κ := fun x y B H Q bh hx hy q => ⟨a, b, hx, hy, q _ B H _ k (.refl bh) rfl⟩
theorem r2_inS {a b : Str} (k : κ (tyB (!(Builtin.Str.occurrences b a 0 b.length 1).isEmpty))) : R2w (fun x y H Q => ∃ i j, x = .str i ∧ y = .str j ∧ Q (.bl (!(Builtin.Str.occurrences j i 0 j.length 1).isEmpty)) H) (tyS a) (tyS b) κ := fun x y B H Q bh hx hy q => ⟨a, b, hx, hy, q _ B H _ k (.refl bh) rfl⟩
theorem r2_sgn {c : Nat} {z : Str} (k : κ (tyB (decide (c ∈ z.cps.toList)))) : R2w (fun x y H Q => ∃ (c : Nat) (z : Str), x = .str ⟨#[c]⟩ ∧ y = .str z ∧ Q (.bl (decide (c ∈ z.cps.toList))) H) (tyS ⟨#[c]⟩) (tyS z) κ := fun x y B H Q bh hx hy q => ⟨c, z, hx, hy, q _ B H _ k (.refl bh) rfl⟩
theorem atI_ty {H : Hp} {ts : List Ty} {xs : List V} {i : Int} {T : Ty} (t : TyAll ts xs H) (h : atI ts i = some T) : ∃ v, atI xs i = some v ∧ T.ok v H := by
  unfold atI at h ⊢
  rw [t.length]
  cases e : ixN ts.length i with
  | none => rw [e] at h; cases h
  | some j =>
    rw [e] at h
    exact t.get h
theorem atI_lt {α : Type} {ts : List α} {i : Int} (h0 : 0 ≤ i) (h1 : i < ts.length) : ∃ T, atI ts i = some T ∧ ts[i.toNat]? = some T := by
  have hl : i.toNat < ts.length := by omega
  refine ⟨ts[i.toNat], ?_, List.getElem?_eq_getElem hl⟩
  have q := atI_nat (xs := ts) (j := i.toNat) (v := ts[i.toNat]) (List.getElem?_eq_getElem hl)
  rw [Int.toNat_of_nonneg h0] at q
  exact q
theorem r2_ixL {ts : List Ty} {i : Int} (T : Ty) (h : atI ts i = some T) (k : κ T) : R2w (rIxL K) (tyL ts) (tyI i) κ := fun x y B H Q bh hx hy q => by
  obtain ⟨a, xs, rfl, h1, h2⟩ := hx
  obtain ⟨v, e1, e2⟩ := atI_ty h2 h
  exact ⟨a, xs, i, v, rfl, hy, SqL.of (bh _ _ h1), e1, q _ B H T k (.refl bh) e2⟩
theorem r2_ixT {ts : List Ty} {i : Int} (T : Ty) (h : atI ts i = some T) (k : κ T) : R2w (rIxT K) (tyT K ts) (tyI i) κ := fun x y B H Q bh hx hy q => by
  obtain ⟨a, xs, rfl, h1, h2⟩ := hx
  obtain ⟨v, e1, e2⟩ := atI_ty h2 h
  exact ⟨a, xs, i, v, rfl, hy, seqT_same bh h1, e1, q _ B H T k (.refl bh) e2⟩
theorem r2_ixS {z : Str} {i : Int} (c : Nat) (hz : z.length ≤ sizeLine) (h : atI z.cps.toList i = some c) (k : κ (tyS ⟨#[c]⟩)) : R2w rIxS (tyS z) (tyI i) κ := fun x y B H Q bh hx hy q => ⟨z, i, c, hx, hy, hz, h, q _ B H _ k (.refl bh) rfl⟩
theorem r2_cat {ts us : List Ty} (h : ts.length + us.length ≤ sizeLine) (k : κ (tyL (ts ++ us))) : R2w rCat (tyL ts) (tyL us) κ := fun x y B H Q bh hx hy q => by
  obtain ⟨a, xs, rfl, h1, h2⟩ := hx
  obtain ⟨b, ys, rfl, h3, h4⟩ := hy
  exact ⟨a, b, xs, ys, rfl, rfl, bh _ _ h1, bh _ _ h3, by rw [h2.length, h4.length]; exact h, fun p np => q _ _ _ _ k (.new bh np) ⟨p, _, rfl, upd_same, (h2.append h4).mono (Lx.Same.new (base_none bh np))⟩⟩
theorem r2_in {neg : Bool} {a : V} {xs : List V} (fa : flatV a = true) (fx : xs.all flatV = true) (k : κ (tyB (if neg then !inV a xs else inV a xs))) : R2w (rIn K neg) (tyV a) (tyL (xs.map tyV)) κ := fun x y B H Q bh hx hy q => by
  obtain ⟨b, ys, rfl, h3, h4⟩ := hy
  obtain rfl := h4.vals
  cases hx
  exact ⟨b, _, rfl, .inl (SqL.of (bh _ _ h3)), fa, fx, q _ B H _ k (.refl bh) rfl⟩
theorem r2_inT {neg : Bool} {a : V} {xs : List V} (fa : flatV a = true) (fx : xs.all flatV = true) (k : κ (tyB (if neg then !inV a xs else inV a xs))) : R2w (rIn K neg) (tyV a) (tyT K (xs.map tyV)) κ := fun x y B H Q bh hx hy q => by
  obtain ⟨b, ys, rfl, h3, h4⟩ := hy
  obtain rfl := h4.vals
  cases hx
  exact ⟨b, _, rfl, .inr (seqT_same bh h3), fa, fx, q _ B H _ k (.refl bh) rfl⟩
/-! data -/
mutual
theorem dp_same {H H' : Hp} (s : Same H H') : ∀ (d : PyData) (v : V), Dp K H v d → Dp K H' v d
  | .none, _, h => by cases h; exact .non
  | .bool b, _, h => by cases h; exact .bl b
  | .int i, _, h => by cases h; exact .int i
  | .str x, _, h => by cases h; exact .str x
  | .list ds, _, h => by
    cases h with
    | lst q r => exact .lst (Same.seq s q) (dpa_same s ds _ r)
  | .tuple ds, _, h => by
    cases h with
    | tup q r => exact .tup (seqT_same s q) (dpa_same s ds _ r)
  | .dict _, _, h => by cases h
theorem dpa_same {H H' : Hp} (s : Same H H') : ∀ (ds : List PyData) (vs : List V), DpAll K H vs ds → DpAll K H' vs ds
  | [], _, h => by cases h; exact .nil
  | d :: ds, _, h => by
    cases h with
    | cons q r => exact .cons (dp_same s d _ q) (dpa_same s ds _ r)
end
/-- plain data -/
def tyP (K : PySem.W.Frag) (d : PyData) : Ty := ⟨fun v H => Dp K H v d, fun {v H H'} s h => dp_same s d v h⟩
/-- T is the data d -/
def Py (K : PySem.W.Frag) (T : Ty) (d : PyData) : Prop := ∀ (v : V) (H : Hp), T.ok v H → Dp K H v d
def PyAll (K : PySem.W.Frag) (ts : List Ty) (ds : List PyData) : Prop := ∀ (vs : List V) (H : Hp), TyAll ts vs H → DpAll K H vs ds
theorem py_p {d : PyData} : Py K (tyP K d) d := fun _ _ h => h
theorem py_s {s : Str} : Py K (tyS s) (.str s) := fun v H h => by cases h; exact .str s
theorem py_i {i : Int} : Py K (tyI i) (.int i) := fun v H h => by cases h; exact .int i
theorem py_b {b : Bool} : Py K (tyB b) (.bool b) := fun v H h => by cases h; exact .bl b
theorem py_n : Py K tyN .none := fun v H h => by cases h; exact .non
theorem py_l {ts : List Ty} {ds : List PyData} (h : PyAll K ts ds) : Py K (tyL ts) (.list ds) := fun v H ⟨a, xs, e, h1, h2⟩ => by
  subst e
  exact .lst (SqL.of h1) (h xs H h2)
theorem py_t {ts : List Ty} {ds : List PyData} (h : PyAll K ts ds) : Py K (tyT K ts) (.tuple ds) := fun v H ⟨a, xs, e, h1, h2⟩ => by
  subst e
  exact .tup h1 (h xs H h2)
theorem py_f {ts : List Ty} {ds : List PyData} (h : PyAll K ts ds) : Py K (tyF ts) (.tuple ds) := fun v H t => py_t h v H (tyF_T t)
theorem pya_nil : PyAll K [] [] := fun vs H h => by
  cases vs with
  | nil => exact .nil
  | cons _ _ => exact h.elim
theorem pya_cons {t : Ty} {ts : List Ty} {d : PyData} {ds : List PyData} (h : Py K t d) (r : PyAll K ts ds) : PyAll K (t :: ts) (d :: ds) := fun vs H z => by
  cases vs with
  | nil => exact z.elim
  | cons v vs => exact .cons (h v H z.1) (r vs H z.2)
theorem pya_map {α : Type} {f : α → Ty} {g : α → PyData} (h : ∀ a, Py K (f a) (g a)) : ∀ l : List α, PyAll K (l.map f) (l.map g)
  | [] => pya_nil
  | a :: l => pya_cons (h a) (pya_map h l)
theorem r2_eqD {T U : Ty} {d e : PyData} (h1 : Py K T d) (h2 : Py K U e) (s1 : SeqAt.shaped d = true) (s2 : SeqAt.shaped e = true) (k : κ (tyB (PyData.eqv d e))) : R2w (rEqD K) T U κ := fun x y B H Q bh hx hy q =>
  ⟨d, e, h1 x H (T.mono bh hx), h2 y H (U.mono bh hy), s1, s2, q _ B H _ k (.refl bh) rfl⟩
theorem r2_neD {T U : Ty} {d e : PyData} (h1 : Py K T d) (h2 : Py K U e) (s1 : SeqAt.shaped d = true) (s2 : SeqAt.shaped e = true) (k : κ (tyB (!PyData.eqv d e))) : R2w (rNeD K) T U κ := fun x y B H Q bh hx hy q =>
  ⟨d, e, h1 x H (T.mono bh hx), h2 y H (U.mono bh hy), s1, s2, q _ B H _ k (.refl bh) rfl⟩
theorem r2_inTD {neg : Bool} {T U : Ty} {d : PyData} {ds : List PyData} (h1 : Py K T d) (h2 : Py K U (.tuple ds)) (s1 : SeqAt.shaped d = true) (s2 : SeqAt.shaped (.tuple ds) = true) (k : κ (tyB (if neg then !ds.any fun z => PyData.eqv z d else ds.any fun z => PyData.eqv z d))) : R2w (rInT K neg) T U κ := fun x y B H Q bh hx hy q =>
  ⟨d, ds, h1 x H (T.mono bh hx), h2 y H (U.mono bh hy), s1, s2, q _ B H _ k (.refl bh) rfl⟩
theorem r2_inLD {neg : Bool} {T U : Ty} {d : PyData} {ds : List PyData} (h1 : Py K T d) (h2 : Py K U (.list ds)) (s1 : SeqAt.shaped d = true) (s2 : SeqAt.shaped (.list ds) = true) (k : κ (tyB (if neg then !ds.any fun z => PyData.eqv z d else ds.any fun z => PyData.eqv z d))) : R2w (rInL K neg) T U κ := fun x y B H Q bh hx hy q =>
  ⟨d, ds, h1 x H (T.mono bh hx), h2 y H (U.mono bh hy), s1, s2, q _ B H _ k (.refl bh) rfl⟩
/-! built-ins -/
theorem vals_one {T : Ty} {vs : List V} {B : Hp} (t : TyAll [T] vs B) : ∃ v, vs = [v] ∧ T.ok v B := by
  match vs, t with
  | [v], t => exact ⟨v, rfl, t.1⟩
  | [], t => exact t.elim
  | _ :: _ :: _, t => exact t.2.elim
theorem vals_two {T U : Ty} {vs : List V} {B : Hp} (t : TyAll [T, U] vs B) : ∃ v w, vs = [v, w] ∧ T.ok v B ∧ U.ok w B := by
  match vs, t with
  | [v, w], t => exact ⟨v, w, rfl, t.1, t.2.1⟩
  | [], t => exact t.elim
  | [_], t => exact t.2.elim
  | _ :: _ :: _ :: _, t => exact t.2.2.elim
theorem rc_lenS {z : Str} (h : z.length ≤ sizeLine) (k : κ (tyI z.length)) : RC (fun xs H Q => ∃ z, xs = [.str z] ∧ z.length ≤ sizeLine ∧ Q (.int z.length) H) [tyS z] κ := fun vs B H Q bh t q => by
  obtain ⟨v, rfl, rfl⟩ := vals_one t
  exact ⟨z, rfl, h, q _ B H _ k (.refl bh) rfl⟩
theorem rc_lenL {ts : List Ty} (k : κ (tyI ts.length)) : RC (rLenQ K) [tyL ts] κ := fun vs B H Q bh t q => by
  obtain ⟨v, rfl, a, xs, rfl, h1, h2⟩ := vals_one t
  exact ⟨a, xs, rfl, .inl (SqL.of (bh _ _ h1)), q _ B H (tyI ts.length) k (.refl bh) (by rw [h2.length]; rfl)⟩
theorem rc_lenT {ts : List Ty} (k : κ (tyI ts.length)) : RC (rLenQ K) [tyT K ts] κ := fun vs B H Q bh t q => by
  obtain ⟨v, rfl, a, xs, rfl, h1, h2⟩ := vals_one t
  exact ⟨a, xs, rfl, .inr (seqT_same bh h1), q _ B H (tyI ts.length) k (.refl bh) (by rw [h2.length]; rfl)⟩
theorem rc_listL {ts : List Ty} (k : κ (tyL ts)) : RC (rListOf K) [tyL ts] κ := fun vs B H Q bh t q => by
  obtain ⟨v, rfl, a, xs, rfl, h1, h2⟩ := vals_one t
  exact ⟨a, xs, rfl, .inl (SqL.of (bh _ _ h1)), fun p np => q _ _ _ _ k (.new bh np) ⟨p, xs, rfl, upd_same, h2.mono (Lx.Same.new (base_none bh np))⟩⟩
theorem rc_listT {ts : List Ty} (k : κ (tyL ts)) : RC (rListOf K) [tyT K ts] κ := fun vs B H Q bh t q => by
  obtain ⟨v, rfl, a, xs, rfl, h1, h2⟩ := vals_one t
  exact ⟨a, xs, rfl, .inr (seqT_same bh h1), fun p np => q _ _ _ _ k (.new bh np) ⟨p, xs, rfl, upd_same, h2.mono (Lx.Same.new (base_none bh np))⟩⟩
theorem rc_tupL {ts : List Ty} (k : κ (tyT K ts)) : RC (fun xs H Q => ∃ p ys, xs = [.ref p] ∧ ((SqL K H p ys ∧ ∀ l, H l = none → Q (.ref l) (upd H l (.tup ys))) ∨ (SqT K H p ys ∧ Q (.ref p) H))) [tyL ts] κ := fun vs B H Q bh t q => by
  obtain ⟨v, rfl, a, xs, rfl, h1, h2⟩ := vals_one t
  exact ⟨a, xs, rfl, .inl ⟨SqL.of (bh _ _ h1), fun p np => q _ _ _ _ k (.new bh np) ⟨p, xs, rfl, SqT.of upd_same, h2.mono (Lx.Same.new (base_none bh np))⟩⟩⟩
theorem rc_tupF {ts : List Ty} (k : κ (tyF ts)) : RC (rTupF K) [tyL ts] κ := fun vs B H Q bh t q => by
  obtain ⟨v, rfl, a, xs, rfl, h1, h2⟩ := vals_one t
  refine ⟨a, xs, rfl, SqL.of (bh _ _ h1), fun l o nl hd => ?_⟩
  have e : Eff [] B H (upd B l (.frz o (.tup xs))) (upd H l (.frz o (.tup xs))) := .new bh nl
  exact q _ _ _ _ k e ⟨l, o, xs, rfl, upd_same, hd, h2.mono e.bb⟩
theorem rc_asT (K' : PySem.W.Frag) {r : List V → Hp → VK → Prop} {ts : List Ty} (h : RC r [tyT K' ts] κ) : RC r [tyF ts] κ := fun vs B H Q bh t q => h vs B H Q bh (by
  obtain ⟨v, rfl, tv⟩ := vals_one t
  exact ⟨tyF_T tv, trivial⟩) q
theorem rc_tupT {ts : List Ty} (k : κ (tyT K ts)) : RC (fun xs H Q => ∃ p ys, xs = [.ref p] ∧ ((SqL K H p ys ∧ ∀ l, H l = none → Q (.ref l) (upd H l (.tup ys))) ∨ (SqT K H p ys ∧ Q (.ref p) H))) [tyT K ts] κ := fun vs B H Q bh t q => by
  obtain ⟨v, rfl, a, xs, rfl, h1, h2⟩ := vals_one t
  exact ⟨a, xs, rfl, .inr ⟨seqT_same bh h1, q _ B H (tyT K ts) k (.refl bh) ⟨a, xs, rfl, h1, h2⟩⟩⟩
theorem rc_sortedS {ss : List Str} (h : ss.length < 64) (k : ∀ ys : List Str, ys.Perm ss → sortedS ys = true → κ (tyL (ys.map tyS))) : RC (rSortedS K) [tyL (ss.map tyS)] κ := fun vs B H Q bh t q => by
  obtain ⟨v, rfl, a, xs, rfl, h1, h2⟩ := vals_one t
  rw [strs_map] at h2
  obtain rfl := h2.vals
  exact ⟨a, ss, rfl, SqL.of (bh _ _ h1), h, fun ys p hp hs np => q _ _ _ _ (k ys hp hs) (.new bh np) ⟨p, _, rfl, upd_same, by rw [strs_map]; exact .ofVals _⟩⟩
theorem rc_any {bs : List Bool} (k : κ (tyB (bs.any id))) : RC (rAny K) [tyL (bs.map tyB)] κ := fun vs B H Q bh t q => by
  obtain ⟨v, rfl, a, xs, rfl, h1, h2⟩ := vals_one t
  rw [bls_map] at h2
  obtain rfl := h2.vals
  exact ⟨a, bs, rfl, SqL.of (bh _ _ h1), q _ B H _ k (.refl bh) rfl⟩
theorem rc_all {bs : List Bool} (k : κ (tyB (bs.all id))) : RC (rAll K) [tyL (bs.map tyB)] κ := fun vs B H Q bh t q => by
  obtain ⟨v, rfl, a, xs, rfl, h1, h2⟩ := vals_one t
  rw [bls_map] at h2
  obtain rfl := h2.vals
  exact ⟨a, bs, rfl, SqL.of (bh _ _ h1), q _ B H _ k (.refl bh) rfl⟩
/-- the class of a value of this type -/
def TyIs (K : PySem.W.Frag) (T : Ty) (t : Value) : Prop := ∀ (v : V) (H : Hp), T.ok v H → TyX K H v t
theorem rc_isi {T U : Ty} {c : V} {t u : Value} (b : Bool) (hU : U = tyV c) (hc : ClsV c u) (hT : TyIs K T t) (hk : PySem.W.kitOne K t u = some b) (k : κ (tyB b)) : RC (rIsi K) [T, U] κ := fun vs B H Q bh t q => by
  obtain ⟨v, w, rfl, h1, h2⟩ := vals_two t
  subst hU
  cases h2
  exact ⟨v, _, _, u, b, rfl, hc, hT v H (T.mono bh h1), hk, q _ B H _ k (.refl bh) rfl⟩
/-! methods of texts -/
theorem rm_split {a b : Str} (h1 : (b.length == 0) = false) (h2 : a.length + 2 ≤ sizeLine) (k : κ (tyL ((Txt.split a b).map tyS))) : RC (fun vs H Q => ∃ x y, vs = [x, y] ∧ (fun x xs H Q => ∃ a b, x = V.str a ∧ xs = [V.str b] ∧ (b.length == 0) = false ∧ a.length + 2 ≤ sizeLine ∧ rNewStrs (Txt.split a b) H Q) x [y] H Q) [tyS a, tyS b] κ := fun vs B H Q bh t q => by
  obtain ⟨v, w, rfl, rfl, rfl⟩ := vals_two t
  exact ⟨_, _, rfl, a, b, rfl, rfl, h1, h2, fun p np => q _ _ _ _ k (.new bh np) ⟨p, _, rfl, upd_same, by rw [strs_map]; exact .ofVals _⟩⟩
theorem rm_partition {a b : Str} (h1 : (b.length == 0) = false) (h2 : a.length ≤ sizeLine) (k : κ (tyT K [tyS (Txt.partition a b).1, tyS (Txt.partition a b).2.1, tyS (Txt.partition a b).2.2])) : RC (fun vs H Q => ∃ x y, vs = [x, y] ∧ (fun x xs H Q => ∃ a b, x = V.str a ∧ xs = [V.str b] ∧ (b.length == 0) = false ∧ a.length ≤ sizeLine ∧
      ∀ p, H p = none → Q (V.ref p) (upd H p (.tup [.str (Txt.partition a b).1, .str (Txt.partition a b).2.1, .str (Txt.partition a b).2.2]))) x [y] H Q) [tyS a, tyS b] κ := fun vs B H Q bh t q => by
  obtain ⟨v, w, rfl, rfl, rfl⟩ := vals_two t
  exact ⟨_, _, rfl, a, b, rfl, rfl, h1, h2, fun p np => q _ _ _ _ k (.new bh np) ⟨p, _, rfl, SqT.of upd_same, ⟨rfl, rfl, rfl, trivial⟩⟩⟩
theorem rm_joinL {a : Str} {ys : List Str} (h : (ys.map (·.length)).sum + ys.length * a.length ≤ 16777216) (k : κ (tyS (Txt.join a ys))) : RC (fun vs H Q => ∃ x y, vs = [x, y] ∧ (fun x xs H Q => ∃ a p, ∃ ys : List Str, x = V.str a ∧ xs = [V.ref p] ∧ (SqL K H p (ys.map V.str) ∨ SqT K H p (ys.map V.str)) ∧
      (ys.map (·.length)).sum + ys.length * a.length ≤ 16777216 ∧ Q (.str (Txt.join a ys)) H) x [y] H Q) [tyS a, tyL (ys.map tyS)] κ := fun vs B H Q bh t q => by
  obtain ⟨v, w, rfl, rfl, p, xs, rfl, e1, e2⟩ := vals_two t
  rw [strs_map] at e2
  obtain rfl := e2.vals
  exact ⟨_, _, rfl, a, p, ys, rfl, rfl, .inl (SqL.of (bh _ _ e1)), h, q _ B H _ k (.refl bh) rfl⟩
theorem rm_joinT {a : Str} {ys : List Str} (h : (ys.map (·.length)).sum + ys.length * a.length ≤ 16777216) (k : κ (tyS (Txt.join a ys))) : RC (fun vs H Q => ∃ x y, vs = [x, y] ∧ (fun x xs H Q => ∃ a p, ∃ ys : List Str, x = V.str a ∧ xs = [V.ref p] ∧ (SqL K H p (ys.map V.str) ∨ SqT K H p (ys.map V.str)) ∧
      (ys.map (·.length)).sum + ys.length * a.length ≤ 16777216 ∧ Q (.str (Txt.join a ys)) H) x [y] H Q) [tyS a, tyT K (ys.map tyS)] κ := fun vs B H Q bh t q => by
  obtain ⟨v, w, rfl, rfl, p, xs, rfl, e1, e2⟩ := vals_two t
  rw [strs_map] at e2
  obtain rfl := e2.vals
  exact ⟨_, _, rfl, a, p, ys, rfl, rfl, .inr (seqT_same bh e1), h, q _ B H _ k (.refl bh) rfl⟩
end
end DL
set_option Elab.async false
set_option linter.all false
set_option maxRecDepth 100000
set_option maxHeartbeats 2000000
/-! the second layer: dicts, sets, lists of our own read and grown, new instances, slices -/
namespace DL
open PySem L2 Lx PyProof.Rows
section
variable {X : Xn} {Γ : List Slot} {κ : Ty → List Slot → Prop} {κs : En} {K : PySem.W.Frag}
def lookT (es : List (Key × Ty)) (k : Key) : Option Ty := match es with
  | [] => none
  | (q, d) :: r => if q = k then some d else lookT r k
theorem lookT_val {H : Hp} {k : Key} {T : Ty} : ∀ {ws : List (Key × V)} {es : List (Key × Ty)}, ws.map Prod.fst = es.map Prod.fst → TyAll (es.map Prod.snd) (ws.map Prod.snd) H → lookT es k = some T → ∃ v, valV ws k = some v ∧ T.ok v H
  | [], [], _, _, h => by cases h
  | [], _ :: _, h, _, _ => by cases h
  | _ :: _, [], h, _, _ => by cases h
  | (k1, v1) :: ws, (k2, T2) :: es, h, t, e => by
    simp only [List.map_cons, List.cons.injEq] at h
    obtain ⟨h1, h2⟩ := h
    subst h1
    by_cases q : k1 = k
    · simp only [lookT, q, if_true] at e
      cases e
      exact ⟨v1, by simp [valV, q], t.1⟩
    · simp only [lookT, q, if_false] at e
      obtain ⟨v, a, b⟩ := lookT_val h2 t.2 e
      exact ⟨v, by simpa [valV, q] using a, b⟩
theorem WE.dget {td ty : TE} (h : WE X td Γ fun T Γ1 => ∃ kvs, T = tyD kvs ∧ WE X ty Γ1 fun U Γ2 => ∃ k V, U = tyV (kV k) ∧ lookT kvs k = some V ∧ κ V Γ2) : WE X (tDGet td ty) Γ κ := fun σ B H s xo Q q =>
  h σ B H s xo _ fun v B1 H1 T Γ1 k1 s1 b1 t1 => by
    obtain ⟨kvs, rfl, k1⟩ := k1
    obtain ⟨a, ws, rfl, e1, e2, e3⟩ := t1
    refine k1 σ B1 H1 s1 (xo.after b1) _ fun y B2 H2 U Γ2 k2 s2 b2 t2 => ?_
    obtain ⟨k, W, rfl, lk, kk⟩ := k2
    obtain ⟨x, v1, v2⟩ := lookT_val e2 e3 lk
    have g := DGet.k (k := k) (s2.bh _ _ (b2.same _ _ e1))
    rw [v1] at g
    cases t2
    exact ⟨a, x, rfl, g, q x B2 H2 W Γ2 kk s2 (b1.trans b2) (W.mono b2.same v2)⟩
theorem tru_dic {kvs : List (Key × Ty)} {b : Bool} (h : b = !kvs.isEmpty) : Tru K (tyD kvs) b := fun v H t => by
  obtain ⟨a, ws, rfl, e1, e2, _⟩ := t
  refine .inr (.inr ⟨ws, e1, ?_⟩)
  rw [h]
  cases ws <;> cases kvs <;> first | rfl | cases e2
theorem r2_eqDD {neg : Bool} {κ : Ty → Prop} {ks ls : List (Key × Ty)} {ds es : List (Key × PyData)} (h1 : ks.map Prod.fst = ds.map Prod.fst) (h2 : PyAll K (ks.map Prod.snd) (ds.map Prod.snd)) (h3 : ls.map Prod.fst = es.map Prod.fst) (h4 : PyAll K (ls.map Prod.snd) (es.map Prod.snd))
    (h5 : ∀ p ∈ ds, SeqAt.shaped p.2 = true) (h6 : ∀ p ∈ es, SeqAt.shaped p.2 = true) (k : κ (tyB (if neg then !eqvD ds es else eqvD ds es))) : R2w (rEqDD K neg) (tyD ks) (tyD ls) κ := fun x y B H Q bh hx hy q => by
  obtain ⟨a, ws, rfl, e1, e2, e3⟩ := hx
  obtain ⟨b, us, rfl, f1, f2, f3⟩ := hy
  exact ⟨a, b, ws, us, ds, es, rfl, rfl, bh _ _ e1, bh _ _ f1, e2.trans h1, h2 _ H (e3.mono bh), f2.trans h3, h4 _ H (f3.mono bh), h5, h6, q _ B H _ k (.refl bh) rfl⟩
theorem WE.lenSet {te : TE} (h : WL X te Γ fun ts Γ1 => ∃ ss : List Str, ts = ss.map tyS ∧ ss.length < 1000 ∧ κ (tyI (dd ss).length) Γ1) : WE X (tLenSetN K te) Γ κ := fun σ B H s xo Q q =>
  h σ B H s xo _ fun a xs B1 H1 ts Γ1 k1 s1 b1 h1 t1 => by
    obtain ⟨ss, rfl, few, k⟩ := k1
    rw [strs_map] at t1
    obtain rfl := t1.vals
    exact ⟨a, ss, rfl, SqL.of h1, few, q _ B1 H1 _ Γ1 k s1 b1 rfl⟩
/-! lists of our own, read -/
theorem WE.lenL {te : TE} (h : WL X te Γ fun ts Γ1 => κ (tyI ts.length) Γ1) : WE X (tCB (rLenQ K) (tCons te tNil)) Γ κ := fun σ B H s xo Q q =>
  h σ B H s xo _ fun a xs B1 H1 ts Γ1 k s1 b1 h1 t1 => ⟨a, xs, rfl, .inl (SqL.of h1), q _ B1 H1 (tyI ts.length) Γ1 k s1 b1 (by rw [t1.length]; rfl)⟩
theorem WE.inL {neg : Bool} {ta te : TE} (h : WE X ta Γ fun T Γ1 => ∃ a : V, T = tyV a ∧ flatV a = true ∧ WL X te Γ1 fun ts Γ2 => ∃ xs : List V, ts = xs.map tyV ∧ xs.all flatV = true ∧ κ (tyB (if neg then !inV a xs else inV a xs)) Γ2) : WE X (tOp (rIn K neg) ta te) Γ κ := fun σ B H s xo Q q =>
  h σ B H s xo _ fun v B1 H1 T Γ1 k1 s1 b1 t1 => by
    obtain ⟨a, rfl, fa, k1⟩ := k1
    cases t1
    refine k1 σ B1 H1 s1 (xo.after b1) _ fun p ys B2 H2 ts Γ2 k2 s2 b2 h2 t2 => ?_
    obtain ⟨xs, rfl, fx, k⟩ := k2
    obtain rfl := t2.vals
    exact ⟨p, _, rfl, .inl (SqL.of h2), fa, fx, q _ B2 H2 _ Γ2 k s2 (b1.trans b2) rfl⟩
theorem WE.ixL {te ti : TE} {i : Nat} {ts : List Ty} (h0 : Γ[i]? = some (.own (mL ts))) (h : WE X ti Γ fun U Γ1 => Γ1[i]? = some (.own (mL ts)) ∧ ∃ (j : Int) (T : Ty), U = tyI j ∧ atI ts j = some T ∧ κ T Γ1) : WE X (tOp (rIxL K) (tVar i) ti) Γ κ := fun σ B H s xo Q q => by
  obtain ⟨a, o, e1, e2, e3, xs, rfl, e4⟩ := s.own i _ _ h0 rfl
  refine ⟨.ref a, e1, h σ B H s xo _ fun v B1 H1 U Γ1 k1 s1 b1 t1 => ?_⟩
  obtain ⟨h1, j, T, rfl, at_, k⟩ := k1
  cases t1
  obtain ⟨a', o', f1, f2, f3, ys, rfl, f4⟩ := s1.own i _ _ h1 rfl
  rw [e1] at f1
  cases f1
  obtain ⟨x, g1, g2⟩ := atI_ty f4 at_
  exact ⟨a, ys, j, x, rfl, rfl, SqL.of f2, g1, q x B1 H1 T Γ1 k s1 b1 g2⟩
theorem WS.extend {i : Nat} {te : TE} {ts : List Ty} (h0 : Γ[i]? = some (.own (mL ts))) (h : WE X te Γ fun T Γ1 => ∃ us vs, T = tyL vs ∧ Γ1[i]? = some (.own (mL us)) ∧ us.length + vs.length ≤ sizeLine ∧ κs.nx (Γ1.set i (.own (mL (us ++ vs))))) : WS X (tDrop (tBM K "list" rExtend (tVar i) (tCons te tNil))) Γ κs := fun σ B H s xo D m => by
  obtain ⟨a, o, h1, h2, _, ⟨xs, rfl, h3⟩⟩ := s.own i _ _ h0 rfl
  refine ⟨.ref a, h1, .inl ⟨rfl, _, SqL.of h2⟩, ?_⟩
  refine h σ B H s xo _ fun v B1 H1 T Γ1 k1 s1 b1 t1 => ?_
  obtain ⟨us, vs, rfl, e0, e1, k⟩ := k1
  obtain ⟨a', o', f1, f2, f3, ⟨ys, rfl, f4⟩⟩ := s1.own i _ _ e0 rfl
  rw [h1] at f1
  cases f1
  obtain ⟨b, zs, rfl, g1, g2⟩ := t1
  have ch := s1.change (S' := .own (mL (us ++ vs))) e0 rfl rfl h1 ⟨ys ++ zs, rfl, f4.append g2⟩ nofun
  exact ⟨a, b, ys, zs, rfl, rfl, f2, s1.bh _ _ g1, by rw [f4.length, g2.length]; exact e1, m.nx σ B1 _ _ k ch.1 (b1.trans ch.2)⟩
/-- xs[i] = v, xs a list of our own -/
theorem WS.setItem {i : Nat} {te ti : TE} {ts : List Ty} (h0 : Γ[i]? = some (.own (mL ts))) (h : WE X te Γ fun T Γ1 => Γ1[i]? = some (.own (mL ts)) ∧ WE X ti Γ1 fun U Γ2 => ∃ (j : Int) (n : Nat), U = tyI j ∧ ixN ts.length j = some n ∧ Γ2[i]? = some (.own (mL ts)) ∧ κs.nx (Γ2.set i (.own (mL (ts.set n T))))) : WS X (tAsg te (gSub (tVar i) ti rSetL)) Γ κs := fun σ B H s xo D m =>
  h σ B H s xo _ fun v B1 H1 T Γ1 k1 s1 b1 t1 => by
    obtain ⟨e1, k1⟩ := k1
    obtain ⟨a, o, f1, f2, f3, ⟨xs, rfl, f4⟩⟩ := s1.own i _ _ e1 rfl
    refine ⟨.ref a, f1, k1 σ B1 H1 s1 (xo.after b1) _ fun u B2 H2 U Γ2 k2 s2 b2 t2 => ?_⟩
    obtain ⟨j, n, rfl, ix, e2, k⟩ := k2
    cases t2
    obtain ⟨a', o', g1, g2, g3, ⟨ys, rfl, g4⟩⟩ := s2.own i _ _ e2 rfl
    rw [f1] at g1
    cases g1
    have ch := s2.change (S' := .own (mL (ts.set n T))) e2 rfl rfl f1 ⟨ys.set n v, rfl, TyAll.set (T.mono b2.same t1) n g4⟩ nofun
    exact ⟨a, ys, j, n, rfl, rfl, g2, by rw [g4.length]; exact ix, m.nx σ B2 _ _ k ch.1 ((b1.trans b2).trans ch.2)⟩
/-! slices -/
def WP (X : Xn) (t : TO) (Γ : List Slot) (κ : Option Int → List Slot → Prop) : Prop := ∀ (σ : L2.St) (B H : Hp), Sat σ B H Γ → ExOk X σ Γ B H → ∀ Q : Option Int → Hp → Prop, (∀ (o : Option Int) (B' H' : Hp) (Γ' : List Slot), κ o Γ' → Sat σ B' H' Γ' → Go σ Γ B H σ Γ' B' H' → Q o H') → t σ H Q
theorem WP.no {κ : Option Int → List Slot → Prop} (k : κ none Γ) : WP X tNoPart Γ κ := fun σ B H s xo Q q => q none B H Γ k s (.refl s.bh)
theorem WP.part {κ : Option Int → List Slot → Prop} {t : TE} (h : WE X t Γ fun T Γ1 => ∃ i : Int, T = tyI i ∧ κ (some i) Γ1) : WP X (tPart t) Γ κ := fun σ B H s xo Q q =>
  h σ B H s xo _ fun v B1 H1 T Γ1 k1 s1 b1 t1 => by
    obtain ⟨i, rfl, k⟩ := k1
    exact ⟨i, t1, q (some i) B1 H1 Γ1 k s1 b1⟩
def cutT (ts : List Ty) (lo hi : Option Int) : List Ty := (ts.drop (HT.sIx ts.length 0 lo)).take (HT.sIx ts.length ts.length hi - HT.sIx ts.length 0 lo)
theorem TyAll.cut {H : Hp} {ts : List Ty} {xs : List V} (t : TyAll ts xs H) (lo hi : Option Int) : TyAll (cutT ts lo hi) (cutV xs lo hi) H := by
  unfold cutT cutV
  rw [t.length]
  exact (t.drop _).take _
theorem WE.slL {te : TE} {tl th : TO} (h : WE X te Γ fun T Γ1 => ∃ ts, T = tyL ts ∧ WP X tl Γ1 fun lo Γ2 => WP X th Γ2 fun hi Γ3 => κ (tyL (cutT ts lo hi)) Γ3) : WE X (tSl (rSlL K) te tl th) Γ κ := fun σ B H s xo Q q =>
  h σ B H s xo _ fun v B1 H1 T Γ1 k1 s1 b1 t1 => by
    obtain ⟨ts, rfl, k1⟩ := k1
    obtain ⟨a, xs, rfl, e1, e2⟩ := t1
    refine k1 σ B1 H1 s1 (xo.after b1) _ fun lo B2 H2 Γ2 k2 s2 b2 => k2 σ B2 H2 s2 (xo.after (b1.trans b2)) _ fun hi B3 H3 Γ3 k3 s3 b3 => ?_
    have s23 := b2.same.trans b3.same
    refine ⟨a, xs, rfl, SqL.of (s3.bh _ _ (s23 _ _ e1)), fun p np => ?_⟩
    have e : Eff [] B3 H3 _ _ := .new (o := .lst (cutV xs lo hi)) s3.bh np
    exact q _ _ _ _ Γ3 k3 (s3.step e) (((b1.trans b2).trans b3).trans e.go) ⟨p, _, rfl, upd_same, (e2.cut lo hi).mono (s23.trans e.bb)⟩
theorem WE.slS {te : TE} {tl th : TO} (h : WE X te Γ fun T Γ1 => ∃ z : Str, T = tyS z ∧ z.length ≤ sizeLine ∧ WP X tl Γ1 fun lo Γ2 => WP X th Γ2 fun hi Γ3 => κ (tyS (cutS z lo hi)) Γ3) : WE X (tSl rSlS te tl th) Γ κ := fun σ B H s xo Q q =>
  h σ B H s xo _ fun v B1 H1 T Γ1 k1 s1 b1 t1 => by
    obtain ⟨z, rfl, hz, k1⟩ := k1
    exact k1 σ B1 H1 s1 (xo.after b1) _ fun lo B2 H2 Γ2 k2 s2 b2 => k2 σ B2 H2 s2 (xo.after (b1.trans b2)) _ fun hi B3 H3 Γ3 k3 s3 b3 => ⟨z, t1, hz, q _ B3 H3 _ Γ3 k3 s3 ((b1.trans b2).trans b3) rfl⟩
/-! new instances -/
/-- an `__init__`, as the caller of C(..) sees it -/
def spNew {α : Type} (C : Addr) (c : α → Cs) : Sp := fun vs H Q E => ∃ (z : α) (B0 H0 : Hp) (x dx : Addr) (us : List V), vs = .ref x :: us ∧ H0 x = none ∧ H0 dx = none ∧ dx ≠ x ∧ H = upd (upd H0 dx (.own x)) x (.ins C dx []) ∧ Same B0 H0 ∧ TyAll (c z).args us B0 ∧ (c z).pre ∧ ∀ o, (c z).out o → match o with
  | .ret T => ∀ (B' H' : Hp), Eff [] B0 H0 B' H' → T.ok (.ref x) B' → Q .non H'
  | .exc D f T => ∀ (v : V) (y : Addr) (B' H' : Hp), Eff [] B0 H0 B' H' → T.ok v B' → H' y = none → E (.ref D) (some y) (upd H' y (.xd [(f, v)]))
theorem apply_new {α : Type} {C : Addr} {c : α → Cs} {Ts : List Ty} {vs : List V} {Q : VK} {σ : L2.St} {B H : Hp} {x dx : Addr} (s : Sat σ B H Γ) (xo : ExOk X σ Γ B H) (t : TyAll Ts vs B) (h : Meets c Ts (Post X κ Γ)) (nx : H x = none) (nd : H dx = none) (ne : dx ≠ x)
    (q : ∀ (v : V) (B' H' : Hp) (T : Ty), κ T Γ → Sat σ B' H' Γ → Go σ Γ B H σ Γ B' H' → T.ok v B' → Q v H') : spNew C c (.ref x :: vs) (upd (upd H dx (.own x)) x (.ins C dx [])) (fun v H' => v = .non ∧ Q (.ref x) H') (X.E σ) := by
  obtain ⟨z, rfl, hp, ho⟩ := h
  refine ⟨z, B, H, x, dx, vs, rfl, nx, nd, ne, rfl, s.bh, t, hp, fun o hr => ?_⟩
  have w := ho o hr
  cases o with
  | ret T => exact fun B' H' e ok => ⟨rfl, q _ B' H' T w (s.step e) e.go ok⟩
  | exc D f T => exact fun v y B' H' e ok n => xo σ v y B' H' D f T Γ w (s.step e) e.go ok n
theorem WE.make {α : Type} {C : Addr} {c : α → Cs} {E : XK} {t : TA} (hE : ∀ σ, X.E σ = E) (h : WA X t Γ fun Ts Γ1 => Meets c Ts (Post X κ Γ1)) : WE X (tMake C (spNew C c) [] E t) Γ κ := fun σ B H s xo Q q =>
  h σ B H s xo _ fun vs B1 H1 Ts Γ1 k1 s1 b1 t1 x dx nx nd ne => by
    rw [List.append_nil, ← hE σ]
    exact apply_new s1 (xo.after b1) t1 k1 nx nd ne fun v B' H' T k s' g' ok => q v B' H' T Γ1 k s' (b1.trans g') ok
/-- C(..), C a slot's value -/
theorem WE.makeW {α : Type} {C : Addr} {c : α → Cs} {E : XK} {t : TA} {g : L2.St → Prop} {n : Nat} (hE : ∀ σ, X.E σ = E) (hg : ∀ σ B H, Sat σ B H Γ → g σ) (h : WA X t Γ fun Ts Γ1 => Ts.length + 1 = n ∧ Meets c Ts (Post X κ Γ1)) : WE X (tMakeW C g [] (byName n [] (spNew C c)) E t tNil) Γ κ := fun σ B H s xo Q q =>
  ⟨hg σ B H s, h σ B H s xo _ fun vs B1 H1 Ts Γ1 k1 s1 b1 t1 x dx nx nd ne => by
    refine ⟨?_, rfl, ?_⟩
    · rw [List.length_cons, t1.length]
      exact k1.1
    rw [List.zip_nil_left, List.map_nil, List.append_nil, ← hE σ]
    exact apply_new s1 (xo.after b1) t1 k1.2 nx nd ne fun v B' H' T k s' g' ok => q v B' H' T Γ1 k s' (b1.trans g') ok⟩
theorem WE.cmeth {α : Type} {C : Addr} {c : α → Cs} {E : XK} {ta : TE} {t : TA} (hE : ∀ σ, X.E σ = E) (h : WE X ta Γ fun T Γ1 => T = tyV (.ref C) ∧ WA X t Γ1 fun Ts Γ2 => Meets c (T :: Ts) (Post X κ Γ2)) : WE X (ClX.tCMeth C (spP c) E ta t) Γ κ := fun σ B H s xo Q q =>
  h σ B H s xo _ fun v B1 H1 T Γ1 k1 s1 b1 t1 => by
    obtain ⟨rfl, k1⟩ := k1
    cases t1
    refine ⟨rfl, k1 σ B1 H1 s1 (xo.after b1) _ fun vs B2 H2 Ts Γ2 k2 s2 b2 t2 => ?_⟩
    rw [← hE σ]
    exact apply_P s2 (xo.after (b1.trans b2)) (vs := .ref C :: vs) (Ts := tyV (.ref C) :: Ts) ⟨rfl, t2⟩ k2 fun v B' H' T k s' g' ok => q v B' H' T Γ2 k s' ((b1.trans b2).trans g') ok
end
end DL
set_option Elab.async false
set_option linter.all false
set_option maxRecDepth 100000
set_option maxHeartbeats 2000000
/-! the second layer: sorted pairs, sorted(dict), list(dict), `and` as a value, is None, class constants -/
namespace Lx
open PySem L2
/-- sorted(xs), xs of tuples whose firsts ks are texts, all different -/
def rSortedSQ (K : PySem.W.Frag) : List V → Hp → VK → Prop := fun vs H Q => ∃ (a : Addr) (xs : List V) (ks : List Str), vs = [V.ref a] ∧ SqL K H a xs ∧ ks.Nodup ∧ ks.length = xs.length ∧ (∀ (i : Nat) (x : V) (k : Str), xs[i]? = some x → ks[i]? = some k → ∃ t y, x = V.ref t ∧ SqT K H t [.str k, y]) ∧
  ∀ (ys : List V) (js : List Str) (p : Addr), (ys.zip js).Perm (xs.zip ks) → ys.length = js.length → js.Pairwise (fun x y => ¬ y.cps.toList < x.cps.toList) → H p = none → Q (.ref p) (upd H p (.lst ys))
theorem cr_sortedSQ {X : Cx} : CallR X (.builtin "sorted") (rSortedSQ X.K) := by
  classical
  intro pins s σ H vs us Q I r h
  obtain ⟨a, xs, ks, rfl, hs, nd, hl, hx, q⟩ := h
  let ix : V → Nat := fun v => xs.findIdx fun x => decide (x = v)
  let kk : V → Str := fun v => ks.getD (ix v) ⟨#[]⟩
  have key : ∀ (i : Nat) (x : V), xs[i]? = some x → ks[i]? = some (kk x) := by
    intro i x e
    have hi := (List.getElem?_eq_some_iff.mp e).1
    have hj : ix x < xs.length := List.findIdx_lt_length_of_exists ⟨x, List.mem_of_getElem? e, by simp⟩
    have ej : xs[ix x]? = some x := by
      have := List.findIdx_getElem (w := hj) (p := fun y => decide (y = x))
      rw [List.getElem?_eq_getElem hj, of_decide_eq_true this]
    have hk : ix x < ks.length := by omega
    have ek : kk x = ks[ix x] := by
      show ks.getD (ix x) _ = _
      rw [List.getD_eq_getElem?_getD, List.getElem?_eq_getElem hk]
      rfl
    obtain ⟨t, y, e1, e2⟩ := hx (ix x) x ks[ix x] ej (List.getElem?_eq_getElem hk)
    obtain ⟨t', y', f1, f2⟩ := hx i x (ks[i]'(by omega)) e (List.getElem?_eq_getElem (by omega))
    rw [e1] at f1
    cases f1
    have z := I.tuple_inj e2 f2
    simp only [List.cons.injEq, V.str.injEq] at z
    rw [List.getElem?_eq_getElem (by omega), ek, z.1]
  have mk : xs.map kk = ks := by
    refine List.ext_getElem? fun i => ?_
    rw [List.getElem?_map]
    cases e : xs[i]? with
    | none =>
      have := List.getElem?_eq_none_iff.mp e
      rw [List.getElem?_eq_none_iff.mpr (by omega)]
      rfl
    | some x => rw [key i x e]; rfl
  refine cr_sortedSP pins s σ H _ us Q I r ⟨a, xs, kk, ?_, hs, ?_, ?_, fun ys p pm pw n => ?_⟩
  · rfl
  · intro x m
    obtain ⟨i, hi, e⟩ := List.mem_iff_getElem.mp m
    have e' : xs[i]? = some x := by rw [List.getElem?_eq_getElem hi, e]
    exact hx i x _ e' (key i x e')
  · intro x m y m' e
    obtain ⟨i, hi, ei⟩ := List.mem_iff_getElem.mp m
    obtain ⟨j, hj, ej⟩ := List.mem_iff_getElem.mp m'
    have ei' : xs[i]? = some x := by rw [List.getElem?_eq_getElem hi, ei]
    have ej' : xs[j]? = some y := by rw [List.getElem?_eq_getElem hj, ej]
    have k1 := key i x ei'
    have k2 := key j y ej'
    rw [e, ← k2] at k1
    have : i = j := (List.getElem?_inj (by omega) nd).mp k1
    subst this
    rw [ei'] at ej'
    exact Option.some.inj ej'
  · refine q ys (ys.map kk) p ?_ (by rw [List.length_map]) (by rw [List.pairwise_map]; exact pw) n
    have z : ∀ l : List V, l.zip (l.map kk) = l.map fun v => (v, kk v) := fun l => by
      induction l with
      | nil => rfl
      | cons x l ih => rw [List.map_cons, List.map_cons, List.zip_cons_cons, ih]
    rw [z, ← mk, z]
    exact pm.map _
end Lx
namespace DL
open PySem L2 Lx PyProof.Rows
theorem perm_map {α β : Type} {f : α → β} {m n : List β} (h : m.Perm n) : ∀ {l : List α}, n = l.map f → ∃ l' : List α, l'.Perm l ∧ l'.map f = m := by
  induction h with
  | nil =>
    intro l e
    cases l with
    | nil => exact ⟨[], List.Perm.refl _, rfl⟩
    | cons _ _ => cases e
  | @cons x l1 l2 _ ih =>
    intro l e
    cases l with
    | nil => cases e
    | cons z l =>
      simp only [List.map_cons, List.cons.injEq] at e
      obtain ⟨l', h1, h2⟩ := ih e.2
      exact ⟨z :: l', h1.cons z, by rw [List.map_cons, h2, ← e.1]⟩
  | @swap x y r =>
    intro l e
    match l, e with
    | z1 :: z2 :: l, e =>
      simp only [List.map_cons, List.cons.injEq] at e
      obtain ⟨e1, e2, e3⟩ := e
      exact ⟨z2 :: z1 :: l, List.Perm.swap z1 z2 l, by rw [List.map_cons, List.map_cons, e1, e2, e3]⟩
  | @trans a b c _ _ ih1 ih2 =>
    intro l e
    obtain ⟨l1, h1, h2⟩ := ih2 e
    obtain ⟨l2, h3, h4⟩ := ih1 h2.symm
    exact ⟨l2, h3.trans h1, h4⟩
section
variable {X : Xn} {Γ : List Slot} {κ : Ty → List Slot → Prop} {K : PySem.W.Frag}
theorem zip_all {α : Type} {f : α → Ty} {H : Hp} : ∀ {ps : List α} {xs : List V}, TyAll (ps.map f) xs H → (∀ q ∈ xs.zip ps, (f q.2).ok q.1 H) ∧ xs.length = ps.length
  | [], [], _ => ⟨nofun, rfl⟩
  | p :: ps, x :: xs, h => by
    obtain ⟨h1, h2⟩ := zip_all (ps := ps) (xs := xs) h.2
    refine ⟨fun q m => ?_, by rw [List.length_cons, List.length_cons, h2]⟩
    rcases List.mem_cons.mp m with rfl | m
    · exact h.1
    · exact h1 q m
  | [], _ :: _, h => h.elim
  | _ :: _, [], h => h.elim
theorem all_zip {α : Type} {f : α → Ty} {H : Hp} : ∀ {zs : List (V × α)}, (∀ q ∈ zs, (f q.2).ok q.1 H) → TyAll ((zs.map Prod.snd).map f) (zs.map Prod.fst) H
  | [], _ => trivial
  | z :: zs, h => ⟨h z (List.mem_cons_self ..), all_zip fun q m => h q (List.mem_cons_of_mem _ m)⟩
theorem rc_sortedSQ {κ : Ty → Prop} {α : Type} (ps : List α) (nm : α → Str) (g : α → Ty) (hn : (ps.map nm).Nodup) (k : ∀ qs : List α, qs.Perm ps → (qs.map nm).Pairwise (fun x y => ¬ y.cps.toList < x.cps.toList) → κ (tyL (qs.map fun p => tyT K [tyS (nm p), g p]))) :
    RC (rSortedSQ K) [tyL (ps.map fun p => tyT K [tyS (nm p), g p])] κ := fun vs B H Q bh t q => by
  obtain ⟨v, rfl, a, xs, rfl, h1, h2⟩ := vals_one t
  obtain ⟨z1, z2⟩ := zip_all h2
  refine ⟨a, xs, ps.map nm, rfl, SqL.of (bh _ _ h1), hn, by rw [List.length_map, z2], fun i x k e1 e2 => ?_, fun ys js p pm hl pw np => ?_⟩
  · obtain ⟨p, e3, e4⟩ := h2.map i x e1
    rw [List.getElem?_map, e3] at e2
    cases e2
    obtain ⟨t, zs, rfl, e5, e6⟩ := e4
    match zs, e6 with
    | [u, w], e6 =>
      obtain ⟨rfl, _⟩ := e6
      exact ⟨t, w, rfl, seqT_same bh e5⟩
    | [], e6 => exact e6.elim
    | [_], e6 => exact e6.2.elim
    | _ :: _ :: _ :: _, e6 => exact e6.2.2.elim
  · have e : xs.zip (ps.map nm) = (xs.zip ps).map fun q => (q.1, nm q.2) := by
      rw [List.zip_map_right]
      rfl
    obtain ⟨zs, p1, p2⟩ := perm_map pm e
    have e1 : zs.map Prod.fst = ys := by
      have := congrArg (List.map Prod.fst) p2
      rw [List.map_map, List.map_fst_zip (by omega)] at this
      exact this
    have e2 : (zs.map Prod.snd).map nm = js := by
      have := congrArg (List.map Prod.snd) p2
      rw [List.map_map, List.map_snd_zip (by omega)] at this
      rw [List.map_map]
      exact this
    have p3 : (zs.map Prod.snd).Perm ps := by
      have := p1.map Prod.snd
      rwa [List.map_snd_zip (by omega)] at this
    have tt := all_zip (f := fun p => tyT K [tyS (nm p), g p]) (zs := zs) (H := B) fun q m => z1 q (p1.mem_iff.mp m)
    rw [e1] at tt
    have ef : Eff [] B H (upd B p (.lst ys)) (upd H p (.lst ys)) := .new bh np
    exact q _ _ _ _ (k _ p3 (by rw [e2]; exact pw)) ef ⟨p, ys, rfl, upd_same, tt.mono ef.bb⟩
theorem rc_sortedD {κ : Ty → Prop} {kvs : List (Key × Ty)} {ks : List Str} (e : kvs.map Prod.fst = ks.map Sum.inr) (h : ks.length < 64) (k : ∀ ys : List Str, ys.Perm ks → sortedS ys = true → κ (tyL (ys.map tyS))) :
    RC (fun xs H Q => ∃ (a : Addr) (kvs : List (Key × V)) (ks : List Str), xs = [.ref a] ∧ Rd H a (.dK kvs) ∧ kvs.map (·.1) = ks.map Sum.inr ∧ ks.length < 64 ∧
    ∀ ys p, ys.Perm ks → sortedS ys = true → H p = none → Q (.ref p) (upd H p (.lst (ys.map V.str)))) [tyD kvs] κ := fun vs B H Q bh t q => by
  obtain ⟨v, rfl, a, ws, rfl, h1, h2, _⟩ := vals_one t
  exact ⟨a, ws, ks, rfl, .of (bh _ _ h1), h2.trans e, h, fun ys p hp hs np => q _ _ _ _ (k ys hp hs) (.new bh np) ⟨p, _, rfl, upd_same, by rw [strs_map]; exact .ofVals _⟩⟩
theorem rc_listD {κ : Ty → Prop} {kvs : List (Key × Ty)} (k : κ (tyL (kvs.map fun p => tyV (kV p.1)))) :
    RC (fun xs H Q => ∃ (a : Addr) (kvs : List (Key × V)), xs = [.ref a] ∧ Rd H a (.dK kvs) ∧ ∀ p, H p = none → Q (.ref p) (upd H p (.lst (kvs.map fun kv => kV kv.1)))) [tyD kvs] κ := fun vs B H Q bh t q => by
  obtain ⟨v, rfl, a, ws, rfl, h1, h2, _⟩ := vals_one t
  refine ⟨a, ws, rfl, .of (bh _ _ h1), fun p np => q _ _ _ _ k (.new bh np) ⟨p, _, rfl, upd_same, ?_⟩⟩
  have e1 : (ws.map fun kv => kV kv.1) = (ws.map Prod.fst).map kV := by rw [List.map_map]; rfl
  have e2 : (kvs.map fun p => tyV (kV p.1)) = ((kvs.map Prod.fst).map kV).map tyV := by rw [List.map_map, List.map_map]; rfl
  rw [e1, e2, h2]
  exact .ofVals _
theorem WE.andV {ta tb : TE} (h : WE X ta Γ fun T Γ1 => ∃ b, T = tyB b ∧ (b = false → κ (tyB false) Γ1) ∧ (b = true → WE X tb Γ1 κ)) : WE X (tAndV ta tb) Γ κ := fun σ B H s xo Q q =>
  h σ B H s xo _ fun v B1 H1 T Γ1 k1 s1 b1 t1 => by
    obtain ⟨b, rfl, kf, kt⟩ := k1
    refine ⟨b, t1, ?_⟩
    cases b with
    | true => exact if_true_of rfl (kt rfl σ B1 H1 s1 (xo.after b1) Q fun v B' H' T Γ' k s' b => q v B' H' T Γ' k s' (b1.trans b))
    | false => exact if_false_of rfl (q _ B1 H1 _ Γ1 (kf rfl) s1 b1 rfl)
theorem WE.orV {ta tb : TE} (h : WE X ta Γ fun T Γ1 => ∃ b, T = tyB b ∧ (b = false → WE X tb Γ1 κ) ∧ (b = true → κ (tyB true) Γ1)) : WE X (tOrV ta tb) Γ κ := fun σ B H s xo Q q =>
  h σ B H s xo _ fun v B1 H1 T Γ1 k1 s1 b1 t1 => by
    obtain ⟨b, rfl, kf, kt⟩ := k1
    refine ⟨b, t1, ?_⟩
    cases b with
    | false => exact if_false_of rfl (kf rfl σ B1 H1 s1 (xo.after b1) Q fun v B' H' T Γ' k s' b => q v B' H' T Γ' k s' (b1.trans b))
    | true => exact if_true_of rfl (q _ B1 H1 _ Γ1 (kt rfl) s1 b1 rfl)
theorem WE.notV {ta : TE} (h : WE X ta Γ fun T Γ1 => ∃ b, T = tyB b ∧ κ (tyB (!b)) Γ1) : WE X (tNotV ta) Γ κ := fun σ B H s xo Q q =>
  h σ B H s xo _ fun v B1 H1 T Γ1 k1 s1 b1 t1 => by
    obtain ⟨b, rfl, k⟩ := k1
    exact ⟨b, t1, q _ B1 H1 _ Γ1 k s1 b1 rfl⟩
/-- never None, or always -/
def NonIs (T : Ty) (b : Bool) : Prop := ∀ (v : V) (H : Hp), T.ok v H → decide (v = .non) = b
theorem r2_isN {κ : Ty → Prop} {T : Ty} (b : Bool) (h : NonIs T b) (k : κ (tyB b)) : R2w (fun x y H Q => y = .non ∧ Q (.bl (decide (x = .non))) H) T tyN κ := fun x y B H Q bh hx hy q =>
  ⟨hy, q _ B H _ k (.refl bh) (by rw [h x B hx]; rfl)⟩
theorem WE.cval {C : Addr} {mc : Value} {f : Str} {v : V} {u : Value} {ta : TE} (r : ClX.CRead K C mc) (c : ClX.CVal K C mc f v u) (h : WE X ta Γ fun T Γ1 => T = tyV (.ref C) ∧ κ (tyV v) Γ1) : WE X (ClX.tCVal K ta f) Γ κ := fun σ B H s xo Q q =>
  h σ B H s xo _ fun w B1 H1 T Γ1 k1 s1 b1 t1 => by
    obtain ⟨rfl, k⟩ := k1
    exact ⟨C, mc, v, u, t1, r, c, q _ B1 H1 _ Γ1 k s1 b1 rfl⟩
end
end DL
set_option Elab.async false
set_option linter.all false
set_option maxRecDepth 100000
set_option maxHeartbeats 2000000
/-! the second layer: dict comprehensions, the fields of an instance being made, its def -/
namespace DL
open PySem L2 Lx PyProof.Rows
section
variable {X : Xn} {Γ : List Slot} {κ : Ty → List Slot → Prop} {K : PySem.W.Frag} {vs : List Nat}
def DcGoal (α : Type) (X : Xn) (g : TG) (tk tv : TE) (vs : List Nat) (κ : Ty → List Slot → Prop) (Xs : List Ty) (Γ1 : List Slot) : Prop :=
  ∃ (ps : List α) (f : α → Ty) (key : α → Key) (F : α → Ty), Xs = ps.map f ∧ NoOwn vs Γ1 ∧ ps.length < sizeLine ∧ (ps.map key).Nodup ∧
    (∀ p ∈ ps, WC g (f p) (wipeG Γ1 vs) vs fun Γ2 => WE X tk Γ2 fun U Γ3 => U = tyV (kV (key p)) ∧ WE X tv Γ3 fun W Γ4 => W = F p ∧ mrg vs Γ1 Γ4 = Γ1) ∧ κ (tyD (ps.map fun p => (key p, F p))) Γ1
theorem WE.dc (α : Type) {wi : TI} {g : TG} {tk tv : TE} (h : WI X wi Γ fun Xs Γ1 => DcGoal α X g tk tv vs κ Xs Γ1) : WE X (tDc wi g tYes tk tv vs) Γ κ := fun σ B H s xo Q q =>
  h σ B H s xo _ fun J B1 H1 Xs Γ1 k1 s1 b1 it D nD => by
    obtain ⟨ps, f, key, F, rfl, no, hz, nd, ht, kk⟩ := k1
    have nB : B1 D = none := base_none s1.bh nD
    have r0 : rem (upd H1 D (.dK [])) D = H1 := by rw [rem_upd, rem_none nD]
    have len : (ps.map f).length = ps.length := List.length_map ..
    let Inv : Nat → Hp → Prop := fun i H' => ∃ B' xs, Sat σ B' (DL.rem H' D) Γ1 ∧ Go σ Γ1 B1 H1 σ Γ1 B' (DL.rem H' D) ∧ B' D = none ∧ H' D = some (.dK xs) ∧ xs.map Prod.fst = (ps.take i).map key ∧ TyAll ((ps.take i).map F) (xs.map Prod.snd) B'
    refine ⟨fun i m' H' => m' = ps.length - i ∧ i ≤ ps.length ∧ Inv i H', ⟨ps.length, by simp, Nat.zero_le _, B1, [], by rw [r0]; exact s1, by rw [r0]; exact .refl s1.bh, nB, upd_same, by simp, by rw [List.take_zero]; trivial⟩, ?_⟩
    rintro i m' H' ⟨rfl, hi, B', xs, sr, br, nB', hD, hk, hacc⟩
    have er : Eff [] B' (DL.rem H' D) B' H' := by
      have := Eff.newOwn (S := []) (o := .dK xs) sr.bh (p := D) rem_self
      rw [upd_rem hD] at this
      exact this
    have s' := sr.step er
    have b' : Go σ Γ1 B1 H1 σ Γ1 B' H' := br.trans er.go
    have nO' : ¬ Own σ Γ1 D := fun z => by
      obtain ⟨o, e, _⟩ := z.of_step sr
      rw [rem_self] at e
      cases e
    obtain ⟨g1, g2, g3⟩ := it B' H' b'.same s'.bh
    rw [len] at g1 g2 g3
    by_cases hlt : i < ps.length
    · refine .inr ⟨g1 i hlt, Inv (i + 1), fun H2 q => ⟨ps.length - (i + 1), by omega, rfl, hlt, q⟩, fun x H2 hy => ?_⟩
      obtain ⟨T, B2, e1, e2, e3⟩ := g3 i x H2 hlt hy
      rw [List.getElem?_map, List.getElem?_eq_getElem hlt] at e1
      cases e1
      have ep : ps[i]? = some ps[i] := List.getElem?_eq_getElem hlt
      generalize ps[i] = p at e3 ep
      have hg := ht p (List.mem_of_getElem? ep)
      have s2 := s'.step e2
      have b2 : Go σ Γ1 B1 H1 σ Γ1 B2 H2 := b'.trans e2.go
      have xoD : ExOk X σ Γ1 B2 H2 := (xo.after b1).after b2
      have nD2 := e2.fr D _ hD nB'
      have hD2 := e2.ch D _ (by simp) hD
      refine hg (L2.wipe σ vs) B2 H2 x (s2.wipe vs) e3 _ fun σ3 B3 H3 Γ3 k3 s3 b3 w3 => ?_
      have w3' : L2.wipe σ3 vs = L2.wipe σ vs := w3.trans wipe_wipe
      have wg := Go.wipe (σ := σ) (Γ := Γ1) s2.bh vs
      refine ⟨w3', ?_⟩
      dsimp only [tYes]
      rw [if_pos rfl]
      refine k3 σ3 B3 H3 s3 (xoD.after (wg.trans b3)) _ fun y B4 H4 U Γ4 k4 s4 b4 t4 => ?_
      obtain ⟨rfl, k4⟩ := k4
      cases t4
      refine k4 σ3 B4 H4 s4 (xoD.after ((wg.trans b3).trans b4)) _ fun z B5 H5 W Γ5 k5 s5 b5 t5 => ?_
      obtain ⟨rfl, em⟩ := k5
      have nw : ¬ Own (L2.wipe σ vs) (wipeG Γ1 vs) D := fun z => by
        rcases wg.ow D z with z | z
        · exact nO' z
        · rw [hD2] at z
          cases z
      have gin := (b3.trans b4).trans b5
      have sm := Sat.merge s2 s5 w3' gin.same no
      have gm := Go.merge s2 s5 w3' gin no
      rw [em] at sm gm
      obtain ⟨hD5, nD5⟩ := gin.fr D _ hD2 nD2 nw
      have nO5 : ¬ Own σ Γ1 D := nO'
      have et : ps.take (i + 1) = ps.take i ++ [p] := by rw [List.take_add_one, ep]; rfl
      have fresh : key p ∉ xs.map Prod.fst := by
        rw [hk]
        have n2 : ((ps.take (i + 1)).map key).Nodup := nd.sublist ((List.take_sublist _ _).map key)
        rw [et, List.map_append, List.map_cons, List.map_nil] at n2
        exact fun m => (List.nodup_append.mp n2).2.2 _ m _ (List.mem_singleton.mpr rfl) rfl
      refine ⟨xs, key p, rfl, hD5, ?_, B5, xs ++ [(key p, z)], by rw [rem_upd]; exact sm.rem nD5 nO5, by rw [rem_upd]; exact br.trans ((e2.go.trans gm).rem nD5), nD5, by rw [upd_same, putK_app fresh], ?_, ?_⟩
      · have l1 := congrArg List.length hk
        rw [List.length_map, List.length_map, List.length_take] at l1
        omega
      · rw [et, List.map_append, List.map_append, hk]
        rfl
      · rw [et, List.map_append, List.map_append]
        exact (hacc.mono (e2.bb.trans gin.same)).snoc t5
    · have e : i = ps.length := by omega
      subst e
      rw [List.take_length] at hk hacc
      have ef : Eff [] B' (DL.rem H' D) (upd B' D (.dK xs)) H' := by
        have := Eff.new (S := []) (o := .dK xs) sr.bh (p := D) rem_self
        rw [upd_rem hD] at this
        exact this
      refine .inl ⟨g2, q (.ref D) _ H' _ Γ1 kk (sr.step ef) ((b1.trans br).trans ef.go) ⟨D, xs, rfl, upd_same, ?_, ?_⟩⟩
      · rw [hk, List.map_map]
        rfl
      · rw [List.map_map]
        exact hacc.mono ef.bb
/-! an instance that is being made -/
theorem lookF {B : Hp} {f : Str} {U : Ty} : ∀ {fs : List (Str × Ty)} {ws : List (Str × V)}, ws.map Prod.fst = fs.map Prod.fst → TyAll (fs.map Prod.snd) (ws.map Prod.snd) B → fs.lookup f = some U → ∃ x, ws.lookup f = some x ∧ U.ok x B
  | [], _, _, _, h => by cases h
  | _ :: _, [], e, _, _ => by cases e
  | (pn, pt) :: r, (yn, yv) :: z, e, t, h => by
    simp only [List.map_cons, List.cons.injEq] at e
    obtain ⟨e0, e⟩ := e
    subst e0
    by_cases q : f = yn
    · subst q
      rw [List.lookup_cons_self] at h
      cases h
      exact ⟨yv, List.lookup_cons_self, t.1⟩
    · have bne : (f == yn) = false := by simpa using q
      rw [List.lookup_cons, bne] at h
      obtain ⟨x, h1, h2⟩ := lookF e t.2 h
      exact ⟨x, by rw [List.lookup_cons, bne]; exact h1, h2⟩
theorem WE.fldO {i : Nat} {f : Str} {C : Addr} {fs : List (Str × Ty)} {U : Ty} (h0 : Γ[i]? = some (.own (mO C fs))) (cl : Cls K C) (na : NoAttr K C f) (l : fs.lookup f = some U) (k : κ U Γ) : WE X (tFld K (tVar i) f) Γ κ := fun σ B H s xo Q q => by
  obtain ⟨a, o, e1, e2, e3, dx, ws, rfl, e4, e5⟩ := s.own i _ _ h0 rfl
  obtain ⟨x, h1, h2⟩ := lookF e4 e5 l
  exact ⟨.ref a, e1, a, C, dx, ws, x, rfl, e2, cl, na, h1, q x B H U Γ k s (.refl s.bh) h2⟩
/-- statements that leave the slots -/
def WF (X : Xn) (t : TS) (Γ : List Slot) (κ : List Slot → Prop) : Prop := ∀ (σ : L2.St) (B H : Hp), Sat σ B H Γ → ExOk X σ Γ B H → ∀ D : Ends, (∀ (B' H' : Hp) (Γ' : List Slot), κ Γ' → Sat σ B' H' Γ' → Go σ Γ B H σ Γ' B' H' → D.nx σ H') → t D σ H
theorem WF.seq {t u : TS} {κ : List Slot → Prop} (h : WF X t Γ fun Γ1 => WF X u Γ1 κ) : WF X (tSeq t u) Γ κ := fun σ B H s xo D m =>
  h σ B H s xo _ fun B' H' Γ' k s' b => k σ B' H' s' (xo.after b) D fun B2 H2 Γ2 k2 s2 b2 => m B2 H2 Γ2 k2 s2 (b.trans b2)
theorem putF_new {f : Str} {v : V} : ∀ {ws : List (Str × V)}, f ∉ ws.map Prod.fst → putF f v ws = ws ++ [(f, v)]
  | [], _ => rfl
  | (g, x) :: r, h => by
    rw [List.map_cons, List.mem_cons, not_or] at h
    show (if g = f then (g, v) :: r else (g, x) :: putF f v r) = _
    rw [if_neg (fun z => h.1 z.symm), putF_new h.2]
    rfl
theorem WF.setFld {i : Nat} {f : Str} {te : TE} {κ : List Slot → Prop} {C : Addr} (cl : Cls K C) (na : NoAttr K C f) (h : WE X te Γ fun T Γ1 => ∃ fs, Γ1[i]? = some (.own (mO C fs)) ∧ f ∉ fs.map Prod.fst ∧ fs.length < 1000 ∧ κ (Γ1.set i (.own (mO C (fs ++ [(f, T)]))))) : WF X (sFld K (tVar i) te f) Γ κ := fun σ B H s xo D m =>
  h σ B H s xo _ fun v B1 H1 T Γ1 k1 s1 b1 t1 => by
    obtain ⟨fs, h0, nf, few, k⟩ := k1
    obtain ⟨a, o, e1, e2, e3, dx, ws, rfl, e4, e5⟩ := s1.own i _ _ h0 rfl
    have len := congrArg List.length e4
    rw [List.length_map, List.length_map] at len
    have ch := s1.change (S' := .own (mO C (fs ++ [(f, T)]))) (o := .ins C dx (ws ++ [(f, v)])) h0 rfl rfl e1 ⟨dx, _, rfl, by rw [List.map_append, List.map_append, e4]; rfl, by rw [List.map_append, List.map_append]; exact e5.snoc t1⟩ nofun
    refine ⟨.ref a, e1, a, C, dx, ws, rfl, e2, cl, na, by omega, ?_⟩
    rw [putF_new (by rw [e4]; exact nf)]
    exact m B1 _ _ k ch.1 (b1.trans ch.2)
section
variable {α : Type} {c : α → Cs} {N : List Str} {us : List V} {H : Hp} {Q : VK} {E : XK} {C : Addr}
theorem run_new {t : TS} (hl : ∀ x, (c x).args.length + 1 ≤ N.length) (h : spNew C c us H Q E)
    (body : ∀ x : α, (c x).pre → WF ⟨fun _ => E, fun C f T _ => (c x).out (.exc C f T)⟩ t (start8 N (.own (mO C []) :: (c x).args.map .is)) fun Γ' => ∃ fs, Γ'[0]? = some (.own (mO C fs)) ∧ (c x).out (.ret (tyO C fs))) :
    t { nx := fun _ H' => Q .non H', rt := Q } (L2.start N us) H := by
  obtain ⟨z, B, H0, x, dx, us, rfl, nx, nd, ne, rfl, bh, ta, hp, ho⟩ := h
  have bx : B x = none := base_none bh nx
  have keep : ∀ a o, H0 a = some o → a ≠ x ∧ upd (upd H0 dx (.own x)) x (.ins C dx []) a = some o := fun a o e => by
    have n1 : a ≠ x := fun z => by rw [z, nx] at e; cases e
    have n2 : a ≠ dx := fun z => by rw [z, nd] at e; cases e
    exact ⟨n1, by rw [upd_ne n1, upd_ne n2]; exact e⟩
  have bh' : Same B (upd (upd H0 dx (.own x)) x (.ins C dx [])) := fun a o e => (keep a o (bh a o e)).2
  have sa : Sat (L2.start N (.ref x :: us)) B (upd (upd H0 dx (.own x)) x (.ins C dx [])) (start8 N (.own (mO C []) :: (c z).args.map .is)) := sat_start (Ts := (c z).args) bh' (by rw [List.length_cons, ta.length]; exact hl z) (by rw [List.length_cons, List.length_cons, List.length_map, ta.length]) (fun i T q => by
    cases i with
    | zero => cases q
    | succ i =>
      rw [List.getElem?_cons_succ, List.getElem?_map] at q
      cases e : (c z).args[i]? with
      | none => rw [e] at q; cases q
      | some U =>
        rw [e] at q
        cases q
        exact ta.get e) (fun i S' M q hm => by
    cases i with
    | zero =>
      cases q
      cases hm
      exact ⟨rfl, x, _, rfl, upd_same, bx, dx, [], rfl, rfl, trivial⟩
    | succ i =>
      rw [List.getElem?_cons_succ, List.getElem?_map] at q
      cases e : (c z).args[i]? with
      | none => rw [e] at q; cases q
      | some U =>
        rw [e] at q
        cases q
        cases hm)
  have st0 : (L2.start N (.ref x :: us))[0]? = some (some (V.ref x)) := rfl
  have no : ∀ a, a ≠ x → ¬ Own (L2.start N (.ref x :: us)) (start8 N (.own (mO C []) :: (c z).args.map .is)) a := fun a n ⟨i, S, M, h1, h2, h3⟩ => by
    cases i with
    | zero =>
      rw [st0] at h3
      cases h3
      exact n rfl
    | succ i =>
      unfold start8 at h1
      rcases Nat.lt_or_ge (i + 1) (Slot.own (mO C []) :: (c z).args.map Slot.is).length with q | q
      · rw [List.getElem?_append_left q, List.getElem?_cons_succ, List.getElem?_map] at h1
        cases e : (c z).args[i]? with
        | none => rw [e] at h1; cases h1
        | some U =>
          rw [e] at h1
          cases h1
          cases h2
      · rw [List.getElem?_append_right q] at h1
        rw [List.eq_of_mem_replicate (List.mem_of_getElem? h1)] at h2
        cases h2
  have ef : ∀ {σ' : L2.St} {Γ' : List Slot} {B' H' : Hp}, Go (L2.start N (.ref x :: us)) (start8 N (.own (mO C []) :: (c z).args.map .is)) B (upd (upd H0 dx (.own x)) x (.ins C dx [])) σ' Γ' B' H' → Eff [] B H0 B' H' := fun {σ' Γ' B' H'} g =>
    have all : ∀ a o, H0 a = some o → H' a = some o := fun a o h => by
      cases e : B a with
      | none => exact (g.fr a o (keep a o h).2 e (no a (keep a o h).1)).1
      | some u =>
        have h2 := bh a u e
        rw [h] at h2
        cases h2
        exact g.bh a o (g.same a o e)
    ⟨g.same, g.bh, fun a o h e => (g.fr a o (keep a o h).2 e (no a (keep a o h).1)).2, fun a o _ h => all a o h, fun a o h => ⟨o, all a o h⟩⟩
  refine body z hp _ B _ sa (fun σ' v y B' H' C f T Γ' k s g ok n => ho _ k v y B' H' (ef g) ok n) _ fun B' H' Γ' k s g => ?_
  obtain ⟨fs, e0, k⟩ := k
  obtain ⟨a, o, e1, e2, e3, dx', ws, rfl, e4, e5⟩ := s.own 0 _ _ e0 rfl
  rw [st0] at e1
  cases e1
  obtain ⟨s', b⟩ := s.freeze e0 st0 e2
  exact ho _ k _ H' (ef (g.trans b)) ⟨x, dx', ws, rfl, upd_same, e4, e5.mono b.same⟩
end
end
end DL
set_option Elab.async false
set_option linter.all false
set_option maxRecDepth 100000
set_option maxHeartbeats 2000000
/-! the second layer: own defs behind operators and built-ins, methods by keyword or with defaults, a dict turned around -/
namespace DL
open PySem L2 Lx PyProof.Rows
section
variable {X : Xn} {Γ : List Slot} {κ : Ty → List Slot → Prop} {K : PySem.W.Frag} {α : Type} {c : α → Cs} {C : Addr} {E : XK} {fs : List (Str × Ty)}
theorem pure_P {Ts : List Ty} {vs : List V} {B H : Hp} {Q : VK} {w : Ty → Prop} (bh : Same B H) (t : TyAll Ts vs B) (h : Meets c Ts fun o => ∃ T, o = .ret T ∧ w T) (q : ∀ (v : V) (B' H' : Hp) (T : Ty), w T → Eff [] B H B' H' → T.ok v B' → Q v H') : spP c vs H Q E := by
  obtain ⟨x, rfl, hp, ho⟩ := h
  refine ⟨x, B, bh, t, hp, fun o hr => ?_⟩
  obtain ⟨T, rfl, k⟩ := ho o hr
  exact fun v B' H' e ok => q v B' H' T k e ok
theorem r2_inO {κ : Ty → Prop} {neg : Bool} {T : Ty} (h : Meets c [tyO C fs, T] fun o => ∃ U, o = .ret U ∧ ∃ b, U = tyB b ∧ κ (tyB (if neg then !b else b))) : R2w (rInO K neg C (spP c) E) T (tyO C fs) κ := fun x y B H Q bh hx hy q => by
  have hy' := hy
  obtain ⟨a, dx, ws, rfl, e1, e2, e3⟩ := hy
  refine ⟨a, dx, ws, rfl, bh _ _ e1, pure_P (Ts := [tyO C fs, T]) bh ⟨hy', hx, trivial⟩ h fun v B' H' U ⟨b, eU, k⟩ e ok => ?_⟩
  subst eU
  exact ⟨b, ok, q _ B' H' _ k e rfl⟩
theorem r2_eqO {κ : Ty → Prop} {neg : Bool} {U : Ty} {t : Value} (ht : TyIs K U t) (nf : PySem.W.notFirst K C t = true) (h : Meets c [tyO C fs, U] fun o => ∃ W, o = .ret W ∧ ∃ b, W = tyB b ∧ κ (tyB (if neg then !b else b))) : R2w (rEqO K neg C (spP c) E) (tyO C fs) U κ := fun x y B H Q bh hx hy q => by
  have hx' := hx
  obtain ⟨a, dx, ws, rfl, e1, e2, e3⟩ := hx
  refine ⟨a, dx, ws, t, rfl, bh _ _ e1, ht y H (U.mono bh hy), nf, pure_P (Ts := [tyO C fs, U]) bh ⟨hx', hy, trivial⟩ h fun v B' H' W ⟨b, eW, k⟩ e ok => ?_⟩
  subst eW
  exact ⟨b, ok, q _ B' H' _ k e rfl⟩
theorem rc_lenO {κ : Ty → Prop} (h : Meets c [tyO C fs] fun o => ∃ U, o = .ret U ∧ ∃ n : Int, U = tyI n ∧ 0 ≤ n ∧ n < 2 ^ 63 ∧ κ (tyI n)) : RC (rLenO K C (spP c) E) [tyO C fs] κ := fun vs B H Q bh t q => by
  obtain ⟨v, rfl, t1⟩ := vals_one t
  have t' := t1
  obtain ⟨a, dx, ws, rfl, e1, e2, e3⟩ := t1
  refine ⟨a, dx, ws, rfl, bh _ _ e1, pure_P (Ts := [tyO C fs]) bh ⟨t', trivial⟩ h fun v B' H' W ⟨n, eW, h0, h1, k⟩ e ok => ?_⟩
  subst eW
  exact ⟨n, ok, h0, h1, q _ B' H' _ k e rfl⟩
theorem rc_strO {κ : Ty → Prop} (h : Meets c [tyO C fs] fun o => ∃ U, o = .ret U ∧ ∃ z : Str, U = tyS z ∧ κ (tyS z)) : RC (rStrO C (spP c) E) [tyO C fs] κ := fun vs B H Q bh t q => by
  obtain ⟨v, rfl, t1⟩ := vals_one t
  have t' := t1
  obtain ⟨a, dx, ws, rfl, e1, e2, e3⟩ := t1
  refine ⟨a, dx, ws, rfl, bh _ _ e1, pure_P (Ts := [tyO C fs]) bh ⟨t', trivial⟩ h fun v B' H' W ⟨z, eW, k⟩ e ok => ?_⟩
  subst eW
  exact ⟨⟨z, ok⟩, q _ B' H' _ k e ok⟩
/-- o.m(..), the last parameters by their defaults -/
theorem WE.methD {m : Str} {ds : List V} (Ds : List Ty) {ta : TE} {t : TA} (hd : ∀ B, TyAll Ds ds B) (hE : ∀ σ, X.E σ = E) (h : WE X ta Γ fun T Γ1 => ∃ fs, T = tyO C fs ∧ fs.lookup m = none ∧ WA X t Γ1 fun Ts Γ2 => Meets c (T :: (Ts ++ Ds)) (Post X κ Γ2)) : WE X (tMeth C m (spP c) ds E ta t) Γ κ := fun σ B H s xo Q q =>
  h σ B H s xo _ fun v B1 H1 T Γ1 k1 s1 b1 t1 => by
    obtain ⟨fs, rfl, hm, k1⟩ := k1
    have t1' := t1
    obtain ⟨a, dx, ws, rfl, e1, e2, e3⟩ := t1
    refine ⟨a, dx, ws, rfl, s1.bh _ _ e1, lookup_names e2 hm, k1 σ B1 H1 s1 (xo.after b1) _ fun vs B2 H2 Ts Γ2 k2 s2 b2 t2 => ?_⟩
    rw [← hE σ]
    exact apply_P s2 (xo.after (b1.trans b2)) (vs := .ref a :: (vs ++ ds)) (Ts := tyO C fs :: (Ts ++ Ds)) ⟨Ty.mono _ b2.same t1', t2.append (hd _)⟩ k2 fun v B' H' T k s' g' ok => q v B' H' T Γ2 k s' ((b1.trans b2).trans g') ok
theorem WE.methD0 {m : Str} {ds : List V} (Ds : List Ty) {ta : TE} {t : TA} (hd : ∀ B, TyAll Ds ds B) (h : WE X ta Γ fun T Γ1 => ∃ fs, T = tyO C fs ∧ fs.lookup m = none ∧ WA X t Γ1 fun Ts Γ2 => Meets c (T :: (Ts ++ Ds)) fun o => ∃ T, o = .ret T ∧ κ T Γ2) : WE X (tMeth C m (spP c) ds E ta t) Γ κ := fun σ B H s xo Q q =>
  h σ B H s xo _ fun v B1 H1 T Γ1 k1 s1 b1 t1 => by
    obtain ⟨fs, rfl, hm, k1⟩ := k1
    have t1' := t1
    obtain ⟨a, dx, ws, rfl, e1, e2, e3⟩ := t1
    refine ⟨a, dx, ws, rfl, s1.bh _ _ e1, lookup_names e2 hm, k1 σ B1 H1 s1 (xo.after b1) _ fun vs B2 H2 Ts Γ2 k2 s2 b2 t2 => ?_⟩
    exact pure_P s2.bh (vs := .ref a :: (vs ++ ds)) (Ts := tyO C fs :: (Ts ++ Ds)) ⟨Ty.mono _ b2.same t1', t2.append (hd _)⟩ k2 fun v B' H' T k e ok => q v B' H' T Γ2 k (s2.step e) ((b1.trans b2).trans e.go) ok
theorem WE.makeW0 {t : TA} {g : L2.St → Prop} {n : Nat} (hg : ∀ σ B H, Sat σ B H Γ → g σ) (h : WA X t Γ fun Ts Γ1 => Ts.length + 1 = n ∧ Meets c Ts fun o => ∃ T, o = .ret T ∧ κ T Γ1) : WE X (tMakeW C g [] (byName n [] (spNew C c)) E t tNil) Γ κ := fun σ B H s xo Q q =>
  ⟨hg σ B H s, h σ B H s xo _ fun vs B1 H1 Ts Γ1 k1 s1 b1 t1 x dx nx nd ne => by
    refine ⟨?_, rfl, ?_⟩
    · rw [List.length_cons, t1.length]
      exact k1.1
    rw [List.zip_nil_left, List.map_nil, List.append_nil]
    obtain ⟨z, e1, e2, e3⟩ := k1.2
    exact apply_new (X := ⟨fun _ => E, fun _ _ _ _ => False⟩) s1 (fun _ _ _ _ _ _ _ _ _ z => z.elim) t1 ⟨z, e1, e2, fun o ho => by
      obtain ⟨T, rfl, k⟩ := e3 o ho
      exact k⟩ nx nd ne fun v B' H' T k s' g' ok => q v B' H' T Γ1 k s' (b1.trans g') ok⟩
theorem unzip_zip {α β : Type} {ks : List α} {zs : List β} (h : zs.length = ks.length) : (ks.zip zs).map (·.1) = ks ∧ (ks.zip zs).map (·.2) = zs :=
  ⟨List.map_fst_zip (by omega), List.map_snd_zip (by omega)⟩
/-- o.m(.., k = v, ..) -/
theorem WE.methW {m : Str} {ks : List Str} {n : Nat} {ES : L2.St → XK} {ta : TE} {t tk : TA} (hE : ∀ σ, X.E σ = ES σ) (h : WE X ta Γ fun T Γ1 => ∃ fs, T = tyO C fs ∧ fs.lookup m = none ∧ WA X t Γ1 fun Ts Γ2 => Ts.length + 1 = n ∧ WA X tk Γ2 fun Us Γ3 => Us.length = ks.length ∧ Meets c (T :: (Ts ++ Us)) (Post X κ Γ3)) : WE X (tMethW C m ks (byName n ks (spP c)) ES ta t tk) Γ κ := fun σ B H s xo Q q =>
  h σ B H s xo _ fun v B1 H1 T Γ1 k1 s1 b1 t1 => by
    obtain ⟨fs, rfl, hm, k1⟩ := k1
    have t1' := t1
    obtain ⟨a, dx, ws, rfl, e1, e2, e3⟩ := t1
    refine ⟨a, dx, ws, rfl, s1.bh _ _ e1, lookup_names e2 hm, k1 σ B1 H1 s1 (xo.after b1) _ fun vs B2 H2 Ts Γ2 k2 s2 b2 t2 => k2.2 σ B2 H2 s2 (xo.after (b1.trans b2)) _ fun zs B3 H3 Us Γ3 k3 s3 b3 t3 => ?_⟩
    obtain ⟨z1, z2⟩ := unzip_zip (ks := ks) (zs := zs) (by rw [t3.length, k3.1])
    refine ⟨by rw [List.length_cons, t2.length]; exact k2.1, z1, ?_⟩
    rw [z2, ← hE σ]
    exact apply_P s3 (xo.after ((b1.trans b2).trans b3)) (vs := .ref a :: (vs ++ zs)) (Ts := tyO C fs :: (Ts ++ Us)) ⟨Ty.mono _ (b2.same.trans b3.same) t1', (t2.mono b3.same).append t3⟩ k3.2 fun v B' H' T k s' g' ok => q v B' H' T Γ3 k s' (((b1.trans b2).trans b3).trans g') ok
/-- C.m(k = v, ..), m a classmethod -/
theorem WE.cmethW {ks : List Str} {ta : TE} {tk : TA} (hE : ∀ σ, X.E σ = E) (h : WE X ta Γ fun T Γ1 => T = tyV (.ref C) ∧ WA X tk Γ1 fun Us Γ2 => Us.length = ks.length ∧ Meets c (T :: Us) (Post X κ Γ2)) : WE X (tCMethW C ks (byName 1 ks (spP c)) E ta tk) Γ κ := fun σ B H s xo Q q =>
  h σ B H s xo _ fun v B1 H1 T Γ1 k1 s1 b1 t1 => by
    obtain ⟨rfl, k1⟩ := k1
    refine ⟨t1, k1 σ B1 H1 s1 (xo.after b1) _ fun zs B2 H2 Us Γ2 k2 s2 b2 t2 => ?_⟩
    obtain ⟨z1, z2⟩ := unzip_zip (ks := ks) (zs := zs) (by rw [t2.length, k2.1])
    refine ⟨rfl, z1, ?_⟩
    rw [z2, ← hE σ]
    exact apply_P s2 (xo.after (b1.trans b2)) (vs := .ref C :: zs) (Ts := tyV (.ref C) :: Us) ⟨rfl, t2⟩ k2.2 fun v B' H' T k s' g' ok => q v B' H' T Γ2 k s' ((b1.trans b2).trans g') ok
end
/-! {name: field for field in d for name in d[field]} -/
abbrev Part := Str × List Str
def homes (ds : List Part) : List (Str × Str) := ds.flatMap fun p => p.2.map fun f => (f, p.1)
def tabT (_ : PySem.W.Frag) (ds : List Part) : List (Key × Ty) := ds.map fun p => (Sum.inr p.1, tyF (p.2.map tyS))
def homeK (hs : List (Str × Str)) : List (Key × V) := hs.map fun h => (Sum.inr h.1, V.str h.2)
section
variable {X : Xn} {Γ : List Slot} {κ : Ty → List Slot → Prop} {K : PySem.W.Frag} {C : Addr} {fs : List (Str × Ty)} {ds : List Part} {i jf jn : Nat}
theorem valV_in {k : Key} {v : V} : ∀ {us : List (Key × V)}, (us.map Prod.fst).Nodup → (k, v) ∈ us → valV us k = some v
  | [], _, h => by cases h
  | (k1, v1) :: us, nd, h => by
    rw [List.map_cons, List.nodup_cons] at nd
    rcases List.mem_cons.mp h with e | m
    · cases e
      simp [valV]
    · have ne : k1 ≠ k := fun z => nd.1 (by rw [z]; exact List.mem_map.mpr ⟨_, m, rfl⟩)
      have := valV_in nd.2 m
      simpa [valV, ne] using this
theorem homes_snoc {p : Part} {i : Nat} (e : ds[i]? = some p) : homes (ds.take (i + 1)) = homes (ds.take i) ++ p.2.map fun f => (f, p.1) := by
  unfold homes
  rw [List.take_add_one, e, List.flatMap_append]
  simp
theorem homes_pre (i : Nat) : ∃ r, homes ds = homes (ds.take i) ++ r := by
  refine ⟨homes (ds.drop i), ?_⟩
  unfold homes
  rw [← List.flatMap_append, List.take_append_drop]
theorem WE.turnD (h0 : Γ[i]? = some (.own (mO C fs))) (cl : Cls K C) (na : NoAttr K C "table") (l : fs.lookup ("table" : Str) = some (tyD (tabT K ds))) (nd : ((homes ds).map Prod.fst).Nodup) (nk : (ds.map Prod.fst).Nodup) (few : (homes ds).length < sizeLine) (i1 : i ≠ jf) (i2 : i ≠ jn) (i3 : jf ≠ jn) (lf : jf < Γ.length) (ln : jn < Γ.length)
    (k : κ (tyD ((homes ds).map fun h => (Sum.inr h.1, tyS h.2))) Γ) : WE X (tLockE (tDc2 (iKeys (tFld K (tVar i) "table")) (gName jf) (iTup K (tDGet (tFld K (tVar i) "table") (tVar jf))) (gName jn) (tVar jn) (tVar jf) [jf, jn] [jn])) Γ κ := fun σ B H s xo Q q => by
  obtain ⟨a, o, e1, e2, e3, dx, ws, rfl, e4, e5⟩ := s.own i _ _ h0 rfl
  obtain ⟨x, h1, td, us, rfl, hB, hks, hty⟩ := lookF e4 e5 l
  have hT := s.bh _ _ hB
  refine ⟨td, .dK us, hT, trivial, fun od => ?_⟩
  generalize hHL : upd H td (.frz od (.dK us)) = HL
  have hLt : HL td = some (.frz od (.dK us)) := by rw [← hHL]; exact upd_same
  have hLo : ∀ b, b ≠ td → HL b = H b := fun b n => by rw [← hHL]; exact upd_ne n
  have lks : us.length = ds.length := by
    have := congrArg List.length hks
    unfold tabT at this
    simpa using this
  have at_ : ∀ (n : Nat) (p : Part), ds[n]? = some p → ∃ t, us[n]? = some (Sum.inr p.1, .ref t) ∧ ∃ zs, SqT K H t zs ∧ zs = p.2.map V.str := fun n p e => by
    have ek : (us.map Prod.fst)[n]? = some (Sum.inr p.1) := by
      rw [hks]
      unfold tabT
      rw [List.map_map, List.getElem?_map, e]
      rfl
    have ev : ((tabT K ds).map Prod.snd)[n]? = some (tyF (p.2.map tyS)) := by
      unfold tabT
      rw [List.map_map, List.getElem?_map, e]
      rfl
    obtain ⟨v, v1, tv⟩ := hty.get ev
    obtain ⟨t, zs, rfl, v2, v3⟩ := tyF_T (K := K) tv
    rw [List.getElem?_map] at ek v1
    cases eu : us[n]? with
    | none => rw [eu] at ek; cases ek
    | some y =>
      rw [eu] at ek v1
      obtain ⟨y1, y2⟩ := y
      simp only [Option.map_some, Option.some.injEq] at ek v1
      subst ek v1
      rw [strs_map] at v3
      exact ⟨t, rfl, zs, seqT_same s.bh v2, v3.vals⟩
  have wo : (L2.wipe σ [jf, jn])[i]? = σ[i]? := wipe_out (by simp [i1, i2])
  have lw : (L2.wipe σ [jf, jn]).length = σ.length := wipe_length ..
  have ls := s.len
  have ne_td : a ≠ td := fun z => by rw [z, hB] at e3; cases e3
  have rdO : ∀ {Hx : Hp}, Hx a = HL a → Hx a = some (.ins C dx ws) := fun h => by rw [h, hLo _ ne_td, e2]
  refine ⟨.ref a, e1, a, C, dx, ws, _, rfl, rdO rfl, cl, na, h1, td, od, rfl, .inl ⟨us, hLt, fun D nD => ?_⟩⟩
  have Dtd : D ≠ td := fun z => by rw [z, hLt] at nD; cases nD
  have nDH : H D = none := by rw [← hLo _ Dtd]; exact nD
  have aD : a ≠ D := fun z => by rw [← z, e2] at nDH; cases nDH
  have rdD : ∀ o, upd HL D o td = some (.frz od (.dK us)) := fun o => by rw [upd_ne Dtd.symm]; exact hLt
  have rdA : ∀ o, upd HL D o a = some (.ins C dx ws) := fun o => by rw [upd_ne aD]; exact rdO rfl
  have rdT : ∀ {t : Addr} {zs : List V} (o), SqT K H t zs → SqT K (upd HL D o) t zs := fun {t zs} o h => by
    rcases h with (h | ⟨o', h⟩) | h
    · have n1 : t ≠ td := fun z => by rw [z, hT] at h; cases h
      have n2 : t ≠ D := fun z => by rw [z, nDH] at h; cases h
      exact .inl (.inl (by rw [upd_ne n2, hLo _ n1]; exact h))
    · have n1 : t ≠ td := fun z => by rw [z, hT] at h; cases h
      have n2 : t ≠ D := fun z => by rw [z, nDH] at h; cases h
      exact .inl (.inr ⟨o', by rw [upd_ne n2, hLo _ n1]; exact h⟩)
    · exact .inr h
  refine ⟨fun n m H' => n ≤ ds.length ∧ m = ds.length - n ∧ H' = upd HL D (.dK (homeK (homes (ds.take n)))), ⟨ds.length, Nat.zero_le _, by simp, rfl⟩, ?_⟩
  rintro n m H' ⟨hn, rfl, rfl⟩
  by_cases hlt : n < ds.length
  · refine .inr ⟨⟨rdD _, by omega⟩, fun H' => H' = upd HL D (.dK (homeK (homes (ds.take (n + 1))))), fun H' e => ⟨ds.length - (n + 1), by omega, hlt, rfl, e⟩, ?_⟩
    rintro x H' ⟨rfl, kx, vx, ex, rfl⟩
    have ep : ds[n]? = some ds[n] := List.getElem?_eq_getElem hlt
    generalize ds[n] = p at ep
    obtain ⟨t, f1, zs, f2, f3⟩ := at_ n p ep
    rw [ex] at f1
    cases f1
    subst f3
    have w1 : L2.wipe ((L2.wipe σ [jf, jn]).set jf (some (kV (Sum.inr p.1)))) [jf, jn] = L2.wipe σ [jf, jn] := (wipe_set (by simp)).trans wipe_wipe
    refine ⟨w1, ?_⟩
    generalize hσ2 : (L2.wipe σ [jf, jn]).set jf (some (kV (Sum.inr p.1))) = σ2
    have s2i : σ2[i]? = some (some (.ref a)) := by rw [← hσ2, List.getElem?_set_ne i1.symm, wo, e1]
    have s2f : σ2[jf]? = some (some (.str p.1)) := by rw [← hσ2, List.getElem?_set_self (by omega)]; rfl
    have l2 : σ2.length = σ.length := by rw [← hσ2, List.length_set, lw]
    have dg : DGet (upd HL D (.dK (homeK (homes (ds.take n))))) td (.str p.1) (some (.ref t)) := by
      refine .inl ⟨us, Sum.inr p.1, .inr ⟨od, rdD _⟩, rfl, ?_⟩
      have nu : (us.map Prod.fst).Nodup := by
        rw [hks]
        unfold tabT
        rw [List.map_map]
        have e : (Prod.fst ∘ fun p : Part => ((Sum.inr p.1 : Key), tyF (p.2.map tyS))) = Sum.inr ∘ Prod.fst := rfl
        rw [e, ← List.map_map]
        exact List.Pairwise.map _ (fun _ _ h z => h (Sum.inr.inj z)) nk
      exact (valV_in nu (List.mem_of_getElem? ex)).symm
    refine ⟨.ref a, s2i, a, C, dx, ws, _, rfl, rdA _, cl, na, h1, _, s2f, td, _, rfl, dg, t, rfl, ⟨_, rdT _ f2⟩, ?_⟩
    have wk := walk_tup (K := K) (a := t) (xs := p.2.map V.str)
    have lp : (p.2.map V.str).length = p.2.length := List.length_map ..
    refine ⟨fun j m H' => j ≤ p.2.length ∧ m = p.2.length - j ∧ H' = upd HL D (.dK (homeK (homes (ds.take n) ++ (p.2.take j).map fun f => (f, p.1)))), ⟨p.2.length, Nat.zero_le _, by simp, by simp⟩, ?_⟩
    rintro j m H' ⟨hj, rfl, rfl⟩
    by_cases hlj : j < p.2.length
    · refine .inr ⟨wk.goes j _ (by rw [lp]; exact hlj) (rdT _ f2), fun H' => H' = upd HL D (.dK (homeK (homes (ds.take n) ++ (p.2.take (j + 1)).map fun f => (f, p.1)))), fun H' e => ⟨p.2.length - (j + 1), by omega, hlj, rfl, e⟩, fun x H' hy => ?_⟩
      obtain ⟨rfl, y⟩ := wk.yields j _ x _ (by rw [lp]; exact hlj) (rdT _ f2) hy
      have ef : p.2[j]? = some p.2[j] := List.getElem?_eq_getElem hlj
      generalize p.2[j] = f at ef
      rw [List.getElem?_map, ef] at y
      cases y
      refine ⟨(wipe_set (by simp)).trans wipe_wipe, ?_⟩
      have w2 : (L2.wipe σ2 [jn])[jf]? = σ2[jf]? := wipe_out (by simp [i3])
      have w3 : (L2.wipe σ2 [jn]).length = σ2.length := wipe_length ..
      have et : (p.2.take (j + 1)).map (fun f => (f, p.1)) = (p.2.take j).map (fun f => (f, p.1)) ++ [(f, p.1)] := by
        rw [List.take_add_one, ef, List.map_append]
        rfl
      have all : ∃ r, homes ds = (homes (ds.take n) ++ (p.2.take j).map fun f => (f, p.1)) ++ ((f, p.1) :: r) := by
        obtain ⟨r, er⟩ := homes_pre (ds := ds) (n + 1)
        refine ⟨(p.2.drop (j + 1)).map (fun f => (f, p.1)) ++ r, ?_⟩
        rw [er, homes_snoc ep, ← List.take_append_drop (j + 1) p.2, List.map_append, et]
        simp
      obtain ⟨r, er⟩ := all
      refine ⟨.str f, by rw [List.getElem?_set_self (by omega)], .str p.1, by rw [List.getElem?_set_ne i3.symm, w2, s2f], _, Sum.inr f, rfl, upd_same, ?_, ?_⟩
      · have := congrArg List.length er
        rw [List.length_append, List.length_cons] at this
        unfold homeK
        rw [List.length_map]
        omega
      · have fr : (Sum.inr f : Key) ∉ (homeK (homes (ds.take n) ++ (p.2.take j).map fun f => (f, p.1))).map Prod.fst := fun z => by
          rw [er, List.map_append, List.map_cons] at nd
          unfold homeK at z
          rw [List.map_map] at z
          obtain ⟨u, u1, u2⟩ := List.mem_map.mp z
          have u2 : (Sum.inr u.1 : Key) = Sum.inr f := u2
          exact (List.nodup_append.mp nd).2.2 u.1 (List.mem_map.mpr ⟨u, u1, rfl⟩) f (List.mem_cons_self ..) (Sum.inr.inj u2)
        rw [upd_upd, putK_app fr, et]
        unfold homeK
        rw [← List.append_assoc, List.map_append (l₂ := [(f, p.1)])]
        rfl
    · have e : j = p.2.length := by omega
      subst e
      refine .inl ⟨?_, ?_⟩
      · have := wk.stops _ (rdT (.dK (homeK (homes (ds.take n) ++ (p.2.take p.2.length).map fun f => (f, p.1)))) f2)
        rwa [lp] at this
      · rw [homes_snoc ep, List.take_length]
  · have e : n = ds.length := by omega
    subst e
    rw [List.take_length]
    refine .inl ⟨⟨rdD _, by omega⟩, rdD _, ?_⟩
    have eh : upd (upd HL D (.dK (homeK (homes ds)))) td (.dK us) = upd H D (.dK (homeK (homes ds))) := by
      funext b
      by_cases b1 : b = td
      · rw [b1, upd_same, upd_ne Dtd.symm, hT]
      · rw [upd_ne b1]
        by_cases b2 : b = D
        · rw [b2, upd_same, upd_same]
        · rw [upd_ne b2, upd_ne b2, hLo _ b1]
    rw [eh]
    have ef : Eff [] B H (upd B D (.dK (homeK (homes ds)))) (upd H D (.dK (homeK (homes ds)))) := .new s.bh nDH
    refine q _ _ _ _ Γ k (s.step ef) ef.go ⟨D, _, rfl, upd_same, ?_, ?_⟩
    · unfold homeK
      rw [List.map_map, List.map_map]
      rfl
    · unfold homeK
      rw [List.map_map, List.map_map]
      have e : ((Prod.snd : Key × Ty → Ty) ∘ fun h : Str × Str => ((Sum.inr h.1 : Key), tyS h.2)) = tyS ∘ Prod.snd := rfl
      have e' : ((Prod.snd : Key × V → V) ∘ fun h : Str × Str => ((Sum.inr h.1 : Key), V.str h.2)) = V.str ∘ Prod.snd := rfl
      rw [e, e', ← List.map_map, ← List.map_map, strs_map]
      exact .ofVals _
end
end DL
set_option Elab.async false
set_option linter.all false
set_option maxRecDepth 100000
set_option maxHeartbeats 2000000
/-! forms, in plain Lean: names, parts, their texts, sorted parts -/
namespace Fm
open PySem L2 Lx DL TL PyProof.Rows
def RESERVED : List Str := "all" :: "any" :: "anew" :: "ask" :: "by" :: "cls" :: "count" :: "delete" :: "early" :: "either" :: "end" :: "for" :: "fresh" :: "has" :: "in" :: "item" :: "keep" :: "key" :: "late" :: "len" :: "list" :: "now" :: "or" :: "others" :: "part" :: "quiet" :: "repeat" :: "reread" :: "save" :: "self" :: "show" :: "touched" :: "truth" :: "update" :: "walk" :: "wipe" :: []
def isLow (c : Nat) : Bool := decide (97 ≤ c) && decide (c ≤ 122)
def isWord (s : Str) : Bool := (decide (1 ≤ s.length) && decide (s.length ≤ 8)) && (tl s).all isLow
def isName (s : Str) : Bool := isWord s && !inV (.str s) (RESERVED.map V.str)
def names (ps : List Part) : List Str := ps.flatMap fun p => p.1 :: p.2
structure Wf (ps : List Part) : Prop where
  pos : 1 ≤ ps.length
  few : ps.length ≤ 3
  fil : (names ps).length ≤ ps.length + 3
  nm : ∀ s ∈ names ps, isName s = true
  nd : (names ps).Nodup
def isRight (ps : List Part) : Bool := ((decide (1 ≤ ps.length) && decide (ps.length ≤ 3)) && decide ((names ps).length ≤ ps.length + 3)) && ((names ps).all isName && decide ((dd (names ps)).length = (names ps).length))
theorem nodup_snoc {α : Type} {l : List α} {x : α} : (l ++ [x]).Nodup ↔ l.Nodup ∧ x ∉ l := by
  rw [List.nodup_append]
  simp only [List.nodup_cons, List.not_mem_nil, not_false_eq_true, List.nodup_nil, and_self, List.mem_cons, or_false, true_and]
  exact ⟨fun ⟨a, b⟩ => ⟨a, fun m => b x m x rfl rfl⟩, fun ⟨a, b⟩ => ⟨a, fun y m z e w => b (by rw [← e, ← w]; exact m)⟩⟩
theorem dd_take {α : Type} [DecidableEq α] {ns : List α} (h : (dd ns).length = ns.length) : ∀ k, k ≤ ns.length → (dd (ns.take k)).length = k ∧ (ns.take k).Nodup := by
  have mono : ∀ (a b : List α), (dd (a ++ b)).length ≤ (dd a).length + b.length := fun a b => by
    induction b using List.rec generalizing a with
    | nil => simp
    | cons x r ih =>
      have := ih (a ++ [x])
      rw [List.append_assoc] at this
      have e : a ++ x :: r = a ++ ([x] ++ r) := rfl
      rw [e]
      refine Nat.le_trans this ?_
      rw [dd_snoc, List.length_cons]
      split
      · omega
      · rw [List.length_append]
        simp
        omega
  intro k hk
  induction k with
  | zero => exact ⟨rfl, by simp⟩
  | succ k ih =>
    obtain ⟨h1, h2⟩ := ih (by omega)
    have ek : ns[k]? = some ns[k] := List.getElem?_eq_getElem (by omega)
    generalize ns[k] = x at ek
    have et : ns.take (k + 1) = ns.take k ++ [x] := by rw [List.take_add_one, ek]; rfl
    have m := mono (ns.take (k + 1)) (ns.drop (k + 1))
    rw [List.take_append_drop, h, List.length_drop] at m
    have up : (dd (ns.take (k + 1))).length ≤ k + 1 := by
      have := (dd_facts (ns.take (k + 1))).2.2
      rw [List.length_take] at this
      omega
    refine ⟨by omega, ?_⟩
    rw [et, nodup_snoc]
    refine ⟨h2, fun z => ?_⟩
    rw [et, dd_snoc, if_pos ((dd_facts _).2.1 x |>.mpr z)] at m
    omega
theorem dd_of {α : Type} [DecidableEq α] : ∀ {ns : List α}, ns.Nodup → dd ns = ns := by
  intro ns nd
  have : ∀ k, k ≤ ns.length → dd (ns.take k) = ns.take k := fun k hk => by
    induction k with
    | zero => rfl
    | succ k ih =>
      have ek : ns[k]? = some ns[k] := List.getElem?_eq_getElem (by omega)
      generalize ns[k] = x at ek
      have et : ns.take (k + 1) = ns.take k ++ [x] := by rw [List.take_add_one, ek]; rfl
      have n2 : (ns.take (k + 1)).Nodup := nd.sublist (List.take_sublist _ _)
      rw [et, nodup_snoc] at n2
      rw [et, dd_snoc, ih (by omega), if_neg n2.2]
  have := this ns.length (Nat.le_refl _)
  rwa [List.take_length] at this
theorem isRight_iff {ps : List Part} : isRight ps = true ↔ Wf ps := by
  unfold isRight
  simp only [Bool.and_eq_true, decide_eq_true_eq, List.all_eq_true]
  constructor
  · rintro ⟨⟨⟨h1, h2⟩, h3⟩, h4, h5⟩
    refine ⟨h1, h2, h3, h4, ?_⟩
    have := (dd_take h5 (names ps).length (Nat.le_refl _)).2
    rwa [List.take_length] at this
  · rintro ⟨h1, h2, h3, h4, h5⟩
    exact ⟨⟨⟨h1, h2⟩, h3⟩, h4, by rw [dd_of h5]⟩
/-! sorted -/
def leS (a b : Str) : Bool := !decide (tl b < tl a)
theorem leS_trans (a b c : Str) : leS a b = true → leS b c = true → leS a c = true := by
  unfold leS
  simp only [Bool.not_eq_true', decide_eq_false_iff_not]
  exact fun h1 h2 h3 => by
    have h1 : tl a ≤ tl b := h1
    have h2 : tl b ≤ tl c := h2
    exact (List.le_trans h1 h2) h3
theorem leS_total (a b : Str) : (leS a b || leS b a) = true := by
  unfold leS
  simp only [Bool.or_eq_true, Bool.not_eq_true', decide_eq_false_iff_not]
  exact (List.le_total (tl a) (tl b)).imp (fun h => h) fun h => h
theorem leS_anti {a b : Str} (h1 : leS a b = true) (h2 : leS b a = true) : a = b := by
  unfold leS at h1 h2
  simp only [Bool.not_eq_true', decide_eq_false_iff_not] at h1 h2
  exact ext_tl (List.le_antisymm h1 h2)
def srt (xs : List Str) : List Str := xs.mergeSort leS
theorem srt_perm (xs : List Str) : (srt xs).Perm xs := List.mergeSort_perm _ _
theorem srt_len (xs : List Str) : (srt xs).length = xs.length := (srt_perm xs).length_eq
theorem srt_pw (xs : List Str) : (srt xs).Pairwise fun a b => leS a b = true := List.pairwise_mergeSort leS_trans leS_total xs
theorem srt_uniq {xs ys : List Str} (p : ys.Perm xs) (h : ys.Pairwise fun a b => leS a b = true) : ys = srt xs :=
  List.Perm.eq_of_pairwise (fun a b _ _ h1 h2 => leS_anti h1 h2) h (srt_pw xs) (p.trans (srt_perm xs).symm)
theorem rising_pw : ∀ {ss : List Str} {p : Str}, risingS p ss = true → (∀ x ∈ ss, leS p x = true) ∧ ss.Pairwise fun a b => leS a b = true
  | [], _, _ => ⟨nofun, .nil⟩
  | x :: r, p, h => by
    unfold risingS at h
    rw [Bool.and_eq_true, Bool.not_eq_true'] at h
    obtain ⟨h1, h2⟩ := rising_pw h.2
    have e : leS p x = true := by
      unfold leS
      rw [Bool.not_eq_true', decide_eq_false_iff_not]
      intro z
      have q : PySem.Spec.ltCps x.cps.toList p.cps.toList = true := by rw [ltCps_eq]; exact decide_eq_true z
      rw [q] at h
      cases h.1
    refine ⟨fun y hy => ?_, .cons h1 h2⟩
    rcases List.mem_cons.mp hy with rfl | m
    · exact e
    · exact leS_trans _ _ _ e (h1 y m)
theorem srt_of {xs ys : List Str} (p : ys.Perm xs) (h : sortedS ys = true) : ys = srt xs := by
  refine srt_uniq p ?_
  cases ys with
  | nil => exact .nil
  | cons x r =>
    obtain ⟨h1, h2⟩ := rising_pw (show risingS x r = true from h)
    exact .cons h1 h2
theorem srt_eq {xs ys : List Str} (p : ys.Perm xs) : srt ys = srt xs := srt_uniq ((srt_perm ys).trans p) (srt_pw ys)
theorem srt_srt (xs : List Str) : srt (srt xs) = srt xs := srt_eq (srt_perm xs)
def srtK (ps : List Part) : List Part := ps.mergeSort fun a b => leS a.1 b.1
theorem srtK_perm (ps : List Part) : (srtK ps).Perm ps := List.mergeSort_perm _ _
theorem srtK_pw (ps : List Part) : (srtK ps).Pairwise fun a b => leS a.1 b.1 = true := List.pairwise_mergeSort (fun a b c => leS_trans a.1 b.1 c.1) (fun a b => leS_total a.1 b.1) ps
theorem nodup_inj {α β : Type} {f : α → β} : ∀ {l : List α} {a b : α}, (l.map f).Nodup → a ∈ l → b ∈ l → f a = f b → a = b
  | x :: l, a, b, nd, ha, hb, e => by
    rw [List.map_cons, List.nodup_cons] at nd
    rcases List.mem_cons.mp ha with ea | ha' <;> rcases List.mem_cons.mp hb with eb | hb'
    · rw [ea, eb]
    · rw [ea] at e
      exact absurd (List.mem_map.mpr ⟨b, hb', e.symm⟩) nd.1
    · rw [eb] at e
      exact absurd (List.mem_map.mpr ⟨a, ha', e⟩) nd.1
    · exact nodup_inj nd.2 ha' hb' e
  | [], _, _, _, h, _, _ => by cases h
theorem srtK_uniq {ps qs : List Part} (nd : (ps.map Prod.fst).Nodup) (p : qs.Perm ps) (h : qs.Pairwise fun a b => leS a.1 b.1 = true) : qs = srtK ps :=
  List.Perm.eq_of_pairwise (fun a b ha hb h1 h2 => nodup_inj nd (p.mem_iff.mp ha) ((srtK_perm ps).mem_iff.mp hb) (leS_anti h1 h2)) h (srtK_pw ps) (p.trans (srtK_perm ps).symm)
/-- the parts, all sorted -/
def srtP (ps : List Part) : List Part := (srtK ps).map fun p => (p.1, srt p.2)
theorem srtP_len (ps : List Part) : (srtP ps).length = ps.length := by unfold srtP; rw [List.length_map, (srtK_perm ps).length_eq]
theorem perm_flat {α β : Type} {f g : α → List β} : ∀ {l : List α}, (∀ x ∈ l, (f x).Perm (g x)) → (l.flatMap f).Perm (l.flatMap g)
  | [], _ => .refl _
  | x :: l, h => by
    rw [List.flatMap_cons, List.flatMap_cons]
    exact (h x (List.mem_cons_self ..)).append (perm_flat fun y hy => h y (List.mem_cons_of_mem _ hy))
theorem names_srtP (ps : List Part) : (names (srtP ps)).Perm (names ps) := by
  unfold names srtP
  rw [List.flatMap_map]
  exact (perm_flat fun p _ => (srt_perm p.2).cons p.1).trans ((srtK_perm ps).flatMap_right _)
theorem fst_srtP (ps : List Part) : (srtP ps).map Prod.fst = (srtK ps).map Prod.fst := by
  unfold srtP
  rw [List.map_map]
  rfl
theorem names_fst {ps : List Part} : List.Sublist (ps.map Prod.fst) (names ps) := by
  induction ps with
  | nil => exact .slnil
  | cons p ps ih =>
    show List.Sublist (p.1 :: ps.map Prod.fst) (p.1 :: (p.2 ++ names ps))
    exact (ih.trans (List.sublist_append_right _ _)).cons_cons _
theorem Wf.cols {ps : List Part} (w : Wf ps) : (ps.map Prod.fst).Nodup := w.nd.sublist names_fst
theorem Wf.srtP {ps : List Part} (w : Wf ps) : Wf (srtP ps) where
  pos := by rw [srtP_len]; exact w.pos
  few := by rw [srtP_len]; exact w.few
  fil := by rw [srtP_len, (names_srtP ps).length_eq]; exact w.fil
  nm := fun s h => w.nm s ((names_srtP ps).mem_iff.mp h)
  nd := w.nd.perm (names_srtP ps).symm
theorem srtP_srtP {ps : List Part} (w : Wf ps) : Fm.srtP (Fm.srtP ps) = Fm.srtP ps := by
  have e : srtK (Fm.srtP ps) = Fm.srtP ps := by
    refine (srtK_uniq w.srtP.cols (.refl _) ?_).symm
    unfold Fm.srtP
    rw [List.pairwise_map]
    exact srtK_pw ps
  show (srtK (Fm.srtP ps)).map _ = _
  rw [e]
  unfold Fm.srtP
  rw [List.map_map]
  exact List.map_congr_left fun p _ => by
    show (p.1, srt (srt p.2)) = (p.1, srt p.2)
    rw [srt_srt]
/-! texts -/
def txtP (p : Part) : Str := p.1 ++ (if p.2.isEmpty then ("" : Str) else (":" : Str) ++ Txt.join "," p.2)
def text (ps : List Part) : Str := Txt.join " " (ps.map txtP)
def cut (z : Str) : Part := ((Txt.partition z ":").1, if (Txt.partition z ":").2.1 = ":" then Txt.split (Txt.partition z ":").2.2 "," else [])
def parse (z : Str) : List Part := (Txt.split z " ").map cut
theorem isName_low {s : Str} (h : isName s = true) : (1 ≤ s.length ∧ s.length ≤ 8) ∧ ∀ c ∈ tl s, 97 ≤ c ∧ c ≤ 122 := by
  unfold isName isWord isLow at h
  simp only [Bool.and_eq_true, decide_eq_true_eq, List.all_eq_true] at h
  exact ⟨h.1.1, fun c hc => h.1.2 c hc⟩
theorem str_len (x y : Str) : (x ++ y).length = x.length + y.length := by
  rw [len_tl, tl_append, List.length_append, ← len_tl, ← len_tl]
theorem sum_le : ∀ {l : List Nat} {c : Nat}, (∀ x ∈ l, x ≤ c) → l.sum ≤ l.length * c
  | [], _, _ => Nat.zero_le _
  | x :: l, c, h => by
    have q := sum_le (l := l) (c := c) fun y hy => h y (List.mem_cons_of_mem _ hy)
    have q1 := h x (List.mem_cons_self ..)
    rw [List.sum_cons, List.length_cons, Nat.succ_mul]
    omega
theorem joinL_len (S : List Nat) : ∀ ps : List (List Nat), (joinL S ps).length ≤ (ps.map List.length).sum + ps.length * S.length
  | [] => Nat.zero_le _
  | [p] => by simp [joinL]
  | p :: q :: r => by
    have h := joinL_len S (q :: r)
    show (p ++ (S ++ joinL S (q :: r))).length ≤ _
    rw [List.length_append, List.length_append, List.map_cons, List.sum_cons, List.length_cons (as := q :: r), Nat.succ_mul]
    omega
theorem mem_joinL {c : Nat} {S : List Nat} : ∀ {ps : List (List Nat)}, c ∈ joinL S ps → c ∈ S ∨ ∃ p ∈ ps, c ∈ p
  | [], h => by cases h
  | [p], h => .inr ⟨p, List.mem_singleton.mpr rfl, h⟩
  | p :: q :: r, h => by
    have h : c ∈ p ++ (S ++ joinL S (q :: r)) := h
    rcases List.mem_append.mp h with h | h
    · exact .inr ⟨p, List.mem_cons_self .., h⟩
    rcases List.mem_append.mp h with h | h
    · exact .inl h
    · rcases mem_joinL h with h | ⟨u, m, h⟩
      · exact .inl h
      · exact .inr ⟨u, List.mem_cons_of_mem _ m, h⟩
theorem join_len {y : Str} {ss : List Str} {n : Nat} (h : ∀ s ∈ ss, s.length ≤ n) : (Txt.join y ss).length ≤ ss.length * (n + y.length) := by
  rw [join_eq, len_tl, tl_join]
  refine Nat.le_trans (joinL_len _ _) ?_
  have q := sum_le (l := (ss.map tl).map List.length) (c := n) fun x hx => by
    obtain ⟨z, hz, rfl⟩ := List.mem_map.mp hx
    obtain ⟨u, hu, rfl⟩ := List.mem_map.mp hz
    rw [← len_tl]
    exact h u hu
  rw [List.length_map, List.length_map] at q
  rw [List.length_map, ← len_tl, Nat.mul_add]
  omega
theorem mem_names {ps : List Part} {p : Part} (h : p ∈ ps) : p.1 ∈ names ps ∧ ∀ f ∈ p.2, f ∈ names ps := by
  unfold names
  exact ⟨List.mem_flatMap.mpr ⟨p, h, List.mem_cons_self ..⟩, fun f hf => List.mem_flatMap.mpr ⟨p, h, List.mem_cons_of_mem _ hf⟩⟩
theorem Wf.p2 {ps : List Part} (w : Wf ps) {p : Part} (h : p ∈ ps) : p.2.length ≤ 5 := by
  have : List.Sublist (p.1 :: p.2) (names ps) := by
    obtain ⟨a, b, rfl⟩ := List.append_of_mem h
    unfold names
    rw [List.flatMap_append, List.flatMap_cons]
    exact (List.sublist_append_left _ _).trans (List.sublist_append_right _ _)
  have := this.length_le
  rw [List.length_cons] at this
  have := w.fil
  have := w.few
  omega
theorem filt_eq (fs : List Str) : (if fs.isEmpty then ("" : Str) else ":") ++ Txt.join "," fs = if fs.isEmpty then ("" : Str) else (":" : Str) ++ Txt.join "," fs := by
  cases fs with
  | nil => rfl
  | cons _ _ => rfl
theorem cut_txtP {p : Part} (h1 : ∀ c ∈ tl p.1, 97 ≤ c ∧ c ≤ 122) (h2 : ∀ f ∈ p.2, ∀ c ∈ tl f, 97 ≤ c ∧ c ≤ 122) : cut (txtP p) = p := by
  have n1 : 58 ∉ tl p.1 := fun z => by have := h1 _ z; omega
  unfold cut txtP
  obtain ⟨a, fs⟩ := p
  cases fs with
  | nil =>
    have e : a ++ (if ([] : List Str).isEmpty = true then ("" : Str) else (":" : Str) ++ Txt.join "," []) = a := ext_tl (by rw [tl_append]; exact List.append_nil _)
    show ((Txt.partition (a ++ _) ":").1, if (Txt.partition (a ++ _) ":").2.1 = ":" then _ else _) = (a, [])
    rw [e, partition_none (y := ":") (s := 58) (S := []) (by decide) n1]
    rfl
  | cons f r =>
    have e : a ++ (if (f :: r).isEmpty = true then ("" : Str) else (":" : Str) ++ Txt.join "," (f :: r)) = a ++ ":" ++ Txt.join "," (f :: r) := ext_tl (by
      show tl (a ++ (":" ++ _)) = _
      rw [tl_append, tl_append, tl_append, tl_append, List.append_assoc])
    show ((Txt.partition (a ++ _) ":").1, if (Txt.partition (a ++ _) ":").2.1 = ":" then Txt.split (Txt.partition (a ++ _) ":").2.2 "," else _) = (a, f :: r)
    rw [e, partition_app (y := ":") (s := 58) (S := []) (by decide) n1]
    show (a, if (":" : Str) = ":" then Txt.split (Txt.join "," (f :: r)) "," else _) = _
    rw [if_pos rfl, split_join (y := ",") (s := 44) (S := []) (by decide) (by decide +kernel) (by simp) fun p hp z => by have := h2 p hp _ z; omega]
theorem txtP_free {p : Part} (h1 : ∀ c ∈ tl p.1, 97 ≤ c ∧ c ≤ 122) (h2 : ∀ f ∈ p.2, ∀ c ∈ tl f, 97 ≤ c ∧ c ≤ 122) : 32 ∉ tl (txtP p) := by
  unfold txtP
  rw [tl_append]
  intro z
  rcases List.mem_append.mp z with z | z
  · have := h1 _ z
    omega
  · split at z
    · exact absurd z (by decide)
    · rw [tl_append] at z
      rcases List.mem_append.mp z with z | z
      · exact absurd z (by decide)
      · rw [join_eq, tl_join] at z
        rcases mem_joinL z with z | ⟨u, hu, z⟩
        · exact absurd z (by decide)
        · obtain ⟨f, hf, rfl⟩ := List.mem_map.mp hu
          have := h2 f hf _ z
          omega
theorem Wf.low {ps : List Part} (w : Wf ps) {p : Part} (h : p ∈ ps) : (∀ c ∈ tl p.1, 97 ≤ c ∧ c ≤ 122) ∧ ∀ f ∈ p.2, ∀ c ∈ tl f, 97 ≤ c ∧ c ≤ 122 :=
  ⟨(isName_low (w.nm _ (mem_names h).1)).2, fun f hf => (isName_low (w.nm _ ((mem_names h).2 f hf))).2⟩
theorem parse_text {ps : List Part} (w : Wf ps) : parse (text ps) = ps := by
  unfold parse text
  rw [split_join (y := " ") (s := 32) (S := []) (by decide) (by decide +kernel) (fun e => by
    have := w.pos
    rw [List.map_eq_nil_iff.mp e] at this
    exact absurd this (by decide)) fun z hz => by
      obtain ⟨p, hp, rfl⟩ := List.mem_map.mp hz
      exact txtP_free (w.low hp).1 (w.low hp).2]
  rw [List.map_map]
  have : ps.map (cut ∘ txtP) = ps.map id := List.map_congr_left fun p hp => cut_txtP (w.low hp).1 (w.low hp).2
  rw [this, List.map_id]
theorem txtP_len {ps : List Part} (w : Wf ps) {p : Part} (h : p ∈ ps) : (txtP p).length ≤ 60 := by
  unfold txtP
  rw [str_len]
  have a1 := (isName_low (w.nm _ (mem_names h).1)).1
  split
  · have : ("" : Str).length = 0 := rfl
    omega
  · rw [str_len]
    have a2 := join_len (y := ",") (ss := p.2) (n := 8) fun s hs => (isName_low (w.nm _ ((mem_names h).2 s hs))).1.2
    have a3 := w.p2 h
    have a4 : (":" : Str).length = 1 := by decide
    have a5 : ("," : Str).length = 1 := by decide
    rw [a5] at a2
    omega
theorem text_len {ps : List Part} (w : Wf ps) : (text ps).length ≤ 200 := by
  unfold text
  have a := join_len (y := " ") (ss := ps.map txtP) (n := 60) fun s hs => by
    obtain ⟨p, hp, rfl⟩ := List.mem_map.mp hs
    exact txtP_len w hp
  have b : (" " : Str).length = 1 := by decide
  rw [b, List.length_map] at a
  have := w.few
  omega
end Fm
set_option Elab.async false
set_option linter.all false
set_option maxRecDepth 100000
set_option maxHeartbeats 2000000
/-! the second layer: plain comprehensions -/
namespace DL
open PySem L2 Lx PyProof.Rows
section
variable {X : Xn} {Γ : List Slot} {K : PySem.W.Frag} {vs : List Nat}
/-- [te for g in wi]: nothing else is changed -/
def MapGoal (α : Type) (X : Xn) (g : TG) (te : TE) (vs : List Nat) (κ : List Ty → List Slot → Prop) (Xs : List Ty) (Γ1 : List Slot) : Prop :=
  ∃ (ps : List α) (f F : α → Ty), Xs = ps.map f ∧ NoOwn vs Γ1 ∧ ps.length < sizeLine ∧ (∀ p ∈ ps, WC g (f p) (wipeG Γ1 vs) vs fun Γ2 => WE X te Γ2 fun U Γ4 => U = F p ∧ mrg vs Γ1 Γ4 = Γ1) ∧ κ (ps.map F) Γ1
theorem WO.lcMap (α : Type) {wi : TI} {g : TG} {te : TE} {κ : MTy → List Slot → Prop} (h : WI X wi Γ fun Xs Γ1 => MapGoal α X g te vs (fun ts => κ (mL ts)) Xs Γ1) : WO X (tLc wi g tYes te vs) Γ κ :=
  WO.lc fun σ B H s xo R r => h σ B H s xo R fun J B' H' Xs Γ1 k => r J B' H' Xs Γ1 (by
    obtain ⟨ps, f, F, rfl, no, hz, ht, kk⟩ := k
    refine LcGoal.map ps f (fun _ => true) F no hz (fun p hp σ B H v s t k q => ht p hp σ B H v s t k fun σ' B' H' Γ2 h2 => q σ' B' H' Γ2 (WT.yes ⟨rfl, fun _ => h2, nofun⟩)) ?_
    rw [List.filter_eq_self.mpr (fun _ _ => rfl)]
    exact kk)
theorem WE.lcMap (α : Type) {wi : TI} {g : TG} {te : TE} {κ : Ty → List Slot → Prop} (h : WI X wi Γ fun Xs Γ1 => MapGoal α X g te vs (fun ts => κ (tyL ts)) Xs Γ1) : WE X (tLc wi g tYes te vs) Γ κ :=
  WE.ofO (WO.lcMap (κ := fun M Γ' => ∃ ts, M = mL ts ∧ κ (tyL ts) Γ') α fun σ B H s xo R r => h σ B H s xo R fun J B' H' Xs Γ1 k => r J B' H' Xs Γ1 (by
    obtain ⟨ps, f, F, e, no, hz, ht, kk⟩ := k
    exact ⟨ps, f, F, e, no, hz, ht, _, rfl, kk⟩))
/-- [te for g in wi if tt] -/
def FilGoal (α : Type) (X : Xn) (g : TG) (tt : TT) (te : TE) (vs : List Nat) (κ : List Ty → List Slot → Prop) (Xs : List Ty) (Γ1 : List Slot) : Prop :=
  ∃ (ps : List α) (f F : α → Ty) (b : α → Bool), Xs = ps.map f ∧ NoOwn vs Γ1 ∧ ps.length < sizeLine ∧ (∀ p ∈ ps, WC g (f p) (wipeG Γ1 vs) vs fun Γ2 => WT X tt Γ2 fun c Γ3 => c = b p ∧ mrg vs Γ1 Γ3 = Γ1 ∧ (c = true → WE X te Γ3 fun U Γ4 => U = F p ∧ mrg vs Γ1 Γ4 = Γ1)) ∧ κ ((ps.filter b).map F) Γ1
theorem WO.lcFil (α : Type) {wi : TI} {g : TG} {tt : TT} {te : TE} {κ : MTy → List Slot → Prop} (h : WI X wi Γ fun Xs Γ1 => FilGoal α X g tt te vs (fun ts => κ (mL ts)) Xs Γ1) : WO X (tLc wi g tt te vs) Γ κ :=
  WO.lc fun σ B H s xo R r => h σ B H s xo R fun J B' H' Xs Γ1 k => r J B' H' Xs Γ1 (by
    obtain ⟨ps, f, F, b, rfl, no, hz, ht, kk⟩ := k
    refine LcGoal.map ps f b F no hz (fun p hp σ B H v s t k q => ht p hp σ B H v s t k fun σ' B' H' Γ2 h2 => q σ' B' H' Γ2 fun σ B H s xo Q q => h2 σ B H s xo Q fun c B' H' Γ3 h3 => q c B' H' Γ3 ⟨h3.1, h3.2.2, fun _ => h3.2.1⟩) kk)
theorem WE.lcFil (α : Type) {wi : TI} {g : TG} {tt : TT} {te : TE} {κ : Ty → List Slot → Prop} (h : WI X wi Γ fun Xs Γ1 => FilGoal α X g tt te vs (fun ts => κ (tyL ts)) Xs Γ1) : WE X (tLc wi g tt te vs) Γ κ :=
  WE.ofO (WO.lcFil (κ := fun M Γ' => ∃ ts, M = mL ts ∧ κ (tyL ts) Γ') α fun σ B H s xo R r => h σ B H s xo R fun J B' H' Xs Γ1 k => r J B' H' Xs Γ1 (by
    obtain ⟨ps, f, F, b, e, no, hz, ht, kk⟩ := k
    exact ⟨ps, f, F, b, e, no, hz, ht, _, rfl, kk⟩))
theorem tyis_str (s : Str) : TyIs K (tyS s) (.type "str") := fun v H h => by
  cases h
  exact .base (.str _)
theorem tyis_int (i : Int) : TyIs K (tyI i) (.type "int") := fun v H h => by
  cases h
  exact .base (.int _)
theorem tyis_non : TyIs K tyN (.type "NoneType") := fun v H h => by
  cases h
  exact .base .non
theorem tyis_lst (ts : List Ty) : TyIs K (tyL ts) (.type "list") := fun v H h => by
  obtain ⟨a, xs, rfl, e, _⟩ := h
  exact .base (.lst e)
theorem noOwn_of {vs : List Nat} {Γ : List Slot} (h : (vs.all fun v => match Γ[v]? with | some S => S.m.isNone | none => true) = true) : NoOwn vs Γ := fun v hv S e => by
  have q := List.all_eq_true.mp h v hv
  rw [e] at q
  simpa using q
end
end DL
namespace DL
open PySem L2 Lx PyProof.Rows
theorem ktup_ty {K : PySem.W.Frag} {k : Addr} {l : List Str} (h : KTup K k l) : ∀ B, (tyT K (l.map tyS)).ok (.ref k) B := fun B =>
  ⟨k, _, rfl, h B, by rw [strs_map]; exact .ofVals _⟩
/-- a part, as a value -/
abbrev partT (K : PySem.W.Frag) (p : Part) : Ty := tyT K [tyS p.1, tyL (p.2.map tyS)]
end DL
namespace DL
open PySem L2 Lx PyProof.Rows
theorem WS.parO {X : Xn} {Γ : List Slot} {κs : En} {i i' : Nat} {ta tb : TE} (h : WE X ta Γ fun T Γ1 => WO X tb Γ1 fun M Γ2 => i' < Γ2.length ∧ κs.nx ((Γ2.set i (.is T)).set i' (.own M))) : WS X (tPar i i' (tCons ta (tCons tb tNil))) Γ κs := fun σ B H s xo D m =>
  h σ B H s xo _ fun v B1 H1 T Γ1 k1 s1 b1 t1 => k1 σ B1 H1 s1 (xo.after b1) _ fun p o B2 H2 M Γ2 k2 s2 b2 n ok => by
    have s3 := s2.put (i := i) (T.mono b2.same t1)
    have hi : i' < (Γ2.set i (.is T)).length := by rw [List.length_set]; exact k2.1
    exact ⟨v, .ref p, rfl, m.nx _ B2 _ _ k2.2 (s3.putOwn hi n ok) (((b1.trans b2).trans (go_put0 s2.bh rfl)).trans (s3.go_putOwn hi n))⟩
end DL
namespace Lx
open PySem L2
variable {X : Cx} {K : PySem.W.Frag}
theorem call_tuple_ofK (e : X.K = K) : CallR X (.type "tuple") (fun xs H Q => ∃ p ys, xs = [.ref p] ∧ ((SqL K H p ys ∧ ∀ l, H l = none → Q (.ref l) (upd H l (.tup ys))) ∨ (SqT K H p ys ∧ Q (.ref p) H))) := e ▸ call_tuple_of
theorem pe_joinK {o e : Expr} {to te : TE} {apos pos : Pos} (eK : X.K = K) (ho : PE X o to) (he : PE X e te) (hs : starEach [e] X.env = [(false, eval e X.env)] := by rfl) (hbase : attributeBase o "join" X.env (eval o X.env) = eval o X.env := by rfl) (hline : (apos.endLine == pos.line) = true := by rfl) :
    PE X (.Call (.Attribute o "join" apos) [e] [] pos) (tM1 (fun x xs H Q => ∃ a p, ∃ ys : List Str, x = .str a ∧ xs = [.ref p] ∧ (SqL K H p (ys.map V.str) ∨ SqT K H p (ys.map V.str)) ∧
      (ys.map (·.length)).sum + ys.length * a.length ≤ 16777216 ∧ Q (.str (Txt.join a ys)) H) to te) := eK ▸ pe_join ho he hs hbase hline
theorem pt_truthK {a : Expr} {ta : TE} (eK : X.K = K) (ha : PE X a ta) (he : ∀ whole, isTrue a X.env whole = (do let v ← whole; standAt a.pos; holding [v] (truthy v))) :
    PT X a (fun σ H Q => ta σ H fun x H' => ∃ k, TruV K x H' k ∧ Q k H') := eK ▸ pt_truth ha he
theorem pi_tupK {tg l : Expr} {tl : TE} (e : X.K = K) (hl : PE X l tl) : PI X tg l (iTup K tl) := e ▸ pi_tup hl
theorem pi_listK {tg l : Expr} {tl : TE} (e : X.K = K) (hl : PE X l tl) : PI X tg l (iList K tl) := e ▸ pi_list hl
theorem cr_sortedSK (e : X.K = K) : CallR X (.builtin "sorted") (rSortedS K) := e ▸ cr_sortedS
end Lx
set_option Elab.async false
set_option linter.all false
set_option maxRecDepth 100000
set_option maxHeartbeats 2000000
/-! forms as plain data: what == and in answer -/
namespace Fm
open PySem L2 Lx DL TL PyProof.Rows
abbrev dts (ss : List Str) : List PyData := ss.map PyData.str
def StrsOk (ss : List Str) : Prop := ∀ s ∈ ss, PyData.strOk s = true
theorem ok_of {s : Str} (h : ∀ c ∈ tl s, c < 0x110000) : PyData.strOk s = true := by
  unfold PyData.strOk
  rw [Array.all_eq_true']
  intro c hc
  exact decide_eq_true (h c (Array.mem_toList_iff.mpr hc))
theorem name_ok {s : Str} (h : isName s = true) : PyData.strOk s = true := ok_of fun c hc => by
  have := (isName_low h).2 c hc
  omega
theorem lay_strs : ∀ {ss : List Str}, StrsOk ss → PyData.canLayAll0 (dts ss) = true
  | [], _ => rfl
  | s :: ss, h => by
    show ((PyData.str s).canLay0 && PyData.canLayAll0 (dts ss)) = true
    rw [lay_strs fun x hx => h x (List.mem_cons_of_mem _ hx)]
    have : (PyData.str s).canLay0 = true := h s (List.mem_cons_self ..)
    rw [this]
    rfl
theorem depth_strs : ∀ ss : List Str, PyData.depthAll (dts ss) = 0
  | [] => rfl
  | s :: ss => by
    show max 0 (PyData.depthAll (dts ss)) = 0
    rw [depth_strs ss]
    rfl
theorem shaped_strs {ss : List Str} (h : StrsOk ss) : SeqAt.shaped (.list (dts ss)) = true ∧ SeqAt.shaped (.tuple (dts ss)) = true := by
  have e1 : (PyData.list (dts ss)).canLay0 = true := lay_strs h
  have e1' : (PyData.tuple (dts ss)).canLay0 = true := lay_strs h
  have e2 : (PyData.list (dts ss)).depth = 1 := by
    show PyData.depthAll (dts ss) + 1 = 1
    rw [depth_strs]
  have e2' : (PyData.tuple (dts ss)).depth = 1 := by
    show PyData.depthAll (dts ss) + 1 = 1
    rw [depth_strs]
  unfold SeqAt.shaped
  rw [e1, e2, e1', e2']
  exact ⟨rfl, rfl⟩
theorem shaped_str {s : Str} (h : PyData.strOk s = true) : SeqAt.shaped (.str s) = true := by
  unfold SeqAt.shaped
  have : (PyData.str s).canLay0 = true := h
  rw [this]
  rfl
theorem any_str {x : Str} : ∀ ss : List Str, ((dts ss).any fun z => PyData.eqv z (.str x)) = decide (x ∈ ss)
  | [] => rfl
  | s :: ss => by
    show (PyData.eqv (.str s) (.str x) || (dts ss).any fun z => PyData.eqv z (.str x)) = _
    rw [any_str ss, Bool.eq_iff_iff]
    show ((s == x) || decide (x ∈ ss)) = true ↔ _
    simp only [Bool.or_eq_true, beq_iff_eq, decide_eq_true_eq, List.mem_cons]
    exact or_congr_left ⟨Eq.symm, Eq.symm⟩
/-- what is no text is not among texts -/
theorem any_other {d : PyData} (h : ∀ s, d ≠ .str s) : ∀ ss : List Str, ((dts ss).any fun z => PyData.eqv z d) = false
  | [] => rfl
  | s :: ss => by
    show (PyData.eqv (.str s) d || (dts ss).any fun z => PyData.eqv z d) = _
    rw [any_other h ss]
    cases d <;> first | rfl | exact absurd rfl (h _)
theorem eqv_strs : ∀ xs ys : List Str, PyData.eqvAll (dts xs) (dts ys) = decide (xs = ys)
  | [], [] => rfl
  | [], _ :: _ => rfl
  | _ :: _, [] => rfl
  | x :: xs, y :: ys => by
    show ((x == y) && PyData.eqvAll (dts xs) (dts ys)) = _
    rw [eqv_strs xs ys, Bool.eq_iff_iff]
    simp
theorem eqv_tup (xs ys : List Str) : PyData.eqv (.tuple (dts xs)) (.tuple (dts ys)) = decide (xs = ys) := eqv_strs xs ys
theorem eqv_lst (xs ys : List Str) : PyData.eqv (.list (dts xs)) (.list (dts ys)) = decide (xs = ys) := eqv_strs xs ys
theorem eqv_str (x y : Str) : PyData.eqv (.str x) (.str y) = decide (x = y) := by
  show (x == y) = _
  rw [Bool.eq_iff_iff]
  simp
theorem py_strsT {K : PySem.W.Frag} (ss : List Str) : Py K (tyT K (ss.map tyS)) (.tuple (dts ss)) := py_t (pya_map (fun _ => py_s) ss)
theorem py_strsL {K : PySem.W.Frag} (ss : List Str) : Py K (tyL (ss.map tyS)) (.list (dts ss)) := py_l (pya_map (fun _ => py_s) ss)
theorem py_strsF {K : PySem.W.Frag} (ss : List Str) : Py K (tyF (ss.map tyS)) (.tuple (dts ss)) := py_f (pya_map (fun _ => py_s) ss)
/-! tables -/
def tabD (ds : List Part) : List (Key × PyData) := ds.map fun p => (Sum.inr p.1, .tuple (dts p.2))
theorem tab_keys {K : PySem.W.Frag} (ds : List Part) : (tabT K ds).map Prod.fst = (tabD ds).map Prod.fst := by
  unfold tabT tabD
  rw [List.map_map, List.map_map]
  rfl
theorem tab_vals {K : PySem.W.Frag} (ds : List Part) : PyAll K ((tabT K ds).map Prod.snd) ((tabD ds).map Prod.snd) := by
  unfold tabT tabD
  rw [List.map_map, List.map_map]
  exact pya_map (fun p => py_strsF p.2) ds
theorem Wf.oks {ds : List Part} (w : Wf ds) : StrsOk (names ds) := fun s h => name_ok (w.nm s h)
theorem tab_shaped {ds : List Part} (w : Wf ds) : ∀ p ∈ tabD ds, SeqAt.shaped p.2 = true := fun p hp => by
  obtain ⟨q, hq, rfl⟩ := List.mem_map.mp hp
  exact (shaped_strs fun s hs => w.oks s ((mem_names hq).2 s hs)).2
theorem lookK_tab {c : Str} {d : PyData} : ∀ {es : List Part}, lookK (tabD es) (.inr c) = some d → ∃ fs, (c, fs) ∈ es ∧ d = .tuple (dts fs)
  | [], h => by cases h
  | q :: es, h => by
    have h : (if (Sum.inr q.1 : Key) = .inr c then some (PyData.tuple (dts q.2)) else lookK (tabD es) (.inr c)) = some d := h
    by_cases e : (Sum.inr q.1 : Key) = .inr c
    · rw [if_pos e] at h
      cases h
      exact ⟨q.2, by rw [← Sum.inr.inj e]; exact List.mem_cons_self .., rfl⟩
    · rw [if_neg e] at h
      obtain ⟨fs, m, e2⟩ := lookK_tab h
      exact ⟨fs, List.mem_cons_of_mem _ m, e2⟩
theorem lookK_mem {p : Part} : ∀ {es : List Part}, (es.map Prod.fst).Nodup → p ∈ es → lookK (tabD es) (.inr p.1) = some (.tuple (dts p.2))
  | [], _, h => by cases h
  | q :: es, nd, h => by
    rw [List.map_cons, List.nodup_cons] at nd
    show (if (Sum.inr q.1 : Key) = .inr p.1 then some (PyData.tuple (dts q.2)) else lookK (tabD es) _) = _
    rcases List.mem_cons.mp h with rfl | h
    · rw [if_pos rfl]
    · rw [if_neg fun z => nd.1 (by rw [Sum.inr.inj z]; exact List.mem_map.mpr ⟨p, h, rfl⟩)]
      exact lookK_mem nd.2 h
theorem dts_inj {xs ys : List Str} (h : PyData.eqv (.tuple (dts xs)) (.tuple (dts ys)) = true) : xs = ys := by
  rw [eqv_tup] at h
  exact of_decide_eq_true h
theorem pigeon {α : Type} [DecidableEq α] : ∀ {l m : List α}, l.Nodup → (∀ x ∈ l, x ∈ m) → m.length ≤ l.length → ∀ y ∈ m, y ∈ l
  | [], m, _, _, hl, y, hy => by
    cases m with
    | nil => exact hy
    | cons _ _ => simp at hl
  | x :: l, m, nd, hs, hl, y, hy => by
    rw [List.nodup_cons] at nd
    have xm := hs x (List.mem_cons_self ..)
    by_cases e : y = x
    · rw [e]
      exact List.mem_cons_self ..
    · have le := List.length_erase_of_mem xm
      have pos : 0 < m.length := List.length_pos_of_mem xm
      rw [List.length_cons] at hl
      refine List.mem_cons_of_mem _ (pigeon (l := l) (m := m.erase x) nd.2 (fun z hz => ?_) (by omega) y ((List.mem_erase_of_ne e).mpr hy))
      have ne : z ≠ x := fun q => nd.1 (by rw [← q]; exact hz)
      exact (List.mem_erase_of_ne ne).mpr (hs z (List.mem_cons_of_mem _ hz))
theorem eqvD_sub {ds es : List Part} (nd : (ds.map Prod.fst).Nodup) (h : eqvD (tabD ds) (tabD es) = true) : ∀ s, s ∈ names ds ↔ s ∈ names es := by
  classical
  unfold eqvD at h
  rw [Bool.and_eq_true, List.all_eq_true] at h
  obtain ⟨hl, ha⟩ := h
  have hl : ds.length = es.length := by
    have := beq_iff_eq.mp hl
    unfold tabD at this
    rwa [List.length_map, List.length_map] at this
  have sub : ∀ p ∈ ds, p ∈ es := fun p hp => by
    have q := ha _ (List.mem_map.mpr ⟨p, hp, rfl⟩)
    cases e : lookK (tabD es) (.inr p.1) with
    | none => simp only [e] at q; cases q
    | some d =>
      simp only [e] at q
      obtain ⟨fs, m, rfl⟩ := lookK_tab e
      have := dts_inj q
      rw [← this] at m
      exact m
  have ndp : ds.Nodup := by
    have : List.Pairwise (fun a b : Part => a.1 ≠ b.1) ds := by rw [List.Nodup, List.pairwise_map] at nd; exact nd
    exact this.imp fun h e => h (by rw [e])
  have bus := pigeon ndp sub (by omega)
  intro s
  unfold names
  rw [List.mem_flatMap, List.mem_flatMap]
  exact ⟨fun ⟨p, hp, q⟩ => ⟨p, sub p hp, q⟩, fun ⟨p, hp, q⟩ => ⟨p, bus p hp, q⟩⟩
theorem eqvD_self {ds : List Part} (nd : (ds.map Prod.fst).Nodup) : eqvD (tabD ds) (tabD ds) = true := by
  unfold eqvD
  rw [Bool.and_eq_true, List.all_eq_true]
  refine ⟨beq_self_eq_true _, fun q hq => ?_⟩
  obtain ⟨p, hp, rfl⟩ := List.mem_map.mp hq
  have e : lookK (tabD ds) (.inr p.1) = some (.tuple (dts p.2)) := lookK_mem nd hp
  show (match lookK (tabD ds) (.inr p.1) with | some e => PyData.eqv (.tuple (dts p.2)) e | none => false) = true
  rw [e]
  show PyData.eqv _ _ = true
  rw [eqv_tup]
  exact decide_eq_true rfl
/-- different names: different forms -/
theorem eqvD_no {ds es : List Part} (nd : (ds.map Prod.fst).Nodup) {s : Str} (h : ¬ (s ∈ names ds ↔ s ∈ names es)) : eqvD (tabD ds) (tabD es) = false := by
  cases e : eqvD (tabD ds) (tabD es) with
  | false => rfl
  | true => exact absurd (eqvD_sub nd e s) h
end Fm
set_option Elab.async false
set_option linter.all false
set_option maxRecDepth 100000
set_option maxHeartbeats 2000000
/-! the second layer: calls by keyword that cannot raise, three names at once -/
namespace DL
open PySem L2 Lx PyProof.Rows
section
variable {X : Xn} {Γ : List Slot} {κ : Ty → List Slot → Prop} {K : PySem.W.Frag} {α : Type} {c : α → Cs} {C : Addr} {E : XK} {fs : List (Str × Ty)}
theorem WE.methW0 {m : Str} {ks : List Str} {n : Nat} {ES : L2.St → XK} {ta : TE} {t tk : TA} (h : WE X ta Γ fun T Γ1 => ∃ fs, T = tyO C fs ∧ fs.lookup m = none ∧ WA X t Γ1 fun Ts Γ2 => Ts.length + 1 = n ∧ WA X tk Γ2 fun Us Γ3 => Us.length = ks.length ∧ Meets c (T :: (Ts ++ Us)) fun o => ∃ T, o = .ret T ∧ κ T Γ3) : WE X (tMethW C m ks (byName n ks (spP c)) ES ta t tk) Γ κ := fun σ B H s xo Q q =>
  h σ B H s xo _ fun v B1 H1 T Γ1 k1 s1 b1 t1 => by
    obtain ⟨fs, rfl, hm, k1⟩ := k1
    have t1' := t1
    obtain ⟨a, dx, ws, rfl, e1, e2, e3⟩ := t1
    refine ⟨a, dx, ws, rfl, s1.bh _ _ e1, lookup_names e2 hm, k1 σ B1 H1 s1 (xo.after b1) _ fun vs B2 H2 Ts Γ2 k2 s2 b2 t2 => k2.2 σ B2 H2 s2 (xo.after (b1.trans b2)) _ fun zs B3 H3 Us Γ3 k3 s3 b3 t3 => ?_⟩
    obtain ⟨z1, z2⟩ := unzip_zip (ks := ks) (zs := zs) (by rw [t3.length, k3.1])
    refine ⟨by rw [List.length_cons, t2.length]; exact k2.1, z1, ?_⟩
    rw [z2]
    exact pure_P s3.bh (vs := .ref a :: (vs ++ zs)) (Ts := tyO C fs :: (Ts ++ Us)) ⟨Ty.mono _ (b2.same.trans b3.same) t1', (t2.mono b3.same).append t3⟩ k3.2 fun v B' H' T k e ok => q v B' H' T Γ3 k (s3.step e) (((b1.trans b2).trans b3).trans e.go) ok
theorem WE.cmethW0 {ks : List Str} {ta : TE} {tk : TA} (h : WE X ta Γ fun T Γ1 => T = tyV (.ref C) ∧ WA X tk Γ1 fun Us Γ2 => Us.length = ks.length ∧ Meets c (T :: Us) fun o => ∃ T, o = .ret T ∧ κ T Γ2) : WE X (tCMethW C ks (byName 1 ks (spP c)) E ta tk) Γ κ := fun σ B H s xo Q q =>
  h σ B H s xo _ fun v B1 H1 T Γ1 k1 s1 b1 t1 => by
    obtain ⟨rfl, k1⟩ := k1
    refine ⟨t1, k1 σ B1 H1 s1 (xo.after b1) _ fun zs B2 H2 Us Γ2 k2 s2 b2 t2 => ?_⟩
    obtain ⟨z1, z2⟩ := unzip_zip (ks := ks) (zs := zs) (by rw [t2.length, k2.1])
    refine ⟨rfl, z1, ?_⟩
    rw [z2]
    exact pure_P s2.bh (vs := .ref C :: zs) (Ts := tyV (.ref C) :: Us) ⟨rfl, t2⟩ k2.2 fun v B' H' T k e ok => q v B' H' T Γ2 k (s2.step e) ((b1.trans b2).trans e.go) ok
theorem WE.cmeth0 {ta : TE} {t : TA} (h : WE X ta Γ fun T Γ1 => T = tyV (.ref C) ∧ WA X t Γ1 fun Ts Γ2 => Meets c (T :: Ts) fun o => ∃ T, o = .ret T ∧ κ T Γ2) : WE X (ClX.tCMeth C (spP c) E ta t) Γ κ := fun σ B H s xo Q q =>
  h σ B H s xo _ fun v B1 H1 T Γ1 k1 s1 b1 t1 => by
    obtain ⟨rfl, k1⟩ := k1
    cases t1
    refine ⟨rfl, k1 σ B1 H1 s1 (xo.after b1) _ fun vs B2 H2 Ts Γ2 k2 s2 b2 t2 => ?_⟩
    exact pure_P s2.bh (vs := .ref C :: vs) (Ts := tyV (.ref C) :: Ts) ⟨rfl, t2⟩ k2 fun v B' H' T k e ok => q v B' H' T Γ2 k (s2.step e) ((b1.trans b2).trans e.go) ok
theorem WS.par3 {κs : En} {i j l : Nat} {t : TA} (h : WA X t Γ fun Ts Γ1 => ∃ T U W, Ts = [T, U, W] ∧ κs.nx (((Γ1.set i (.is T)).set j (.is U)).set l (.is W))) : WS X (tPar3 i j l t) Γ κs := fun σ B H s xo D m =>
  h σ B H s xo _ fun vs B1 H1 Ts Γ1 k1 s1 b1 t1 => by
    obtain ⟨T, U, W, rfl, k⟩ := k1
    match vs, t1 with
    | [u, v, w], t1 => exact ⟨u, v, w, rfl, m.nx _ B1 H1 _ k (((s1.put t1.1).put t1.2.1).put t1.2.2.1) (((b1.trans (go_put0 s1.bh rfl)).trans (go_put0 s1.bh rfl)).trans (go_put0 s1.bh rfl))⟩
    | [], t1 => exact t1.elim
    | [_], t1 => exact t1.2.elim
    | [_, _], t1 => exact t1.2.2.elim
    | _ :: _ :: _ :: _ :: _, t1 => exact t1.2.2.2.elim
end
end DL
namespace Lx
open PySem L2
/-- a try, under a name of its own -/
def tTryN (K : PySem.W.Frag) (out : WX) (l : List Clause) (tb : WX → TS) : TS := fun D σ H => tb (wNamed K out D l) D σ H
section
variable {X : Cx} {body : List Stmt} {c0 : ExceptHandler} {cs : List ExceptHandler} {l : List Clause} {pos : Pos} {tb : WX → TS} {out : WX}
theorem ps_tryN (hs : X.stack = X.env :: X.outer) (hf : X.env.frame = some X.env.locals) (nd : X.N.Nodup) (tk : Takes X out)
    (hb : ∀ (W : WX) (pn : List (Addr × Obj)) (xe : Value → Shared → Prop), Takes (X.tr pn xe) W → PassesOwn (model X.prog X.w) X.A X.env xe → PSs (X.tr pn xe) body (tb W))
    (cl : Clauses X (c0 :: cs) l) : PS X (.Try body (c0 :: cs) [] [] pos) (tTryN X.K out l tb) := ps_try_named hs hf nd tk hb cl
end
end Lx
namespace DL
open PySem L2 Lx PyProof.Rows
theorem WS.tryN {X : Xn} {Γ : List Slot} {K : PySem.W.Frag} {κs : En} {tb : WX → TS} {l : List Clause} {out : WX} (hW : ∀ σ, X.E σ = fun cls d H => out cls d σ H)
    (h : ∀ D : Ends, WS ⟨fun σ cls d H => wNamed K out D l cls d σ H, ClOk K X κs l⟩ (tb (wNamed K out D l)) Γ κs) : WS X (tTryN K out l tb) Γ κs := WS.try hW h
end DL
set_option Elab.async false
set_option linter.all false
set_option maxRecDepth 100000
set_option maxHeartbeats 2000000
/-! forms unlike a given one; slices of lists; a cut in a row of statements -/
namespace DL
open PySem L2 Lx PyProof.Rows
theorem WS.imp {X : Xn} {Γ : List Slot} {t : TS} {κs κs' : En} (h : WS X t Γ κs) (nx : ∀ Γ', κs.nx Γ' → κs'.nx Γ') (rt : ∀ T Γ', κs.rt T Γ' → κs'.rt T Γ') (bk : ∀ Γ', κs.bk Γ' → κs'.bk Γ') (ct : ∀ Γ', κs.ct Γ' → κs'.ct Γ') : WS X t Γ κs' := fun σ B H s xo D m =>
  h σ B H s xo D ⟨fun σ' B' H' Γ' k => m.nx σ' B' H' Γ' (nx _ k), fun σ' v B' H' T Γ' k => m.rt σ' v B' H' T Γ' (rt _ _ k), fun σ' B' H' Γ' k => m.bk σ' B' H' Γ' (bk _ k), fun σ' B' H' Γ' k => m.ct σ' B' H' Γ' (ct _ k)⟩
/-- t; u with an assertion between -/
theorem WS.cut {X : Xn} {Γ : List Slot} {t u : TS} {κs : En} (I : List Slot → Prop) (h : WS X t Γ { κs with nx := I }) (k : ∀ Γ', I Γ' → WS X u Γ' κs) : WS X (tSeq t u) Γ κs :=
  WS.seq (h.imp k (fun _ _ z => z) (fun _ z => z) (fun _ z => z))
theorem cut_to {ts : List Ty} {i : Nat} (h : i ≤ ts.length) : cutT ts none (some (i : Int)) = ts.take i := by
  have e1 : HT.sIx ts.length 0 none = 0 := rfl
  have e2 : HT.sIx ts.length ts.length (some (i : Int)) = i := by
    unfold HT.sIx
    simp only
    split <;> omega
  unfold cutT
  rw [e1, e2, List.drop_zero, Nat.sub_zero]
theorem cut_from {ts : List Ty} {i : Nat} (h : i ≤ ts.length) : cutT ts (some (i : Int)) none = ts.drop i := by
  have e1 : HT.sIx ts.length 0 (some (i : Int)) = i := by
    unfold HT.sIx
    simp only
    split <;> omega
  have e2 : HT.sIx ts.length ts.length none = ts.length := rfl
  unfold cutT
  rw [e1, e2, List.take_of_length_le (by rw [List.length_drop]; exact Nat.le_refl _)]
end DL
namespace Fm
open PySem L2 Lx DL TL PyProof.Rows
theorem names_app (a b : List Part) : names (a ++ b) = names a ++ names b := List.flatMap_append
theorem names_cons (p : Part) (b : List Part) : names (p :: b) = p.1 :: (p.2 ++ names b) := rfl
def Good (ps qs : List Part) : Prop := Wf qs ∧ ∃ s, ¬ (s ∈ names ps ↔ s ∈ names qs)
theorem nd3 {A M M' C : List Str} (h : (A ++ (M ++ C)).Nodup) (hm : M'.Nodup) (hd : ∀ s ∈ M', s ∉ A ∧ s ∉ C) : (A ++ (M' ++ C)).Nodup := by
  rw [List.nodup_append] at h ⊢
  obtain ⟨hA, hMC, hx⟩ := h
  rw [List.nodup_append] at hMC
  refine ⟨hA, List.nodup_append.mpr ⟨hm, hMC.2.1, fun a ha b hb e => (hd a ha).2 (by rw [e]; exact hb)⟩, fun a ha b hb e => ?_⟩
  rcases List.mem_append.mp hb with hb | hb
  · exact (hd b hb).1 (by rw [← e]; exact ha)
  · exact hx a ha b (List.mem_append_right _ hb) e
section
variable {pre post : List Part} {p : Part}
theorem names_split : names (pre ++ p :: post) = names pre ++ ((p.1 :: p.2) ++ names post) := by rw [names_app, names_cons]; rfl
/-- p replaced by mid -/
theorem wf_mid {mid : List Part} (w : Wf (pre ++ p :: post)) (l1 : 1 ≤ (pre ++ mid ++ post).length) (l3 : (pre ++ mid ++ post).length ≤ 3) (fil : (names pre).length + (names mid).length + (names post).length ≤ (pre ++ mid ++ post).length + 3)
    (h1 : (names mid).Nodup) (h2 : ∀ s ∈ names mid, s ∉ names pre ∧ s ∉ names post) (h3 : ∀ s ∈ names mid, isName s = true) : Wf (pre ++ mid ++ post) := by
  have e : names (pre ++ mid ++ post) = names pre ++ (names mid ++ names post) := by rw [names_app, names_app, List.append_assoc]
  have nd := w.nd
  have nm := w.nm
  rw [names_split] at nd nm
  refine ⟨l1, l3, by rw [e, List.length_append, List.length_append]; omega, fun s hs => ?_, by rw [e]; exact nd3 nd h1 h2⟩
  rw [e] at hs
  rcases List.mem_append.mp hs with hs | hs
  · exact nm s (List.mem_append_left _ hs)
  rcases List.mem_append.mp hs with hs | hs
  · exact h3 s hs
  · exact nm s (List.mem_append_right _ (List.mem_append_right _ hs))
theorem own_apart (w : Wf (pre ++ p :: post)) : ∀ s ∈ p.1 :: p.2, s ∉ names pre ∧ s ∉ names post := fun s hs => by
  have nd := w.nd
  rw [names_split, List.nodup_append] at nd
  obtain ⟨_, n2, n3⟩ := nd
  rw [List.nodup_append] at n2
  exact ⟨fun z => n3 s z s (List.mem_append_left _ hs) rfl, fun z => n2.2.2 s hs s z rfl⟩
theorem own_nd (w : Wf (pre ++ p :: post)) : (p.1 :: p.2).Nodup := by
  have nd := w.nd
  rw [names_split, List.nodup_append] at nd
  exact (List.nodup_append.mp nd.2.1).1
theorem own_nm (w : Wf (pre ++ p :: post)) : ∀ s ∈ p.1 :: p.2, isName s = true := fun s hs => w.nm s (by rw [names_split]; exact List.mem_append_right _ (List.mem_append_left _ hs))
theorem out_apart {z : Str} (h : z ∉ names (pre ++ p :: post)) : (z ∉ names pre ∧ z ∉ names post) ∧ z ≠ p.1 ∧ z ∉ p.2 := by
  rw [names_split] at h
  simp only [List.mem_append, List.mem_cons, not_or] at h
  exact ⟨⟨h.1, h.2.2⟩, h.2.1.1, h.2.1.2⟩
theorem len_names (w : Wf (pre ++ p :: post)) : (names pre).length + (1 + p.2.length) + (names post).length ≤ (pre ++ p :: post).length + 3 ∧ (names (pre ++ p :: post)).length = (names pre).length + (1 + p.2.length) + (names post).length := by
  have := w.fil
  have e : (names (pre ++ p :: post)).length = (names pre).length + (1 + p.2.length) + (names post).length := by
    rw [names_split, List.length_append, List.length_append, List.length_cons]
    omega
  exact ⟨by omega, e⟩
theorem len_parts (mid : List Part) : (pre ++ mid ++ post).length = pre.length + mid.length + post.length ∧ (pre ++ p :: post).length = pre.length + 1 + post.length := by
  rw [List.length_append, List.length_append, List.length_append, List.length_cons]
  exact ⟨rfl, by omega⟩
/-- something new is in -/
theorem new_in {qs : List Part} {z : Str} (h : z ∉ names (pre ++ p :: post)) (m : z ∈ names qs) : ∃ s, ¬ (s ∈ names (pre ++ p :: post) ↔ s ∈ names qs) := ⟨z, fun e => h (e.mpr m)⟩
theorem mem_mid {mid : List Part} {z : Str} (h : z ∈ names mid) : z ∈ names (pre ++ mid ++ post) := by
  rw [names_app, names_app]
  exact List.mem_append_left _ (List.mem_append_right _ h)
theorem un_col {z : Str} (w : Wf (pre ++ p :: post)) (hz : isName z = true) (nz : z ∉ names (pre ++ p :: post)) : Good (pre ++ p :: post) (pre ++ [(z, p.2)] ++ post) := by
  obtain ⟨l1, l2⟩ := len_parts (pre := pre) (post := post) (p := p) [(z, p.2)]
  have f := len_names w
  have g := w.few
  have o := out_apart nz
  have en : names [(z, p.2)] = z :: p.2 := by show z :: (p.2 ++ []) = _; rw [List.append_nil]
  rw [List.length_singleton] at l1
  refine ⟨wf_mid w (by omega) (by omega) (by rw [en, List.length_cons]; omega) ?_ (fun s hs => ?_) (fun s hs => ?_), new_in nz (mem_mid (by rw [en]; exact List.mem_cons_self ..))⟩
  · rw [en]
    exact List.nodup_cons.mpr ⟨o.2.2, (List.nodup_cons.mp (own_nd w)).2⟩
  · rw [en] at hs
    rcases List.mem_cons.mp hs with rfl | hs
    · exact o.1
    · exact own_apart w s (List.mem_cons_of_mem _ hs)
  · rw [en] at hs
    rcases List.mem_cons.mp hs with rfl | hs
    · exact hz
    · exact own_nm w s (List.mem_cons_of_mem _ hs)
/-- other filters: fs -/
theorem un_fil {fs : List Str} (w : Wf (pre ++ p :: post)) (hl : (names pre).length + (1 + fs.length) + (names post).length ≤ (pre ++ p :: post).length + 3) (hn : fs.Nodup) (h : ∀ s ∈ fs, isName s = true ∧ (s ∈ p.2 ∨ s ∉ names (pre ++ p :: post))) (wit : ∃ s, ¬ (s ∈ names (pre ++ p :: post) ↔ s ∈ names (pre ++ [(p.1, fs)] ++ post))) : Good (pre ++ p :: post) (pre ++ [(p.1, fs)] ++ post) := by
  obtain ⟨l1, l2⟩ := len_parts (pre := pre) (post := post) (p := p) [(p.1, fs)]
  have g := w.few
  have en : names [(p.1, fs)] = p.1 :: fs := by show p.1 :: (fs ++ []) = _; rw [List.append_nil]
  rw [List.length_singleton] at l1
  have nc := List.nodup_cons.mp (own_nd w)
  refine ⟨wf_mid w (by omega) (by omega) (by rw [en, List.length_cons]; omega) ?_ (fun s hs => ?_) (fun s hs => ?_), wit⟩
  · rw [en]
    refine List.nodup_cons.mpr ⟨fun m => ?_, hn⟩
    rcases (h _ m).2 with q | q
    · exact nc.1 q
    · exact (out_apart q).2.1 rfl
  · rw [en] at hs
    rcases List.mem_cons.mp hs with rfl | hs
    · exact own_apart w _ (List.mem_cons_self ..)
    · rcases (h _ hs).2 with q | q
      · exact own_apart w s (List.mem_cons_of_mem _ q)
      · exact (out_apart q).1
  · rw [en] at hs
    rcases List.mem_cons.mp hs with rfl | hs
    · exact own_nm w _ (List.mem_cons_self ..)
    · exact (h s hs).1
theorem un_cut (w : Wf (pre ++ p :: post)) (h : 1 < (pre ++ p :: post).length) : Good (pre ++ p :: post) (pre ++ post) := by
  have f := len_names w
  have g := w.few
  have l2 := (len_parts (pre := pre) (post := post) (p := p) []).2
  have e : pre ++ [] ++ post = pre ++ post := by rw [List.append_nil]
  have w2 : Wf (pre ++ [] ++ post) := wf_mid w (by rw [e, List.length_append]; omega) (by rw [e, List.length_append]; omega) (by rw [e, List.length_append]; show (names pre).length + 0 + _ ≤ _; omega) .nil nofun nofun
  rw [e] at w2
  refine ⟨w2, p.1, fun q => ?_⟩
  have := q.mp (by rw [names_split]; exact List.mem_append_right _ (List.mem_append_left _ (List.mem_cons_self ..)))
  rw [names_app] at this
  have o := own_apart w p.1 (List.mem_cons_self ..)
  rcases List.mem_append.mp this with m | m
  · exact o.1 m
  · exact o.2 m
/-- a part more -/
theorem wf_more {qs : List Part} {z : Str} {fs : List Str} (w : Wf qs) (hl : qs.length < 3) (hz : isName z = true) (nz : z ∉ names qs) (hf : (names qs).length + fs.length ≤ qs.length + 3) (hn : fs.Nodup) (h : ∀ s ∈ fs, isName s = true ∧ s ∉ names qs ∧ s ≠ z) : Wf (qs ++ [(z, fs)]) := by
  have en : names (qs ++ [(z, fs)]) = names qs ++ (z :: fs) := by rw [names_app]; show _ ++ (z :: (fs ++ [])) = _; rw [List.append_nil]
  refine ⟨by rw [List.length_append]; simp, by rw [List.length_append, List.length_singleton]; omega, by rw [en, List.length_append, List.length_append, List.length_singleton, List.length_cons]; omega, fun s hs => ?_, ?_⟩
  · rw [en] at hs
    rcases List.mem_append.mp hs with hs | hs
    · exact w.nm s hs
    rcases List.mem_cons.mp hs with rfl | hs
    · exact hz
    · exact (h s hs).1
  · rw [en]
    refine List.nodup_append.mpr ⟨w.nd, List.nodup_cons.mpr ⟨fun m => (h _ m).2.2 rfl, hn⟩, fun a ha b hb e => ?_⟩
    rcases List.mem_cons.mp hb with rfl | hb
    · exact nz (by rw [← e]; exact ha)
    · exact (h b hb).2.1 (by rw [← e]; exact ha)
end
def SP14 : List Str := ["tt", "uu", "vv", "ww", "xx", "yy", "zzz", "rank", "nn", "oo", "pp", "qq", "rr", "ss"]
theorem sp14_ok : ∀ s ∈ SP14, isName s = true := by decide +kernel
theorem sub_len {m ns : List Str} : m.Nodup → (∀ x ∈ m, x ∈ ns) → m.length ≤ ns.length := by
  induction m generalizing ns with
  | nil => exact fun _ _ => Nat.zero_le _
  | cons x m ih =>
    intro nd' sub
    rw [List.nodup_cons] at nd'
    have xm := sub x (List.mem_cons_self ..)
    by_cases q : m.length < ns.length
    · rw [List.length_cons]; omega
    · exfalso
      exact nd'.1 (pigeon nd'.2 (fun y hy => sub y (List.mem_cons_of_mem _ hy)) (by omega) x xm)
theorem filter_two {α : Type} (f : α → Bool) : ∀ l : List α, (l.filter f).length + (l.filter fun x => !f x).length = l.length
  | [] => rfl
  | x :: l => by
    have := filter_two f l
    cases h : f x <;> simp [h] <;> omega
theorem sp14_five {ns : List Str} (h : ns.length ≤ 6) : ∃ z0 z1 z2 z3 z4 r, (SP14.filter fun s => !decide (s ∈ ns)) = z0 :: z1 :: z2 :: z3 :: z4 :: r ∧ (∀ z ∈ z0 :: z1 :: z2 :: z3 :: z4 :: r, isName z = true ∧ z ∉ ns) := by
  have nd : SP14.Nodup := by decide +kernel
  have a := filter_two (fun s => decide (s ∈ ns)) SP14
  have b : (SP14.filter fun s => decide (s ∈ ns)).length ≤ ns.length := sub_len (nd.sublist List.filter_sublist) fun x hx => by
    have := (List.mem_filter.mp hx).2
    exact of_decide_eq_true this
  have c : SP14.length = 14 := rfl
  have all : ∀ z ∈ SP14.filter fun s => !decide (s ∈ ns), isName z = true ∧ z ∉ ns := fun z hz => by
    obtain ⟨h1, h2⟩ := List.mem_filter.mp hz
    exact ⟨sp14_ok z h1, by simpa using h2⟩
  match e : SP14.filter fun s => !decide (s ∈ ns), all with
  | z0 :: z1 :: z2 :: z3 :: z4 :: r, all => exact ⟨z0, z1, z2, z3, z4, r, rfl, all⟩
  | [], _ => rw [e, List.length_nil, c] at a; omega
  | [_], _ => rw [e] at a; simp at a; omega
  | [_, _], _ => rw [e] at a; simp at a; omega
  | [_, _, _], _ => rw [e] at a; simp at a; omega
  | [_, _, _, _], _ => rw [e] at a; simp at a; omega
end Fm
set_option Elab.async false
set_option linter.all false
set_option maxRecDepth 100000
set_option maxHeartbeats 2000000
/-! operators by own defs, K told (within comprehensions) -/
namespace Lx
open PySem L2
section
variable {X : Cx} {K : PySem.W.Frag} {CX : CXT} {k : Nat} {f C : Addr} {sp : Sp} {E : XK}
theorem op_inOK (e : X.K = K) (S : Spec1 K C "__contains__" f) (F : FnR X.prog X.w K X.mg X.base CX k f sp) (hr : Room k X.A) (hx : Passes CX X E) : OpR X (compareOp .In) (rInO K false C sp E) := by
  subst e
  exact op_inO S F hr hx
theorem op_notInOK (e : X.K = K) (S : Spec1 K C "__contains__" f) (F : FnR X.prog X.w K X.mg X.base CX k f sp) (hr : Room k X.A) (hx : Passes CX X E) : OpR X (compareOp .NotIn) (rInO K true C sp E) := by
  subst e
  exact op_notInO S F hr hx
theorem op_eqOK (e : X.K = K) (S : Spec1 K C "__eq__" f) (F : FnR X.prog X.w K X.mg X.base CX k f sp) (hr : Room k X.A) (hx : Passes CX X E) : OpR X (compareOp .Eq) (rEqO K false C sp E) := by
  subst e
  exact op_eqO S F hr hx
theorem op_neOK (e : X.K = K) (S : Spec1 K C "__eq__" f) (N : NeC K C) (F : FnR X.prog X.w K X.mg X.base CX k f sp) (hr : Room (k + 1) X.A) (hx : Passes CX X E) : OpR X (compareOp .NotEq) (rEqO K true C sp E) := by
  subst e
  exact op_neO S N F hr hx
end
end Lx
set_option Elab.async false
set_option linter.all false
set_option maxRecDepth 100000
set_option maxHeartbeats 2000000
/-! data: values of plain data, to be compared -/
namespace DL
open PySem L2 Lx PyProof.Rows
section
variable {K : PySem.W.Frag}
structure Dat (K : PySem.W.Frag) (n : Nat) (T : Ty) (d : PyData) : Prop where
  py : Py K T d
  lay : d.canLay0 = true
  dep : d.depth ≤ n
structure DatAll (K : PySem.W.Frag) (n : Nat) (ts : List Ty) (ds : List PyData) : Prop where
  py : PyAll K ts ds
  lay : PyData.canLayAll0 ds = true
  dep : PyData.depthAll ds ≤ n
variable {n m : Nat} {T U : Ty} {d e : PyData} {ts us : List Ty} {ds es : List PyData}
theorem Dat.le (h : Dat K n T d) (q : n ≤ m) : Dat K m T d := ⟨h.py, h.lay, Nat.le_trans h.dep q⟩
theorem DatAll.le (h : DatAll K n ts ds) (q : n ≤ m) : DatAll K m ts ds := ⟨h.py, h.lay, Nat.le_trans h.dep q⟩
theorem dat_s {s : Str} (h : PyData.strOk s = true) : Dat K n (tyS s) (.str s) := ⟨py_s, h, Nat.zero_le _⟩
theorem dat_i {i : Int} : Dat K n (tyI i) (.int i) := ⟨py_i, rfl, Nat.zero_le _⟩
theorem dat_b {b : Bool} : Dat K n (tyB b) (.bool b) := ⟨py_b, rfl, Nat.zero_le _⟩
theorem dat_n : Dat K n tyN .none := ⟨py_n, rfl, Nat.zero_le _⟩
theorem dat_t (h : DatAll K n ts ds) : Dat K (n + 1) (tyT K ts) (.tuple ds) := ⟨py_t h.py, h.lay, Nat.succ_le_succ h.dep⟩
theorem dat_l (h : DatAll K n ts ds) : Dat K (n + 1) (tyL ts) (.list ds) := ⟨py_l h.py, h.lay, Nat.succ_le_succ h.dep⟩
theorem dats_nil : DatAll K n [] [] := ⟨pya_nil, rfl, Nat.zero_le _⟩
theorem dats_cons (h : Dat K n T d) (r : DatAll K n ts ds) : DatAll K n (T :: ts) (d :: ds) := ⟨pya_cons h.py r.py, by
  show (d.canLay0 && PyData.canLayAll0 ds) = true
  rw [h.lay, r.lay]; rfl, Nat.max_le.mpr ⟨h.dep, r.dep⟩⟩
theorem dats_map {α : Type} {f : α → Ty} {g : α → PyData} : ∀ {l : List α}, (∀ a ∈ l, Dat K n (f a) (g a)) → DatAll K n (l.map f) (l.map g)
  | [], _ => dats_nil
  | a :: l, h => dats_cons (h a (List.mem_cons_self ..)) (dats_map fun b hb => h b (List.mem_cons_of_mem _ hb))
theorem dats_app {ts' : List Ty} {ds' : List PyData} : ∀ {ts : List Ty} {ds : List PyData}, ts.length = ds.length → DatAll K n ts ds → DatAll K n ts' ds' → DatAll K n (ts ++ ts') (ds ++ ds') := fun {ts ds} l h h' => by
  refine ⟨fun vs H t => ?_, ?_, ?_⟩
  · have tl := t.length
    rw [List.length_append] at tl
    have t1 := t.take ts.length
    have t2 := t.drop ts.length
    rw [List.take_left' rfl] at t1
    rw [List.drop_left' rfl] at t2
    have a := h.py _ H t1
    have b := h'.py _ H t2
    have app : ∀ {vs ws : List V} {ds es : List PyData}, DpAll K H vs ds → DpAll K H ws es → DpAll K H (vs ++ ws) (ds ++ es) := fun {vs ws ds es} x y => by
      induction ds generalizing vs with
      | nil => cases x; exact y
      | cons d ds ih =>
        cases x with
        | cons p q => exact .cons p (ih q)
    have := app a b
    rwa [List.take_append_drop] at this
  · have q : ∀ ds : List PyData, PyData.canLayAll0 (ds ++ ds') = (PyData.canLayAll0 ds && PyData.canLayAll0 ds') := fun ds => by
      induction ds with
      | nil => rfl
      | cons d ds ih =>
        show (d.canLay0 && PyData.canLayAll0 (ds ++ ds')) = ((d.canLay0 && PyData.canLayAll0 ds) && PyData.canLayAll0 ds')
        rw [ih, Bool.and_assoc]
    rw [q, h.lay, h'.lay]
    rfl
  · have q : ∀ ds : List PyData, PyData.depthAll (ds ++ ds') = max (PyData.depthAll ds) (PyData.depthAll ds') := fun ds => by
      induction ds with
      | nil => show _ = max 0 _; rw [Nat.zero_max]; rfl
      | cons d ds ih =>
        show max d.depth (PyData.depthAll (ds ++ ds')) = max (max d.depth (PyData.depthAll ds)) (PyData.depthAll ds')
        rw [ih, Nat.max_assoc]
    rw [q]
    exact Nat.max_le.mpr ⟨h.dep, h'.dep⟩
theorem Dat.shaped (h : Dat K n T d) (q : n ≤ 64 := by decide) : SeqAt.shaped d = true := by
  unfold SeqAt.shaped
  rw [h.lay, Bool.true_and]
  exact decide_eq_true (Nat.le_trans h.dep q)
theorem Dat.self (h : Dat K n T d) : PyData.eqv d d = true := SeqAt.eqv_refl d h.lay
theorem r2_eqA {κ : Ty → Prop} (h1 : Dat K n T d) (h2 : Dat K n U e) (k : κ (tyB (PyData.eqv d e))) (q : n ≤ 64 := by decide) : R2w (rEqD K) T U κ := r2_eqD h1.py h2.py (h1.shaped q) (h2.shaped q) k
theorem r2_neA {κ : Ty → Prop} (h1 : Dat K n T d) (h2 : Dat K n U e) (k : κ (tyB (!PyData.eqv d e))) (q : n ≤ 64 := by decide) : R2w (rNeD K) T U κ := r2_neD h1.py h2.py (h1.shaped q) (h2.shaped q) k
theorem r2_neSelf {κ : Ty → Prop} (h1 : Dat K n T d) (h2 : Dat K n U d) (k : κ (tyB false)) (q : n ≤ 64 := by decide) : R2w (rNeD K) T U κ := r2_neA h1 h2 (by rw [h1.self]; exact k) q
theorem r2_eqSelf {κ : Ty → Prop} (h1 : Dat K n T d) (h2 : Dat K n U d) (k : κ (tyB true)) (q : n ≤ 64 := by decide) : R2w (rEqD K) T U κ := r2_eqA h1 h2 (by rw [h1.self]; exact k) q
theorem tyis_tup (ts : List Ty) : TyIs K (tyT K ts) (.type "tuple") := fun v H h => by
  obtain ⟨a, xs, rfl, e, _⟩ := h
  rcases e with (e | ⟨o, e⟩) | ⟨o, its, n, e, c, _⟩
  · exact .base (.tup e)
  · exact .fTuple e
  · exact .kTuple e c
theorem tyis_bool (b : Bool) : TyIs K (tyB b) (.type "bool") := fun v H h => by
  cases h
  exact .base (.bl _)
theorem nonis_s {s : Str} : NonIs (tyS s) false := fun v H h => by cases h; rfl
theorem nonis_i {i : Int} : NonIs (tyI i) false := fun v H h => by cases h; rfl
theorem nonis_b {b : Bool} : NonIs (tyB b) false := fun v H h => by cases h; rfl
theorem nonis_n : NonIs tyN true := fun v H h => by cases h; rfl
theorem nonis_l {ts : List Ty} : NonIs (tyL ts) false := fun v H h => by obtain ⟨a, xs, rfl, _⟩ := h; rfl
theorem nonis_t {ts : List Ty} : NonIs (tyT K ts) false := fun v H h => by obtain ⟨a, xs, rfl, _⟩ := h; rfl
end
end DL
set_option Elab.async false
set_option linter.all false
set_option maxRecDepth 100000
set_option maxHeartbeats 2000000
/-! the walk over a text of a form: words and signs, in plain Lean -/
namespace Fm
open PySem L2 Lx DL TL PyProof.Rows
def isSep (c : Nat) : Bool := decide (c ∈ [32, 58, 44])
abbrev Sg := Nat × List Nat
def segs : Sg → List Nat → List Sg
  | cur, [] => [cur]
  | cur, c :: r => if isSep c = true then cur :: segs (c, []) r else segs (cur.1, cur.2 ++ [c]) r
def unseg (l : List Sg) : List Nat := l.flatMap fun p => p.1 :: p.2
def pv : Nat → List Nat → Bool
  | _, [] => true
  | a, s :: r => if (s = 44 ∧ ¬ (a = 58 ∨ a = 44)) ∨ (s = 58 ∧ a ≠ 32) then false else pv s r
def fseg : List (List Nat) → List Sg
  | [] => []
  | f :: r => (58, f) :: r.map fun g => (44, g)
abbrev NPart := List Nat × List (List Nat)
def flat (ps : List NPart) : List Sg := ps.flatMap fun p => (32, p.1) :: fseg p.2
def nps (ps : List Part) : List NPart := ps.map fun p => (tl p.1, p.2.map tl)
def cont : List Nat → List Sg
  | [] => []
  | c :: q => segs (c, []) q
theorem segs_word {w : List Nat} : ∀ {s : Nat} {v r : List Nat}, (∀ c ∈ w, isSep c = false) → segs (s, v) (w ++ r) = segs (s, v ++ w) r := by
  induction w with
  | nil => intro s v r _; rw [List.append_nil]; rfl
  | cons c w ih =>
    intro s v r h
    show (if isSep c = true then _ else segs (s, v ++ [c]) (w ++ r)) = _
    rw [h c (List.mem_cons_self ..), if_neg (by decide), ih fun x m => h x (List.mem_cons_of_mem _ m), List.append_assoc]
    rfl
theorem segs_sep {c s : Nat} {v r : List Nat} (h : isSep c = true) : segs (s, v) (c :: r) = (s, v) :: segs (c, []) r := by
  show (if isSep c = true then _ else _) = _
  rw [if_pos h]
theorem segs_wd {w : List Nat} {s : Nat} (h : ∀ c ∈ w, isSep c = false) (r : List Nat) (hr : r = [] ∨ ∃ c r', r = c :: r' ∧ isSep c = true) : segs (s, []) (w ++ r) = (s, w) :: cont r := by
  rw [segs_word h, List.nil_append]
  rcases hr with rfl | ⟨c, r', rfl, hc⟩
  · rfl
  · exact segs_sep hc
theorem unseg_segs : ∀ (z : List Nat) (cur : Sg), unseg (segs cur z) = cur.1 :: (cur.2 ++ z)
  | [], cur => by
    show cur.1 :: cur.2 ++ [] = _
    rw [List.append_nil, List.append_nil]
  | c :: r, cur => by
    show unseg (if isSep c = true then cur :: segs (c, []) r else segs (cur.1, cur.2 ++ [c]) r) = _
    split
    · show cur.1 :: cur.2 ++ unseg (segs (c, []) r) = _
      rw [unseg_segs]
      rfl
    · rw [unseg_segs]
      show cur.1 :: ((cur.2 ++ [c]) ++ r) = _
      rw [List.append_assoc]
      rfl
theorem segs_free : ∀ (z : List Nat) (cur : Sg), (∀ c ∈ cur.2, isSep c = false) → ∀ p ∈ segs cur z, ∀ c ∈ p.2, isSep c = false
  | [], cur, h, p, m => by
    rw [List.mem_singleton.mp m]
    exact h
  | c :: r, cur, h, p, m => by
    have m : p ∈ (if isSep c = true then cur :: segs (c, []) r else segs (cur.1, cur.2 ++ [c]) r) := m
    split at m
    · rcases List.mem_cons.mp m with rfl | m
      · exact h
      · exact segs_free r (c, []) nofun p m
    · rename_i hc
      exact segs_free r _ (fun x hx => by
        rcases List.mem_append.mp hx with hx | hx
        · exact h x hx
        · rw [List.mem_singleton.mp hx]
          simpa using hc) p m
theorem segs_seps : ∀ (z : List Nat) (cur : Sg), isSep cur.1 = true → ∀ p ∈ segs cur z, isSep p.1 = true
  | [], cur, h, p, m => by
    rw [List.mem_singleton.mp m]
    exact h
  | c :: r, cur, h, p, m => by
    have m : p ∈ (if isSep c = true then cur :: segs (c, []) r else segs (cur.1, cur.2 ++ [c]) r) := m
    split at m
    · rename_i hc
      rcases List.mem_cons.mp m with rfl | m
      · exact h
      · exact segs_seps r (c, []) hc p m
    · exact segs_seps r (cur.1, cur.2 ++ [c]) h p m
theorem segs_ne : ∀ (z : List Nat) (cur : Sg), ∃ w r, segs cur z = (cur.1, w) :: r
  | [], cur => ⟨_, _, rfl⟩
  | c :: r, cur => by
    show ∃ w q, (if isSep c = true then cur :: segs (c, []) r else segs (cur.1, cur.2 ++ [c]) r) = (cur.1, w) :: q
    split
    · exact ⟨_, _, rfl⟩
    · exact segs_ne r (cur.1, cur.2 ++ [c])
theorem segs_len : ∀ (z : List Nat) (cur : Sg), (segs cur z).length ≤ z.length + 1
  | [], cur => Nat.le_refl _
  | c :: r, cur => by
    show (if isSep c = true then cur :: segs (c, []) r else segs (cur.1, cur.2 ++ [c]) r).length ≤ _
    split
    · have := segs_len r (c, [])
      rw [List.length_cons, List.length_cons]
      omega
    · have := segs_len r (cur.1, cur.2 ++ [c])
      rw [List.length_cons]
      omega
/-- signs in order: parts -/
theorem pv_flat : ∀ (l : List Sg) (a : Nat), (∀ p ∈ l, isSep p.1 = true) → pv a (l.map Prod.fst) = true →
    ((a = 58 ∨ a = 44) → ∃ (fs : List (List Nat)) (ps : List NPart), l = (fs.map fun g => ((44, g) : Sg)) ++ flat ps) ∧ (a = 32 → (∃ ps, l = flat ps) ∨ ∃ (f : List Nat) (fs : List (List Nat)) (ps : List NPart), l = (58, f) :: ((fs.map fun g => ((44, g) : Sg)) ++ flat ps))
  | [], a, _, _ => ⟨fun _ => ⟨[], [], rfl⟩, fun _ => .inl ⟨[], rfl⟩⟩
  | (s, w) :: l, a, hs, h => by
    have h : (if (s = 44 ∧ ¬ (a = 58 ∨ a = 44)) ∨ (s = 58 ∧ a ≠ 32) then false else pv s (l.map Prod.fst)) = true := h
    split at h
    · cases h
    rename_i n
    have ih := pv_flat l s (fun p m => hs p (List.mem_cons_of_mem _ m)) h
    have h3 : s = 32 ∨ s = 58 ∨ s = 44 := by
      have := hs (s, w) (List.mem_cons_self ..)
      unfold isSep at this
      simpa using this
    have sp : s = 32 → ∃ ps, (s, w) :: l = flat ps := fun e => by
      subst e
      rcases ih.2 rfl with ⟨ps, rfl⟩ | ⟨f, fs, ps, rfl⟩
      · exact ⟨(w, []) :: ps, rfl⟩
      · exact ⟨(w, f :: fs) :: ps, rfl⟩
    rcases h3 with rfl | rfl | rfl
    · obtain ⟨ps, e⟩ := sp rfl
      exact ⟨fun _ => ⟨[], ps, e⟩, fun _ => .inl ⟨ps, e⟩⟩
    · obtain ⟨fs, ps, rfl⟩ := ih.1 (.inl rfl)
      have ha : a = 32 := Classical.byContradiction fun z => n (.inr ⟨rfl, z⟩)
      subst ha
      exact ⟨fun z => (by rcases z with z | z <;> cases z), fun _ => .inr ⟨w, fs, ps, rfl⟩⟩
    · obtain ⟨fs, ps, rfl⟩ := ih.1 (.inr rfl)
      have ha : a = 58 ∨ a = 44 := Classical.byContradiction fun z => n (.inl ⟨rfl, z⟩)
      exact ⟨fun _ => ⟨w :: fs, ps, rfl⟩, fun e => (by subst e; rcases ha with z | z <;> cases z)⟩
theorem flat_snd (ps : List NPart) : (flat ps).map Prod.snd = ps.flatMap fun p => p.1 :: p.2 := by
  unfold flat
  rw [List.map_flatMap]
  congr 1
  funext p
  obtain ⟨a, fs⟩ := p
  cases fs with
  | nil => rfl
  | cons f r =>
    show a :: f :: (r.map fun g => ((44, g) : Sg)).map Prod.snd = _
    rw [List.map_map]
    show a :: f :: r.map id = _
    rw [List.map_id]
theorem flat_count : ∀ ps : List NPart, ((flat ps).map Prod.fst).count 32 = ps.length
  | [] => rfl
  | (a, fs) :: ps => by
    have e : flat ((a, fs) :: ps) = ((32, a) :: fseg fs) ++ flat ps := rfl
    have q : ((fseg fs).map Prod.fst).count 32 = 0 := by
      rw [List.count_eq_zero]
      cases fs with
      | nil => exact nofun
      | cons f r =>
        show ¬ 32 ∈ 58 :: (r.map fun g => ((44, g) : Sg)).map Prod.fst
        rw [List.map_map]
        intro m
        rcases List.mem_cons.mp m with m | m
        · cases m
        · obtain ⟨g, _, hg⟩ := List.mem_map.mp m
          cases hg
    rw [e, List.map_append, List.count_append, flat_count ps, List.map_cons, List.count_cons_self, q, List.length_cons]
    omega
theorem pv_of_flat : ∀ (ps : List NPart) (a : Nat), pv a ((flat ps).map Prod.fst) = true
  | [], _ => rfl
  | (b, fs) :: ps, a => by
    have e : flat ((b, fs) :: ps) = ((32, b) :: fseg fs) ++ flat ps := rfl
    rw [e, List.map_append]
    have run : ∀ (r : List (List Nat)) (s : Nat), s = 58 ∨ s = 44 → pv s ((r.map fun g => ((44, g) : Sg)).map Prod.fst ++ (flat ps).map Prod.fst) = true := fun r => by
      induction r with
      | nil => exact fun s _ => pv_of_flat ps s
      | cons g r ih =>
        intro s hs
        show (if ((44 : Nat) = 44 ∧ ¬ (s = 58 ∨ s = 44)) ∨ ((44 : Nat) = 58 ∧ s ≠ 32) then false else pv 44 _) = true
        rw [if_neg fun z => by
          rcases z with z | z
          · exact z.2 hs
          · exact absurd z.1 (by decide)]
        exact ih 44 (.inr rfl)
    cases fs with
    | nil =>
      show (if ((32 : Nat) = 44 ∧ ¬ (a = 58 ∨ a = 44)) ∨ ((32 : Nat) = 58 ∧ a ≠ 32) then false else pv 32 ((flat ps).map Prod.fst)) = true
      rw [if_neg fun z => by rcases z with z | z <;> exact absurd z.1 (by decide)]
      exact pv_of_flat ps 32
    | cons f r =>
      show (if ((32 : Nat) = 44 ∧ ¬ (a = 58 ∨ a = 44)) ∨ ((32 : Nat) = 58 ∧ a ≠ 32) then false else (if ((58 : Nat) = 44 ∧ ¬ ((32 : Nat) = 58 ∨ (32 : Nat) = 44)) ∨ ((58 : Nat) = 58 ∧ (32 : Nat) ≠ 32) then false else pv 58 ((r.map fun g => ((44, g) : Sg)).map Prod.fst ++ (flat ps).map Prod.fst))) = true
      rw [if_neg fun z => by rcases z with z | z <;> exact absurd z.1 (by decide), if_neg (by decide)]
      exact run r 58 (.inl rfl)
/-- the walk over the text of parts -/
theorem segs_fil (s : Nat) (f : List Nat) (hf : ∀ c ∈ f, isSep c = false) : ∀ (r : List (List Nat)), (∀ g ∈ r, ∀ c ∈ g, isSep c = false) → ∀ (q : List Nat), (q = [] ∨ ∃ c q', q = c :: q' ∧ isSep c = true) →
    segs (s, []) (joinL [44] (f :: r) ++ q) = ((s, f) :: r.map fun g => (44, g)) ++ cont q := by
  intro r
  induction r generalizing s f with
  | nil => exact fun _ q hq => segs_wd hf q hq
  | cons g r ih =>
    intro hr q hq
    have e : joinL [44] (f :: g :: r) ++ q = f ++ (44 :: (joinL [44] (g :: r) ++ q)) := by
      show (f ++ ([44] ++ joinL [44] (g :: r))) ++ q = _
      rw [List.append_assoc, List.append_assoc]
      rfl
    rw [e, segs_wd hf _ (.inr ⟨44, _, rfl, rfl⟩)]
    show (s, f) :: segs (44, []) _ = _
    rw [ih 44 g (hr g (List.mem_cons_self ..)) (fun x m => hr x (List.mem_cons_of_mem _ m)) q hq]
    rfl
def Free (p : Part) : Prop := (∀ c ∈ tl p.1, isSep c = false) ∧ ∀ f ∈ p.2, ∀ c ∈ tl f, isSep c = false
theorem segs_part {p : Part} (h : Free p) (q : List Nat) (hq : q = [] ∨ ∃ c q', q = c :: q' ∧ isSep c = true) : segs (32, []) (tl (txtP p) ++ q) = ((32, tl p.1) :: fseg (p.2.map tl)) ++ cont q := by
  obtain ⟨a, fs⟩ := p
  unfold txtP
  rw [tl_append]
  cases fs with
  | nil =>
    have e : tl (if ([] : List Str).isEmpty = true then ("" : Str) else (":" : Str) ++ Txt.join "," []) = [] := by decide
    show segs (32, []) ((tl a ++ tl (if ([] : List Str).isEmpty = true then ("" : Str) else (":" : Str) ++ Txt.join "," [])) ++ q) = _
    rw [e, List.append_nil]
    exact segs_wd h.1 q hq
  | cons f r =>
    have e : tl (if (f :: r).isEmpty = true then ("" : Str) else (":" : Str) ++ Txt.join "," (f :: r)) = 58 :: joinL [44] ((f :: r).map tl) := by
      show tl ((":" : Str) ++ Txt.join "," (f :: r)) = _
      rw [tl_append, join_eq, tl_join]
      rfl
    show segs (32, []) ((tl a ++ tl (if (f :: r).isEmpty = true then ("" : Str) else (":" : Str) ++ Txt.join "," (f :: r))) ++ q) = _
    rw [e, List.append_assoc, List.cons_append, segs_wd h.1 _ (.inr ⟨58, _, rfl, rfl⟩)]
    show (32, tl a) :: segs (58, []) (joinL [44] (tl f :: r.map tl) ++ q) = _
    rw [segs_fil 58 (tl f) (h.2 f (List.mem_cons_self ..)) (r.map tl) (fun g m c hc => by
      obtain ⟨x, hx, rfl⟩ := List.mem_map.mp m
      exact h.2 x (List.mem_cons_of_mem _ hx) c hc) q hq]
    show _ = ((32, tl a) :: (58, tl f) :: (r.map tl).map fun g => ((44, g) : Sg)) ++ _
    rfl
theorem segs_text : ∀ {ps : List Part}, ps ≠ [] → (∀ p ∈ ps, Free p) → segs (32, []) (tl (text ps)) = flat (nps ps)
  | [], h, _ => absurd rfl h
  | [p], _, h => by
    have e : tl (text [p]) = tl (txtP p) ++ [] := by
      unfold text
      rw [join_eq, tl_join, List.append_nil]
      rfl
    rw [e, segs_part (h p (List.mem_cons_self ..)) [] (.inl rfl)]
    rfl
  | p :: q :: r, _, h => by
    have e : tl (text (p :: q :: r)) = tl (txtP p) ++ (32 :: tl (text (q :: r))) := by
      unfold text
      rw [join_eq, tl_join, join_eq, tl_join]
      rfl
    rw [e, segs_part (h p (List.mem_cons_self ..)) _ (.inr ⟨32, _, rfl, rfl⟩)]
    show _ ++ segs (32, []) (tl (text (q :: r))) = _
    rw [segs_text (by simp) fun x m => h x (List.mem_cons_of_mem _ m)]
    rfl
theorem text_parse (z : Str) : text (parse z) = z := by
  unfold text parse
  rw [List.map_map]
  have e : (Txt.split z " ").map (txtP ∘ cut) = (Txt.split z " ").map id := List.map_congr_left fun u _ => by
    show txtP (cut u) = u
    unfold cut txtP
    by_cases m : 58 ∈ tl u
    · obtain ⟨l, r, el, nl⟩ := List.eq_append_cons_of_mem m
      have eu : u = (⟨l.toArray⟩ : Str) ++ ":" ++ (⟨r.toArray⟩ : Str) := ext_tl (by
        rw [tl_append, tl_append, el]
        show _ = (l.toArray.toList ++ [58]) ++ r.toArray.toList
        rw [List.append_assoc]
        rfl)
      have ep : Txt.partition u ":" = ((⟨l.toArray⟩ : Str), (":" : Str), (⟨r.toArray⟩ : Str)) := by
        rw [eu]
        exact partition_app (y := ":") (s := 58) (S := []) (by decide) nl
      rw [ep]
      show (⟨l.toArray⟩ : Str) ++ (if (if (":" : Str) = ":" then Txt.split (⟨r.toArray⟩ : Str) "," else []).isEmpty = true then ("" : Str) else (":" : Str) ++ Txt.join "," (if (":" : Str) = ":" then Txt.split (⟨r.toArray⟩ : Str) "," else [])) = u
      rw [if_pos rfl]
      have ne : (Txt.split (⟨r.toArray⟩ : Str) ",").isEmpty = false := by
        have := split_pos (⟨r.toArray⟩ : Str) ","
        cases q : Txt.split (⟨r.toArray⟩ : Str) "," with
        | nil => rw [q] at this; exact absurd this (by decide)
        | cons _ _ => rfl
      rw [ne, join_eq, PySem.StrLaws.join_split, eu]
      exact ext_tl (by
        rw [tl_append]
        show _ ++ tl ((":" : Str) ++ (⟨r.toArray⟩ : Str)) = _
        rw [tl_append, tl_append, tl_append, List.append_assoc])
    · rw [partition_none (y := ":") (s := 58) (S := []) (by decide) m]
      show u ++ (if (if (Str.empty : Str) = ":" then Txt.split Str.empty "," else ([] : List Str)).isEmpty = true then ("" : Str) else _) = u
      rw [if_pos (by decide)]
      exact ext_tl (by
        rw [tl_append]
        exact List.append_nil _)
  rw [e, List.map_id, join_eq, PySem.StrLaws.join_split]
/-- the words and signs of a text -/
def wds (z : Str) : List (List Nat) := (segs (32, []) (tl z)).map Prod.snd
def sgs (z : Str) : List Nat := (segs (32, []) (tl z)).map Prod.fst
def isNameL (w : List Nat) : Bool := isName ⟨w.toArray⟩
def isFormW (z : Str) : Bool := ((wds z).all isNameL && decide ((wds z).Nodup)) && (pv 0 (sgs z) && (decide ((sgs z).count 32 ≤ 3) && decide ((wds z).length ≤ (sgs z).count 32 + 3)))
theorem low_sep {w : List Nat} (h : ∀ c ∈ w, 97 ≤ c ∧ c ≤ 122) : ∀ c ∈ w, isSep c = false := fun c m => by
  have := h c m
  unfold isSep
  simp
  omega
theorem names_nps (ps : List Part) : ((nps ps).flatMap fun p => p.1 :: p.2) = (names ps).map tl := by
  unfold nps names
  rw [List.flatMap_map, List.map_flatMap]
  rfl
theorem tl_inj {x y : Str} (h : tl x = tl y) : x = y := ext_tl h
theorem tl_mk (w : List Nat) : tl (⟨w.toArray⟩ : Str) = w := rfl
theorem mk_tl (z : Str) : (⟨(tl z).toArray⟩ : Str) = z := ext_tl rfl
theorem nodup_tl {ss : List Str} : (ss.map tl).Nodup ↔ ss.Nodup := by
  constructor
  · intro h
    exact (List.pairwise_map.mp h).imp fun a b => a (by rw [b])
  · intro h
    exact List.pairwise_map.mpr (List.Pairwise.imp (fun a b => a (tl_inj b)) h)
theorem isFormW_iff (z : Str) : isFormW z = isRight (parse z) := by
  rw [Bool.eq_iff_iff, isRight_iff]
  unfold isFormW
  simp only [Bool.and_eq_true, decide_eq_true_eq, List.all_eq_true]
  constructor
  · rintro ⟨⟨h1, h2⟩, h3, h4, h5⟩
    obtain ⟨w, r, e⟩ := segs_ne (tl z) (32, [])
    have hs := segs_seps (tl z) (32, []) rfl
    have hpv : pv 32 (r.map Prod.fst) = true := by
      unfold sgs at h3
      rw [e] at h3
      have h3 : (if ((32 : Nat) = 44 ∧ ¬ ((0 : Nat) = 58 ∨ (0 : Nat) = 44)) ∨ ((32 : Nat) = 58 ∧ (0 : Nat) ≠ 32) then false else pv 32 (r.map Prod.fst)) = true := h3
      rwa [if_neg (by decide)] at h3
    have fl : ∃ ns : List NPart, segs (32, []) (tl z) = flat ns ∧ ns ≠ [] := by
      rcases (pv_flat r 32 (fun p m => hs p (by rw [e]; exact List.mem_cons_of_mem _ m)) hpv).2 rfl with ⟨ps, rfl⟩ | ⟨f, fs, ps, rfl⟩
      · exact ⟨(w, []) :: ps, e, by simp⟩
      · exact ⟨(w, f :: fs) :: ps, e, by simp⟩
    obtain ⟨ns, en, nn⟩ := fl
    let ps : List Part := ns.map fun p => (⟨p.1.toArray⟩, p.2.map fun f => ⟨f.toArray⟩)
    have eps : nps ps = ns := by
      show (ns.map _).map _ = ns
      rw [List.map_map]
      have : (ns.map ((fun p : Part => ((tl p.1, p.2.map tl) : NPart)) ∘ fun p : NPart => ((⟨p.1.toArray⟩, p.2.map fun f => ⟨f.toArray⟩) : Part))) = ns.map id := List.map_congr_left fun p _ => by
        show (tl _, (p.2.map fun f => (⟨f.toArray⟩ : Str)).map tl) = p
        rw [List.map_map]
        show (p.1, p.2.map id) = p
        rw [List.map_id]
      rw [this, List.map_id]
    have ewd : wds z = (names ps).map tl := by
      unfold wds
      rw [en, flat_snd, ← names_nps, eps]
    have ect : (sgs z).count 32 = ps.length := by
      unfold sgs
      rw [en, flat_count]
      show _ = (ns.map _).length
      rw [List.length_map]
    rw [ect] at h4 h5
    rw [ewd] at h1 h2 h5
    rw [List.length_map] at h5
    have w : Wf ps := ⟨by
      show 1 ≤ (ns.map _).length
      rw [List.length_map]
      cases ns with
      | nil => exact absurd rfl nn
      | cons _ _ => simp, h4, by omega, fun s hs => by
        have := h1 (tl s) (List.mem_map.mpr ⟨s, hs, rfl⟩)
        unfold isNameL at this
        rwa [mk_tl] at this, nodup_tl.mp h2⟩
    have tz : text ps = z := by
      have fr : ∀ p ∈ ps, Free p := fun p hp => ⟨low_sep (w.low hp).1, fun f hf => low_sep ((w.low hp).2 f hf)⟩
      have e1 := segs_text (ps := ps) (fun q => by
        have := w.pos
        rw [q] at this
        exact absurd this (by decide)) fr
      rw [eps, ← en] at e1
      have e2 := congrArg unseg e1
      rw [unseg_segs, unseg_segs] at e2
      have e2 : 32 :: tl (text ps) = 32 :: tl z := e2
      exact tl_inj (List.cons.inj e2).2
    rw [← tz, parse_text w]
    exact w
  · intro w
    have fr : ∀ p ∈ parse z, Free p := fun p hp => ⟨low_sep (w.low hp).1, fun f hf => low_sep ((w.low hp).2 f hf)⟩
    have e1 := segs_text (ps := parse z) (fun q => by
      have := w.pos
      rw [q] at this
      exact absurd this (by decide)) fr
    rw [text_parse] at e1
    have ewd : wds z = (names (parse z)).map tl := by
      unfold wds
      rw [e1, flat_snd, names_nps]
    have ect : (sgs z).count 32 = (parse z).length := by
      unfold sgs
      rw [e1, flat_count]
      unfold nps
      rw [List.length_map]
    have epv : pv 0 (sgs z) = true := by
      unfold sgs
      rw [e1]
      exact pv_of_flat _ _
    rw [ewd, ect]
    refine ⟨⟨fun x hx => ?_, nodup_tl.mpr w.nd⟩, epv, w.few, ?_⟩
    · obtain ⟨s, hs, rfl⟩ := List.mem_map.mp hx
      unfold isNameL
      rw [mk_tl]
      exact w.nm s hs
    · rw [List.length_map]
      exact w.fil
end Fm
set_option Elab.async false
set_option linter.all false
set_option maxRecDepth 100000
set_option maxHeartbeats 2000000
/-! isinstance(e, C), e a caught exception with fields -/
namespace Lx
open PySem PySem.Spec PyProof.Rows L2
/-- e is what stands at a, of the class cls, its fields at d -/
def rIsX (K : PySem.W.Frag) (a : Addr) (cls : Value) (d : Option Addr) : List V → Hp → VK → Prop := fun xs H Q =>
  ∃ (c : V) (cv : Value) (D : Addr) (b : Bool) (dd : Addr) (fs : List (Str × V)), xs = [.ref a, c] ∧ (∀ u, RelV c u → u = cv) ∧ cls = .ref D ∧ d = some dd ∧ H dd = some (.xd fs) ∧ ExcC K D ∧ PySem.W.kitOne K (.ref D) cv = some b ∧ Q (.bl b) H
theorem call_isX {X : Cx} {a : Addr} {oe : Obj} {cls : Value} {d : Option Addr} {pn : List (Addr × Obj)} (hz : Zc cls d oe) (hf : ∃ vs, oe.data = .fields vs) : CallR (X.suite a ((a, oe) :: pn)) (.builtin "isinstance") (rIsX X.K a cls d) := fun pins s σ H xs us Q I r h => by
  obtain ⟨c, cv, D, b, dd, fs, rfl, hc, rfl, rfl, ea, C, kit, q⟩ := h
  match us, r with
  | [_, w], .cons rfl (.cons rc .nil) =>
    obtain rfl := hc w rc
    obtain ⟨vs, dat⟩ := hf
    have pinned := (I.pin (a, oe) (List.mem_append_left _ List.mem_cons_self)).1
    obtain ⟨mA, hns, _⟩ := show ObjOk X.prog X.w H s.heap dd (.xd fs) from I.hok dd _ ea
    obtain ⟨od, ho, _⟩ := lookIn_ns hns
    have at_ : PySem.W.InstAt s.heap a oe D (some od) := { at_ := pinned, cls := hz.1, no := (by unfold PySem.W.notCls; rw [dat] <;> rfl), dict := (by rw [hz.2]; exact ho) }
    have isC : (PySem.W.clsIn X.K D).isSome = true := by
      obtain ⟨cd, e, _⟩ := PySem.W.any_some C.hd
      rw [e]
      rfl
    exact PySem.W.kia_one (PySem.W.kitx_exc isC C.hg C.hk C.hs C.ha C.hn C.ht C.hm) I.kIn at_ kit nofun fun tk => ⟨.bl b, H, I.kept (t' := tk) fun _ _ z => z, rfl, q⟩
def excB (K : PySem.W.Frag) (D : Addr) : Bool := decide (PySem.W.findIn K (.ref D) "__getattribute__" = some (some (.builtin "BaseException.__getattribute__"))) && (decide (PySem.W.findIn K (.ref D) "__getattr__" = some none) && (decide (PySem.W.subIn K (.ref D) (.type "BaseException") = some true) && (PySem.W.hasDictIn K D && (decide (PySem.W.findIn K (.ref D) "__class__" = some (some (.builtin "object.__class__"))) && (decide (PySem.W.specialIn K (.builtin "object.__class__") "__get__" = some (some (.builtin "getset_descriptor.__get__"))) && (decide (PySem.W.takesIn K (.builtin "object.__class__") = some true) && decide (PySem.W.mroIn K D (.type "object") = some true)))))))
theorem excB_ok {K : PySem.W.Frag} {D : Addr} (h : excB K D = true) : ExcC K D := by
  unfold excB at h
  simp only [Bool.and_eq_true, decide_eq_true_eq] at h
  obtain ⟨h1, h2, h3, h4, h5, h6, h7, h8⟩ := h
  exact ⟨h1, h2, h3, h4, h5, h6, h7, h8⟩
end Lx
namespace DL
open PySem L2 Lx
theorem rc_isX {K : PySem.W.Frag} {a dd D C : Addr} {f : Str} {T : Ty} {κ : Ty → Prop} (b : Bool) (E : ExcC K D) (kit : PySem.W.kitOne K (.ref D) (.ref C) = some b) (k : κ (tyB b)) : RC (rIsX K a (.ref D) (some dd)) [tyEx a dd f T, tyV (.ref C)] κ := fun vs B H Q bh t q => by
  obtain ⟨v, w, rfl, ⟨rfl, x, e, _⟩, h2⟩ := vals_two t
  cases h2
  exact ⟨_, .ref C, D, b, dd, _, rfl, fun u h => h, rfl, rfl, bh _ _ e, E, kit, q _ B H _ k (.refl bh) rfl⟩
end DL
set_option Elab.async false
set_option linter.all false
set_option maxRecDepth 100000
set_option maxHeartbeats 2000000
/-! text[::-1]: some text of the same signs, no longer -/
namespace Lx
open PySem PySem.Spec PyProof.Rows L2
def tRevS (te : TE) : TE := fun σ H Q => te σ H fun x H1 => ∃ z, x = .str z ∧ z.length ≤ sizeLine ∧ ∀ r : Str, r.length ≤ z.length → (∀ c ∈ TL.tl r, c ∈ TL.tl z) → Q (.str r) H1
theorem back_facts (z : Str) : ((Builtin.Str.strSliceIndices none none (-1) z.length).filterMap (z.cps[·]?)).length ≤ z.length ∧ ∀ c ∈ (Builtin.Str.strSliceIndices none none (-1) z.length).filterMap (z.cps[·]?), c ∈ TL.tl z := by
  have e : Builtin.Str.strSliceIndices none none (-1) z.length = (List.range z.length).reverse := by
    show sliceRange ((z.length : Int) - 1) (-1) (-1) = _
    rw [PySem.W.krv_sliceRange]
    exact PySem.W.krv_range _
  rw [e]
  refine ⟨?_, fun c hc => ?_⟩
  · refine Nat.le_trans (List.length_filterMap_le ..) ?_
    rw [List.length_reverse, List.length_range]
    exact Nat.le_refl _
  · obtain ⟨i, _, hi⟩ := List.mem_filterMap.mp hc
    exact Array.mem_toList_iff.mpr (Array.mem_of_getElem? hi)
theorem pe_revS {X : Cx} {e : Expr} {te : TE} {k : Nat} {p1 p2 p3 pos : Pos} (he : PE X e te) : PE X (.Subscript e (.Slice none none (some (.UnaryOp .USub (.Constant (.int 1) k p1) p2)) p3) pos) (tRevS te) := ⟨fun pins s σ H Q I h => by
  refine Subscript_ (thn (he.run pins s σ H _ I h) fun v sa ⟨x, Ha, Ia, ra, z, ez, hz, q⟩ => ?_)
  subst ez
  obtain ⟨tz, rfl⟩ := ra
  have step : PO X (some (.UnaryOp .USub (.Constant (.int 1) k p1) p2)) (tPart (tUn (rU fun i => .int (-i)) (tC (.int 1)))) := po_some (pe_un un_neg pe_int)
  refine wpAny_Slice (thn (po_none.run pins sa σ Ha (fun o Hb => o = none ∧ Hb = Ha) Ia ⟨rfl, rfl⟩) fun vl sb ⟨l, Hb, Ib, pl, el, eb⟩ => ?_)
  subst el eb
  refine thn (po_none.run pins sb σ Hb (fun o Hc => o = none ∧ Hc = Hb) Ib ⟨rfl, rfl⟩) fun vu sc ⟨u, Hc, Ic, pu, eu, ec⟩ => ?_
  subst eu ec
  refine thn (step.run pins sc σ Hc (fun o Hd => o = some (-1) ∧ Hd = Hc) Ic ⟨1, rfl, -1, rfl, rfl, rfl⟩) fun vs sd ⟨o, Hd, Id, ps, eo, ed⟩ => ?_
  subst eo ed
  have Ie : Inv X pins σ Hd { sd with heap := sd.heap.push { cls := .type "slice", data := .fields #[vl, vu, vs] } } := Id.kept (t' := sd.toks) fun b ob q => Heap.get?_push_of_some _ q
  obtain ⟨l0, rfl, el⟩ := IsPart.raw pl
  obtain ⟨u0, rfl, eu⟩ := IsPart.raw pu
  obtain ⟨w0, rfl, ew⟩ := IsPart.raw ps
  cases l0 with
  | some _ => cases el
  | none =>
  cases u0 with
  | some _ => cases eu
  | none =>
  cases w0 with
  | none => cases ew
  | some w1 =>
    obtain ⟨i1, t1⟩ := w1
    obtain rfl : i1 = -1 := Option.some.inj ew
    obtain ⟨b1, b2⟩ := back_facts z
    refine tail_any (ops := [.ref sd.heap.objs.size, .str z tz]) (typeIs_str _ _ _) F.slot_str_getitem.lookup ?_ (by with_unfolding_all rfl)
    obtain ⟨os, hos, hcs, hds⟩ := Heap.IsSliceOf.new sd.heap (partValue none) (partValue none) (partValue (some (-1, t1)))
    refine wpAny_getItem_str_slice (l := none) (u := none) (st := some (-1, t1)) ⟨os, hos, hcs, hds⟩ rfl ?_
    show Made.post (if ((-1 : Int) == 1 && _) = true then _ else Made.str ⟨((Builtin.Str.strSliceIndices none none (-1) z.length).filterMap (z.cps[·]?)).toArray⟩) _ _
    rw [if_neg fun h => absurd (Bool.and_eq_true_iff.mp h).1 (by decide)]
    refine ⟨?_, .str _, Hd, Ie.tok _, ⟨_, rfl⟩, q _ ?_ b2⟩
    · exact Nat.le_trans (by show Array.size _ ≤ _; rw [List.size_toArray]; exact b1) hz
    · show Array.size _ ≤ _
      rw [List.size_toArray]
      exact b1⟩
end Lx
namespace DL
open PySem L2 Lx
theorem WE.revS {X : Xn} {Γ : List Slot} {κ : Ty → List Slot → Prop} {te : TE} (h : WE X te Γ fun T Γ1 => ∃ z : Str, T = tyS z ∧ z.length ≤ sizeLine ∧ ∀ r : Str, r.length ≤ z.length → (∀ c ∈ TL.tl r, c ∈ TL.tl z) → κ (tyS r) Γ1) : WE X (tRevS te) Γ κ := fun σ B H s xo Q q =>
  h σ B H s xo _ fun v B1 H1 T Γ1 k1 s1 b1 t1 => by
    obtain ⟨z, rfl, hz, k⟩ := k1
    exact ⟨z, t1, hz, fun r h1 h2 => q _ B1 H1 _ Γ1 (k r h1 h2) s1 b1 rfl⟩
end DL
set_option Elab.async false
set_option linter.all false
set_option maxRecDepth 100000
set_option maxHeartbeats 2000000
/-! a classmethod called where exceptions go by the slots (within a try) -/
namespace Lx
open PySem PySem.Spec PyProof.Rows L2 ClX
def tCMethE (C : Addr) (sp : Sp) (E : L2.St → XK) (ta : TE) (t : TA) : TE := fun σ H Q => ta σ H fun x H1 => x = .ref C ∧ t σ H1 fun vs H2 => sp (.ref C :: vs) H2 Q (E σ)
section
variable {X : Cx} {CX : CXT} {k : Nat} {C p g : Addr} {mc : Value} {sp : Sp} {ES : L2.St → XK} {o e : Expr} {es : List Expr} {m : Str} {pos apos : Pos} {ta : TE} {t : TA}
theorem run_cmE {pins : List (Addr × Obj)} {σ : L2.St} {H : Hp} {s : Shared} {q : Addr} {E : XK} {Q : VK} {us : List Value} {vs : List V} (F : FnR X.prog X.w X.K X.mg X.base CX k g sp) (hr : Room k X.A) (hx : PassesAt CX X σ E)
    (I : Inv X ((q, PySem.W.methodObj (.ref g) (.ref C)) :: pins) σ H s) (r : Vals vs us) (h : sp (.ref C :: vs) H Q E) : wpAny (model X.prog X.w) X.A (call (.ref q) us) (EP X pins σ Q) X.xe s := by
  refine thn (wpAny_call (PySem.W.method_call (pin_at I) (codeAny_mono (F X.A X.stack s H (.ref C :: us) (.ref C :: vs) Q E hr I.env0 (.cons rfl r) h) fun z s' hq => ?_))) fun _ _ y => unpinE (p := (q, PySem.W.methodObj (.ref g) (.ref C))) y
  cases z with
  | error e => exact hx _ H s e s' I hq
  | ok fl =>
    cases fl with
    | ret u => exact I.after hq
    | next => exact False.elim hq
    | brk => exact False.elim hq
    | cont => exact False.elim hq
theorem pe_cmethE {pl : Sem Bool} (he : PE X o ta) (r : CRead X.K C mc) (c : CMet X.K C mc m p g) (F : FnR X.prog X.w X.K X.mg X.base CX k g sp) (hr : Room k X.A) (hx : ∀ σ, PassesAt CX X σ (ES σ)) (ha : PA X (e :: es) t)
    (hst : starEach (e :: es) X.env = (false, eval e X.env) :: starEach es X.env := by rfl) (hpl : (backTo pos (starEach es X.env)).any (·.1) = false := by rfl)
    (ht : eval (.Call (.Attribute o m apos) (e :: es) [] pos) X.env = (do
      let ov ← eval o X.env
      standAt apos.atName
      let (f, first) ← holding [ov] (getMethod ov m pl)
      callWith pos f first (backTo pos (starEach (e :: es) X.env)) (backToKw pos (keywordEach [] X.env))) := by rfl) :
    PE X (.Call (.Attribute o m apos) (e :: es) [] pos) (tCMethE C sp ES ta t) := ⟨fun pins s σ H Q I h => by
  refine PySem.W.methodCall_KW (pl := pl) (thn (he.run pins s σ H _ I h) fun u sa ⟨x, Ha, Ia, ra, ea, q⟩ => ?_) ht
  subst ea
  obtain rfl : u = Value.ref C := ra
  exact getmethcm_ok Ia r c fun sb Ib => callwith_cm Ib (base_none Ia (Nat.le_refl _)) c.fi (thn (ha.run pos _ sb σ Ha _ Ib q) fun us sc ⟨vs, Hb, Ic, rv, qb⟩ => ⟨⟨pin_at Ic, Ic.kIn⟩, run_cmE F hr (hx σ) Ic rv qb⟩) hst hpl⟩
end
end Lx
namespace DL
open PySem L2 Lx
theorem WE.cmethE {X : Xn} {Γ : List Slot} {κ : Ty → List Slot → Prop} {α : Type} {C : Addr} {c : α → Cs} {E : L2.St → XK} {ta : TE} {t : TA} (hE : ∀ σ, X.E σ = E σ) (h : WE X ta Γ fun T Γ1 => T = tyV (.ref C) ∧ WA X t Γ1 fun Ts Γ2 => Meets c (T :: Ts) (Post X κ Γ2)) : WE X (tCMethE C (spP c) E ta t) Γ κ := fun σ B H s xo Q q =>
  h σ B H s xo _ fun v B1 H1 T Γ1 k1 s1 b1 t1 => by
    obtain ⟨rfl, k1⟩ := k1
    cases t1
    refine ⟨rfl, k1 σ B1 H1 s1 (xo.after b1) _ fun vs B2 H2 Ts Γ2 k2 s2 b2 t2 => ?_⟩
    rw [← hE σ]
    exact apply_P s2 (xo.after (b1.trans b2)) (vs := .ref C :: vs) (Ts := tyV (.ref C) :: Ts) ⟨rfl, t2⟩ k2 fun v B' H' T k s' g' ok => q v B' H' T Γ2 k s' ((b1.trans b2).trans g') ok
end DL
set_option Elab.async false
set_option linter.all false
set_option maxRecDepth 100000
set_option maxHeartbeats 2000000
/-! three names at once, the first one a new list of our own, the others constants -/
namespace DL
open PySem L2 Lx
theorem WS.par3C {X : Xn} {Γ : List Slot} {κs : En} {i j l : Nat} {ta : TE} {v w : V} (h : WO X ta Γ fun M Γ1 => i < Γ1.length ∧ κs.nx (((Γ1.set i (.own M)).set j (.is (tyV v))).set l (.is (tyV w)))) : WS X (tPar3 i j l (tCons ta (tCons (tC v) (tCons (tC w) tNil)))) Γ κs := fun σ B H s xo D m =>
  h σ B H s xo _ fun p o B1 H1 M Γ1 k1 s1 b1 n ok => by
    have s2 := s1.putOwn k1.1 n ok
    have s3 := s2.put (i := j) (T := tyV v) (v := v) rfl
    have s4 := s3.put (i := l) (T := tyV w) (v := w) rfl
    exact ⟨.ref p, v, w, rfl, m.nx _ B1 _ _ k1.2 s4 (((b1.trans (s1.go_putOwn k1.1 n)).trans (go_put0 s2.bh rfl)).trans (go_put0 s3.bh rfl))⟩
theorem r2_in_one {K : PySem.W.Frag} {κ : Ty → Prop} {neg : Bool} {a : V} {xs : List V} (fa : flatV a = true) (fx : xs.all flatV = true) (k : κ (tyB (if neg then !inV a xs else inV a xs))) : R2w (rIn K neg) (tyV a) (tyT K (xs.map tyV)) κ := r2_inT fa fx k
end DL
namespace Fm
open PySem L2 Lx DL TL PyProof.Rows
def mk (w : List Nat) : Str := ⟨w.toArray⟩
theorem mk_snoc (w : List Nat) (c : Nat) : mk w ++ (⟨#[c]⟩ : Str) = mk (w ++ [c]) := ext_tl (by rw [tl_append]; rfl)
theorem mk_len (w : List Nat) : (mk w).length = w.length := by
  show w.toArray.size = _
  rw [List.size_toArray]
theorem segs_wl : ∀ (z : List Nat) (cur : Sg), ∀ p ∈ segs cur z, p.2.length ≤ cur.2.length + z.length
  | [], cur, p, m => by
    rw [List.mem_singleton.mp m]
    exact Nat.le_add_right _ _
  | c :: r, cur, p, m => by
    have m : p ∈ (if isSep c = true then cur :: segs (c, []) r else segs (cur.1, cur.2 ++ [c]) r) := m
    rw [List.length_cons]
    split at m
    · rcases List.mem_cons.mp m with rfl | m
      · omega
      · have := segs_wl r (c, []) p m
        simp only [List.length_nil] at this
        omega
    · have := segs_wl r _ p m
      simp only [List.length_append, List.length_singleton] at this
      omega
theorem wds_len {z : Str} {w : List Nat} (h : w ∈ wds z) : w.length ≤ z.length := by
  obtain ⟨p, hp, rfl⟩ := List.mem_map.mp h
  have := segs_wl (tl z) (32, []) p hp
  simp only [List.length_nil] at this
  rw [len_tl]
  omega
theorem nodup_mk {ws : List (List Nat)} : (ws.map mk).Nodup ↔ ws.Nodup := by
  constructor
  · intro h
    exact (List.pairwise_map.mp h).imp fun a b => a (by rw [b])
  · intro h
    exact List.pairwise_map.mpr (List.Pairwise.imp (fun {x y} a b => a (by
      have := congrArg tl b
      exact this)) h)
theorem dd_nodup {ss : List Str} : decide ((dd ss).length = ss.length) = decide ss.Nodup := by
  rw [Bool.eq_iff_iff, decide_eq_true_eq, decide_eq_true_eq]
  constructor
  · intro h
    have := (dd_take h ss.length (Nat.le_refl _)).2
    rwa [List.take_length] at this
  · intro h
    rw [dd_of h]
def lastS (a : Nat) : Str := if a = 0 then "" else ⟨#[a]⟩
theorem alph_low (c : Nat) : decide (c ∈ ("abcdefghijklmnopqrstuvwxyz" : Str).cps.toList) = isLow c := by
  have e : ("abcdefghijklmnopqrstuvwxyz" : Str).cps.toList = List.range' 97 26 := by decide +kernel
  rw [e]
  unfold isLow
  rw [Bool.eq_iff_iff]
  simp only [decide_eq_true_eq, Bool.and_eq_true, List.mem_range'_1]
  omega
theorem sep_sgn (c : Nat) : decide (c ∈ (" :," : Str).cps.toList) = isSep c := by
  have e : (" :," : Str).cps.toList = [32, 58, 44] := by decide +kernel
  rw [e]
  rfl
end Fm
set_option Elab.async false
set_option linter.all false
set_option maxRecDepth 100000
set_option maxHeartbeats 2000000
/-! the second layer: zip of two, d.get(k, x), instances made with keywords, __init__ with statements of all kinds -/
namespace DL
open PySem L2 Lx
section
variable {X : Xn} {Γ : List Slot} {κ : Ty → List Slot → Prop} {K : PySem.W.Frag}
/-- a list or a tuple -/
def Sq (K : PySem.W.Frag) (A : Ty) (us : List Ty) : Prop := A = tyL us ∨ A = tyT K us
theorem Sq.ok {A : Ty} {us : List Ty} {v : V} {B : Hp} (h : Sq K A us) (t : A.ok v B) : ∃ (p : Addr × Bool) (xs : List V), v = .ref p.1 ∧ (∀ B' H' : Hp, Same B B' → Same B' H' → SqA K H' p xs) ∧ TyAll us xs B := by
  rcases h with rfl | rfl
  · obtain ⟨a, xs, rfl, e, t⟩ := t
    exact ⟨(a, false), xs, rfl, fun B' H' b b' => SqL.of (b' _ _ (b _ _ e)), t⟩
  · obtain ⟨a, xs, rfl, e, t⟩ := t
    exact ⟨(a, true), xs, rfl, fun B' H' b b' => seqT_same b' (seqT_same b e), t⟩
theorem WI.zip2 {κ : List Ty → List Slot → Prop} {ta : TA} (h : WA X ta Γ fun Ts Γ1 => ∃ A C us vs, Ts = [A, C] ∧ Sq K A us ∧ Sq K C vs ∧ κ ((us.zip vs).map fun p => tyT K [p.1, p.2]) Γ1) : WI X (iZipN K ta) Γ κ := fun σ B H s xo R r =>
  h σ B H s xo _ fun vs B1 H1 Ts Γ1 k1 s1 b1 t1 => by
    obtain ⟨A, C, us, ws, rfl, hA, hC, k⟩ := k1
    obtain ⟨v, w, rfl, tv, tw⟩ := vals_two t1
    obtain ⟨p, xs, rfl, gp, tp⟩ := hA.ok tv
    obtain ⟨q, ys, rfl, gq, tq⟩ := hC.ok tw
    refine ⟨[p, q], rfl, .inl rfl, fun c hc => ?_, r _ B1 H1 _ Γ1 k s1 b1 ?_⟩
    · rcases List.mem_cons.mp hc with rfl | hc
      · exact ⟨xs, gp _ _ (fun _ _ h => h) s1.bh⟩
      · rw [List.mem_singleton.mp hc]
        exact ⟨ys, gq _ _ (fun _ _ h => h) s1.bh⟩
    · refine WI.walk (wi := fun _ _ _ => True) (κ := fun _ _ => True) (fun H => SqA K H p xs ∧ SqA K H q ys) (YPair (fun i => xs[i]?) (fun i => ys[i]?)) (walk_zip2 (by rw [List.length_map, List.length_zip, tp.length, tq.length])) (fun B' H' b b' => ⟨gp _ _ b b', gq _ _ b b'⟩) fun B' H' i v H'' b b' hi y => ?_
      obtain ⟨d, x, z, rfl, nd, rfl, ex, ez⟩ := y
      obtain ⟨T, e1, e2⟩ := tp.got ex
      obtain ⟨U, f1, f2⟩ := tq.got ez
      have ef : Eff [] B' H' (upd B' d (.tup [x, z])) (upd H' d (.tup [x, z])) := .new b' nd
      refine ⟨tyT K [T, U], _, ?_, ef, ⟨d, [x, z], rfl, SqT.of upd_same, T.mono (b.trans ef.bb) e2, U.mono (b.trans ef.bb) f2, trivial⟩⟩
      have : (us.zip ws)[i]? = some (T, U) := by
        rw [List.getElem?_zip_eq_some]
        exact ⟨e1, f1⟩
      rw [List.getElem?_map, this]
      rfl
/-- d.get(k, x) -/
theorem WE.dget2 {td ty tx : TE} (h : WE X td Γ fun T Γ1 => ∃ kvs, T = tyD kvs ∧ WE X ty Γ1 fun U Γ2 => ∃ k, U = tyV (kV k) ∧ WE X tx Γ2 fun W Γ3 => κ ((lookT kvs k).getD W) Γ3) : WE X (tDGet2 td ty tx) Γ κ := fun σ B H s xo Q q =>
  h σ B H s xo _ fun v B1 H1 T Γ1 k1 s1 b1 t1 => by
    obtain ⟨kvs, rfl, k1⟩ := k1
    obtain ⟨a, ws, rfl, e1, e2, e3⟩ := t1
    refine ⟨a, rfl, .inl ⟨ws, .inl (s1.bh _ _ e1)⟩, k1 σ B1 H1 s1 (xo.after b1) _ fun y B2 H2 U Γ2 k2 s2 b2 t2 => ?_⟩
    obtain ⟨k, rfl, k2⟩ := k2
    cases t2
    refine k2 σ B2 H2 s2 (xo.after (b1.trans b2)) _ fun z B3 H3 W Γ3 k3 s3 b3 t3 => ?_
    have e1' := s3.bh _ _ (b3.same _ _ (b2.same _ _ e1))
    refine ⟨valV ws k, .k e1', ?_⟩
    cases l : lookT kvs k with
    | none =>
      have : valV ws k = none := by
        clear e1 e1' e3 k3 k2 t3 s3 b3 k1 h q xo
        induction ws generalizing kvs with
        | nil => rfl
        | cons x r ih =>
          cases kvs with
          | nil => cases e2
          | cons y z =>
            obtain ⟨yk, yt⟩ := y
            obtain ⟨xk, xv⟩ := x
            simp only [List.map_cons, List.cons.injEq] at e2
            obtain ⟨e0, e2⟩ := e2
            subst e0
            by_cases q : xk = k
            · simp [lookT, q] at l
            · simp only [lookT, q, if_false] at l
              have := ih z e2 l
              simpa [valV, q] using this
      rw [this]
      rw [l] at k3
      exact q z B3 H3 W Γ3 k3 s3 ((b1.trans b2).trans b3) t3
    | some V =>
      obtain ⟨x, v1, v2⟩ := lookT_val e2 e3 l
      rw [v1]
      rw [l] at k3
      exact q x B3 H3 V Γ3 k3 s3 ((b1.trans b2).trans b3) (V.mono (b2.same.trans b3.same) v2)
end
end DL
set_option Elab.async false
set_option linter.all false
set_option maxRecDepth 100000
set_option maxHeartbeats 2000000
/-! the second layer: the thing that a method changes (slot me) -/
namespace DL
open PySem L2 Lx
def putT (f : Str) (T : Ty) : List (Str × Ty) → List (Str × Ty)
  | [] => [(f, T)]
  | (g, U) :: r => if g = f then (g, T) :: r else (g, U) :: putT f T r
theorem put_ok {f : Str} {T : Ty} {v : V} {B : Hp} (t : T.ok v B) : ∀ {fs : List (Str × Ty)} {ws : List (Str × V)}, ws.map Prod.fst = fs.map Prod.fst → TyAll (fs.map Prod.snd) (ws.map Prod.snd) B → (putF f v ws).map Prod.fst = (putT f T fs).map Prod.fst ∧ TyAll ((putT f T fs).map Prod.snd) ((putF f v ws).map Prod.snd) B
  | [], [], _, _ => ⟨rfl, t, trivial⟩
  | [], _ :: _, e, _ => by cases e
  | _ :: _, [], e, _ => by cases e
  | (g, U) :: r, (g', w) :: r', e, h => by
    simp only [List.map_cons, List.cons.injEq] at e
    obtain ⟨e0, e⟩ := e
    subst e0
    show (List.map Prod.fst (if g' = f then (g', v) :: r' else (g', w) :: putF f v r')) = List.map Prod.fst (if g' = f then (g', T) :: r else (g', U) :: putT f T r) ∧ TyAll (List.map Prod.snd (if g' = f then (g', T) :: r else (g', U) :: putT f T r)) (List.map Prod.snd (if g' = f then (g', v) :: r' else (g', w) :: putF f v r')) B
    by_cases q : g' = f
    · rw [if_pos q, if_pos q, List.map_cons, List.map_cons, e]
      exact ⟨rfl, t, h.2⟩
    · rw [if_neg q, if_neg q]
      obtain ⟨i1, i2⟩ := put_ok t e h.2
      exact ⟨by rw [List.map_cons, List.map_cons, i1], h.1, i2⟩
section
variable {X : Xn} {Γ : List Slot} {κ : Ty → List Slot → Prop} {κs : En} {K : PySem.W.Frag} {C : Addr} {i : Nat} {f : Str}
/-- self.f -/
theorem WE.fldM {fs : List (Str × Ty)} {U : Ty} (h0 : Γ[i]? = some (.me (mO C fs))) (cl : Cls K C) (na : NoAttr K C f) (l : fs.lookup f = some U) (k : κ U Γ) : WE X (tFld K (tVar i) f) Γ κ := fun σ B H s xo Q q => by
  obtain ⟨a, o, e1, e2, e3, dx, ws, rfl, e4, e5⟩ := s.own i _ _ h0 rfl
  obtain ⟨x, h1, h2⟩ := lookF e4 e5 l
  exact ⟨.ref a, e1, a, C, dx, ws, x, rfl, e2, cl, na, h1, q x B H U Γ k s (.refl s.bh) h2⟩
/-- self.f = e -/
theorem WS.setFldM {te : TE} (cl : Cls K C) (na : NoAttr K C f) (h : WE X te Γ fun T Γ1 => ∃ fs, Γ1[i]? = some (.me (mO C fs)) ∧ fs.length < 1000 ∧ κs.nx (Γ1.set i (.me (mO C (putT f T fs))))) : WS X (sFld K (tVar i) te f) Γ κs := fun σ B H s xo D m =>
  h σ B H s xo _ fun v B1 H1 T Γ1 k1 s1 b1 t1 => by
    obtain ⟨fs, h0, few, k⟩ := k1
    obtain ⟨a, o, e1, e2, e3, dx, ws, rfl, e4, e5⟩ := s1.own i _ _ h0 rfl
    have len := congrArg List.length e4
    rw [List.length_map, List.length_map] at len
    obtain ⟨p1, p2⟩ := put_ok (f := f) t1 e4 e5
    have ch := s1.change (S' := .me (mO C (putT f T fs))) (o := .ins C dx (putF f v ws)) h0 rfl rfl e1 ⟨dx, _, rfl, p1, p2⟩ (fun _ => rfl)
    exact ⟨.ref a, e1, a, C, dx, ws, rfl, e2, cl, na, by omega, m.nx σ B1 _ _ k ch.1 (b1.trans ch.2)⟩
/-- self.f op= e -/
theorem WS.augFldM {te : TE} {rd : V → V → Hp → VK → Prop} {fs : List (Str × Ty)} {U : Ty} (cl : Cls K C) (na : NoAttr K C f) (h0 : Γ[i]? = some (.me (mO C fs))) (l : fs.lookup f = some U)
    (h : WE X te Γ fun T Γ1 => R2w rd U T fun W => ∃ gs, Γ1[i]? = some (.me (mO C gs)) ∧ gs.length < 1000 ∧ κs.nx (Γ1.set i (.me (mO C (putT f W gs))))) : WS X (sFldAug K (tVar i) te rd f) Γ κs := fun σ B H s xo D m => by
  obtain ⟨a, o, e1, e2, e3, dx, ws, rfl, e4, e5⟩ := s.own i _ _ h0 rfl
  obtain ⟨x, h1, h2⟩ := lookF e4 e5 l
  refine ⟨.ref a, e1, a, C, dx, ws, x, rfl, e2, cl, na, h1, h σ B H s xo _ fun y B1 H1 T Γ1 k1 s1 b1 t1 => k1 x y B1 H1 _ s1.bh (U.mono b1.same h2) t1 fun z B2 H2 W k2 e t2 => ?_⟩
  obtain ⟨gs, g0, few, k⟩ := k2
  have s2 := s1.step e
  obtain ⟨a', o', f1, f2, f3, dx', us, rfl, f4, f5⟩ := s2.own i _ _ g0 rfl
  rw [e1] at f1
  cases f1
  have len := congrArg List.length f4
  rw [List.length_map, List.length_map] at len
  obtain ⟨p1, p2⟩ := put_ok (f := f) t2 f4 f5
  have ch := s2.change (S' := .me (mO C (putT f W gs))) (o := .ins C dx' (putF f z us)) g0 rfl rfl e1 ⟨dx', _, rfl, p1, p2⟩ (fun _ => rfl)
  exact ⟨dx', us, f2, by omega, m.nx σ B2 _ _ k ch.1 ((b1.trans e.go).trans ch.2)⟩
end
/-! instances made by any statements -/
section
variable {α : Type} {c : α → Cs} {N : List Str} {us : List V} {H : Hp} {Q : VK} {E : XK} {C : Addr}
theorem run_newS {t : TS} (hl : ∀ x, (c x).args.length + 1 ≤ N.length) (h : spNew C c us H Q E)
    (body : ∀ x : α, (c x).pre → WS ⟨fun _ => E, fun C f T _ => (c x).out (.exc C f T)⟩ t (start8 N (.me (mO C []) :: (c x).args.map .is)) { nx := fun Γ' => ∃ fs, Γ'[0]? = some (.me (mO C fs)) ∧ (c x).out (.ret (tyO C fs)), rt := fun _ _ => False }) :
    t { nx := fun _ H' => Q .non H', rt := Q } (L2.start N us) H := by
  obtain ⟨z, B, H0, x, dx, us, rfl, nx, nd, ne, rfl, bh, ta, hp, ho⟩ := h
  have bx : B x = none := base_none bh nx
  have keep : ∀ a o, H0 a = some o → a ≠ x ∧ upd (upd H0 dx (.own x)) x (.ins C dx []) a = some o := fun a o e => by
    have n1 : a ≠ x := fun z => by rw [z, nx] at e; cases e
    have n2 : a ≠ dx := fun z => by rw [z, nd] at e; cases e
    exact ⟨n1, by rw [upd_ne n1, upd_ne n2]; exact e⟩
  have bh' : Same B (upd (upd H0 dx (.own x)) x (.ins C dx [])) := fun a o e => (keep a o (bh a o e)).2
  have sa : Sat (L2.start N (.ref x :: us)) B (upd (upd H0 dx (.own x)) x (.ins C dx [])) (start8 N (.me (mO C []) :: (c z).args.map .is)) := sat_start (Ts := (c z).args) bh' (by rw [List.length_cons, ta.length]; exact hl z) (by rw [List.length_cons, List.length_cons, List.length_map, ta.length]) (fun i T q => by
    cases i with
    | zero => cases q
    | succ i =>
      rw [List.getElem?_cons_succ, List.getElem?_map] at q
      cases e : (c z).args[i]? with
      | none => rw [e] at q; cases q
      | some U =>
        rw [e] at q
        cases q
        exact ta.get e) (fun i S' M q hm => by
    cases i with
    | zero =>
      cases q
      cases hm
      exact ⟨rfl, x, _, rfl, upd_same, bx, dx, [], rfl, rfl, trivial⟩
    | succ i =>
      rw [List.getElem?_cons_succ, List.getElem?_map] at q
      cases e : (c z).args[i]? with
      | none => rw [e] at q; cases q
      | some U =>
        rw [e] at q
        cases q
        cases hm)
  have st0 : (L2.start N (.ref x :: us))[0]? = some (some (V.ref x)) := rfl
  have no : ∀ a, a ≠ x → ¬ Own (L2.start N (.ref x :: us)) (start8 N (.me (mO C []) :: (c z).args.map .is)) a := fun a n ⟨i, S, M, h1, h2, h3⟩ => by
    cases i with
    | zero =>
      rw [st0] at h3
      cases h3
      exact n rfl
    | succ i =>
      unfold start8 at h1
      rcases Nat.lt_or_ge (i + 1) (Slot.me (mO C []) :: (c z).args.map Slot.is).length with q | q
      · rw [List.getElem?_append_left q, List.getElem?_cons_succ, List.getElem?_map] at h1
        cases e : (c z).args[i]? with
        | none => rw [e] at h1; cases h1
        | some U =>
          rw [e] at h1
          cases h1
          cases h2
      · rw [List.getElem?_append_right q] at h1
        rw [List.eq_of_mem_replicate (List.mem_of_getElem? h1)] at h2
        cases h2
  have ef : ∀ {σ' : L2.St} {Γ' : List Slot} {B' H' : Hp}, Go (L2.start N (.ref x :: us)) (start8 N (.me (mO C []) :: (c z).args.map .is)) B (upd (upd H0 dx (.own x)) x (.ins C dx [])) σ' Γ' B' H' → Eff [] B H0 B' H' := fun {σ' Γ' B' H'} g =>
    have all : ∀ a o, H0 a = some o → H' a = some o := fun a o h => by
      cases e : B a with
      | none => exact (g.fr a o (keep a o h).2 e (no a (keep a o h).1)).1
      | some u =>
        have h2 := bh a u e
        rw [h] at h2
        cases h2
        exact g.bh a o (g.same a o e)
    ⟨g.same, g.bh, fun a o h e => (g.fr a o (keep a o h).2 e (no a (keep a o h).1)).2, fun a o _ h => all a o h, fun a o h => ⟨o, all a o h⟩⟩
  refine body z hp _ B _ sa (fun σ' v y B' H' C f T Γ' k s g ok n => ho _ k v y B' H' (ef g) ok n) _ ⟨fun σ' B' H' Γ' k s g => ?_, fun _ _ _ _ _ _ z => z.elim, fun _ _ _ _ z => z.elim, fun _ _ _ _ z => z.elim⟩
  obtain ⟨fs, e0, k⟩ := k
  obtain ⟨b0, _⟩ := g.bg 0 _ e0 rfl
  obtain ⟨a, o, e1, e2, e3, dx', ws, rfl, e4, e5⟩ := s.own 0 _ _ e0 rfl
  have e1' := e1
  rw [b0, st0] at e1'
  cases e1'
  obtain ⟨s', b⟩ := s.freezeM e0 rfl e1 e2
  exact ho _ k _ H' (ef (g.trans b)) ⟨x, dx', ws, rfl, upd_same, e4, e5.mono b.same⟩
end
end DL
set_option Elab.async false
set_option linter.all false
set_option maxRecDepth 100000
set_option maxHeartbeats 2000000
/-! the second layer: C(b, k = v, ..) and C(b, **m) where `__init__` takes (self, n = dv, **m) -/
namespace DL
open PySem L2 Lx
/-- such an `__init__`; its own dict is the second argument of c -/
def spKw {α : Type} (C : Addr) (n : Str) (dv : V) (c : α → Cs) : SpW := fun vs kvs H Q E => ∃ ws rest, G2 "self" n dv vs kvs ws rest ∧ rest.length ≤ sizeLine ∧ ∀ d, H d = none → spNew C c (ws ++ [V.ref d]) (upd H d (.dK (kwK rest))) Q E
/-- how the arguments are bound: b the one named n, rs the others -/
def KwT (n : Str) (dv : V) (ks : List Str) (Ts Us : List Ty) (b : Ty) (rs : List (Str × Ty)) : Prop :=
  (Ts = [] ∧ b = tyV dv ∧ rs = ks.zip Us) ∨ (Ts = [b] ∧ rs = ks.zip Us) ∨ (Ts = [] ∧ ∃ ks' Us', ks = n :: ks' ∧ Us = b :: Us' ∧ rs = ks'.zip Us')
abbrev kwD (rs : List (Str × Ty)) : Ty := tyD (rs.map fun p => ((Sum.inr p.1 : Key), p.2))
section
variable {X : Xn} {Γ : List Slot} {κ : Ty → List Slot → Prop} {K : PySem.W.Frag} {α : Type} {C : Addr} {c : α → Cs} {E : XK} {n : Str} {dv : V}
theorem kw_new {σ : L2.St} {B H : Hp} {x dx : Addr} {bv : V} {b : Ty} {rest : List (Str × V)} {rs : List (Str × Ty)} {Q : VK} (hE : ∀ σ, X.E σ = E) (s : Sat σ B H Γ) (xo : ExOk X σ Γ B H) (nx : H x = none) (nd : H dx = none) (ne : dx ≠ x)
    (tb : b.ok bv B) (e : rest.map Prod.fst = rs.map Prod.fst) (tr : TyAll (rs.map Prod.snd) (rest.map Prod.snd) B) (hm : Meets c [b, kwD rs] (Post X κ Γ))
    (q : ∀ (v : V) (B' H' : Hp) (T : Ty), κ T Γ → Sat σ B' H' Γ → Go σ Γ B H σ Γ B' H' → T.ok v B' → Q v H') :
    ∀ d, upd (upd H dx (.own x)) x (.ins C dx []) d = none → spNew C c ([.ref x, bv] ++ [V.ref d]) (upd (upd (upd H dx (.own x)) x (.ins C dx [])) d (.dK (kwK rest))) (fun v H3 => v = .non ∧ Q (.ref x) H3) E := fun d hd => by
  have d1 : d ≠ x := fun z => by rw [z, upd_same] at hd; cases hd
  rw [upd_ne d1] at hd
  have d2 : d ≠ dx := fun z => by rw [z, upd_same] at hd; cases hd
  rw [upd_ne d2] at hd
  have ef : Eff [] B H (upd B d (.dK (kwK rest))) (upd H d (.dK (kwK rest))) := .new s.bh hd
  have comm : upd (upd (upd H dx (.own x)) x (.ins C dx [])) d (.dK (kwK rest)) = upd (upd (upd H d (.dK (kwK rest))) dx (.own x)) x (.ins C dx []) := by
    funext y
    by_cases y1 : y = d
    · rw [y1, upd_same, upd_ne d1, upd_ne d2, upd_same]
    · rw [upd_ne y1]
      by_cases y2 : y = x
      · rw [y2, upd_same, upd_same]
      · rw [upd_ne y2, upd_ne y2]
        by_cases y3 : y = dx
        · rw [y3, upd_same, upd_same]
        · rw [upd_ne y3, upd_ne y3, upd_ne y1]
  rw [comm, ← hE σ]
  have kd : (kwD rs).ok (.ref d) (upd B d (.dK (kwK rest))) := by
    refine ⟨d, kwK rest, rfl, upd_same, ?_, ?_⟩
    · rw [List.map_map, List.map_map]
      have := congrArg (List.map (Sum.inr : Str → Key)) e
      rw [List.map_map, List.map_map] at this
      exact this
    · rw [List.map_map, List.map_map]
      exact tr.mono ef.bb
  exact apply_new (s.step ef) (xo.after ef.go) (vs := [bv, .ref d]) (Ts := [b, kwD rs]) ⟨b.mono ef.bb tb, kd, trivial⟩ hm (by rw [upd_ne (Ne.symm d1)]; exact nx) (by rw [upd_ne (Ne.symm d2)]; exact nd) ne fun v B' H' T k s' g' ok => q v B' H' T k s' (ef.go.trans g') ok
theorem WE.makeK {g : L2.St → Prop} {ks : List Str} {t tk : TA} (hE : ∀ σ, X.E σ = E) (hg : ∀ σ B H, Sat σ B H Γ → g σ)
    (h : WA X t Γ fun Ts Γ1 => WA X tk Γ1 fun Us Γ2 => Us.length = ks.length ∧ ∃ (b : Ty) (rs : List (Str × Ty)), KwT n dv ks Ts Us b rs ∧ (∀ q ∈ rs, q.1 ≠ "self" ∧ q.1 ≠ n) ∧ rs.length ≤ 60 ∧ Meets c [b, kwD rs] (Post X κ Γ2)) : WE X (tMakeW C g ks (spKw C n dv c) E t tk) Γ κ := fun σ B H s xo Q q =>
  ⟨hg σ B H s, h σ B H s xo _ fun vs B1 H1 Ts Γ1 k1 s1 b1 t1 => k1 σ B1 H1 s1 (xo.after b1) _ fun zs B2 H2 Us Γ2 k2 s2 b2 t2 x dx nx nd ne => by
    obtain ⟨hl, b, rs, hk, hn, hs, hm⟩ := k2
    have lz := t2.length
    have xo2 := (xo.after b1).after b2
    have fin : ∀ (v : V) (B' H' : Hp) (T : Ty), κ T Γ2 → Sat σ B' H' Γ2 → Go σ Γ2 B2 H2 σ Γ2 B' H' → T.ok v B' → Q v H' := fun v B' H' T k s' g' ok => q v B' H' T Γ2 k s' ((b1.trans b2).trans g') ok
    have zz : ∀ {ks : List Str} {Us : List Ty} {zs : List V}, TyAll Us zs B2 → Us.length = ks.length → (ks.zip zs).map Prod.fst = (ks.zip Us).map Prod.fst ∧ TyAll ((ks.zip Us).map Prod.snd) ((ks.zip zs).map Prod.snd) B2 := fun {ks Us zs} t e => by
      have e2 := t.length
      rw [List.map_fst_zip (by omega), List.map_fst_zip (by omega), List.map_snd_zip (by omega), List.map_snd_zip (by omega)]
      exact ⟨rfl, t⟩
    have names : ∀ {rest : List (Str × V)}, rest.map Prod.fst = rs.map Prod.fst → (∀ q ∈ rest, q.1 ≠ "self" ∧ q.1 ≠ n) ∧ rest.length ≤ sizeLine := fun {rest} e => by
      refine ⟨fun q hq => ?_, ?_⟩
      · have : q.1 ∈ rs.map Prod.fst := by rw [← e]; exact List.mem_map.mpr ⟨q, hq, rfl⟩
        obtain ⟨p, hp, ep⟩ := List.mem_map.mp this
        rw [← ep]
        exact hn p hp
      · have := congrArg List.length e
        rw [List.length_map, List.length_map] at this
        rw [sizeLine_eq]
        omega
    rcases hk with ⟨rfl, rfl, rfl⟩ | ⟨rfl, rfl⟩ | ⟨rfl, ks', Us', rfl, rfl, rfl⟩
    · cases vs with
      | cons _ _ => exact t1.elim
      | nil =>
        obtain ⟨z1, z2⟩ := zz t2 hl
        exact ⟨[.ref x, dv], ks.zip zs, ⟨(names z1).1, .inl ⟨.ref x, rfl, rfl, rfl⟩⟩, (names z1).2, kw_new hE s2 xo2 nx nd ne rfl z1 z2 hm fin⟩
    · obtain ⟨v, rfl, tv⟩ := vals_one t1
      obtain ⟨z1, z2⟩ := zz t2 hl
      exact ⟨[.ref x, v], ks.zip zs, ⟨(names z1).1, .inr (.inl ⟨.ref x, v, rfl, rfl, rfl⟩)⟩, (names z1).2, kw_new hE s2 xo2 nx nd ne (b.mono b2.same tv) z1 z2 hm fin⟩
    · cases vs with
      | cons _ _ => exact t1.elim
      | nil =>
        cases zs with
        | nil => exact t2.elim
        | cons z zs =>
          obtain ⟨z1, z2⟩ := zz t2.2 (by simpa using hl)
          exact ⟨[.ref x, z], ks'.zip zs, ⟨(names z1).1, .inr (.inr ⟨.ref x, z, rfl, rfl, rfl⟩)⟩, (names z1).2, kw_new hE s2 xo2 nx nd ne t2.1 z1 z2 hm fin⟩⟩
/-- C(b, **m), m the dict in slot i -/
theorem WE.makeKM {g : L2.St → Prop} {i : Nat} {t : TA} (hE : ∀ σ, X.E σ = E) (hg : ∀ σ B H, Sat σ B H Γ → g σ)
    (h : WA X t Γ fun Ts Γ1 => ∃ (b : Ty) (rs : List (Str × Ty)), Ts = [b] ∧ Γ1[i]? = some (.is (kwD rs)) ∧ (∀ q ∈ rs, q.1 ≠ "self" ∧ q.1 ≠ n) ∧ rs.length ≤ 60 ∧ Meets c [b, kwD rs] (Post X κ Γ1)) : WE X (tMakeM C g i (spKw C n dv c) E t) Γ κ := fun σ B H s xo Q q =>
  ⟨hg σ B H s, h σ B H s xo _ fun vs B1 H1 Ts Γ1 k1 s1 b1 t1 => by
    obtain ⟨b, rs, rfl, hi, hn, hs, hm⟩ := k1
    obtain ⟨v, rfl, tv⟩ := vals_one t1
    obtain ⟨u, eu, a, ws, rfl, ea, ek, tw⟩ := s1.is_ i _ hi
    rw [List.map_map] at ek tw
    have conv : ∀ {ws : List (Key × V)} {rs : List (Str × Ty)}, ws.map Prod.fst = rs.map (fun p => (Sum.inr p.1 : Key)) → ∃ kvs : List (Str × V), ws = kwK kvs ∧ kvs.map Prod.fst = rs.map Prod.fst ∧ kvs.map Prod.snd = ws.map Prod.snd := fun {ws} => by
      induction ws with
      | nil => exact fun {rs} e => ⟨[], rfl, (by cases rs with
        | nil => rfl
        | cons _ _ => cases e), rfl⟩
      | cons w r ih =>
        intro rs e
        cases rs with
        | nil => cases e
        | cons p rs =>
          simp only [List.map_cons, List.cons.injEq] at e
          obtain ⟨kvs, k1, k2, k3⟩ := ih e.2
          obtain ⟨wk, wv⟩ := w
          obtain rfl : wk = Sum.inr p.1 := e.1
          exact ⟨(p.1, wv) :: kvs, by rw [k1]; rfl, by rw [List.map_cons, List.map_cons, k2], by rw [List.map_cons, List.map_cons, k3]⟩
    obtain ⟨kvs, rfl, k2, k3⟩ := conv ek
    refine ⟨a, kvs, eu, .inl (s1.bh _ _ ea), fun x dx nx nd ne => ?_⟩
    have tw : TyAll (rs.map Prod.snd) (kvs.map Prod.snd) B1 := by rw [k3]; exact tw
    refine ⟨[.ref x, v], kvs, ⟨fun q hq => ?_, .inr (.inl ⟨.ref x, v, rfl, rfl, rfl⟩)⟩, ?_, kw_new hE s1 (xo.after b1) nx nd ne tv k2 tw hm fun v B' H' T k s' g' ok => q v B' H' T Γ1 k s' (b1.trans g') ok⟩
    · have : q.1 ∈ rs.map Prod.fst := by rw [← k2]; exact List.mem_map.mpr ⟨q, hq, rfl⟩
      obtain ⟨p, hp, ep⟩ := List.mem_map.mp this
      rw [← ep]
      exact hn p hp
    · have := congrArg List.length k2
      rw [List.length_map, List.length_map] at this
      rw [sizeLine_eq]
      omega⟩
end
end DL
set_option Elab.async false
set_option linter.all false
set_option maxRecDepth 100000
set_option maxHeartbeats 2000000
/-! the second layer: *xs among the arguments or in a display; slices from a place on -/
namespace DL
open PySem L2 Lx StX
section
variable {X : Xn} {Γ : List Slot} {K : PySem.W.Frag}
theorem WA.star {κ : List Ty → List Slot → Prop} {te : TE} {tr : TA} (h : WE X te Γ fun T Γ1 => ∃ ts, Sq K T ts ∧ WA X tr Γ1 fun Ts Γ2 => κ (ts ++ Ts) Γ2) : WA X (tStar K te tr) Γ κ := fun σ B H s xo Q q =>
  h σ B H s xo _ fun v B1 H1 T Γ1 k1 s1 b1 t1 => by
    obtain ⟨ts, hq, k1⟩ := k1
    rcases hq with rfl | rfl
    · obtain ⟨a, xs, rfl, e1, e2⟩ := t1
      exact ⟨a, xs, rfl, .inr (SqL.of (s1.bh _ _ e1)), k1 σ B1 H1 s1 (xo.after b1) _ fun ys B2 H2 Ts Γ2 k2 s2 b2 t2 => q _ B2 H2 _ Γ2 k2 s2 (b1.trans b2) ((e2.mono b2.same).append t2)⟩
    · obtain ⟨a, xs, rfl, e1, e2⟩ := t1
      exact ⟨a, xs, rfl, .inl (seqT_same s1.bh e1), k1 σ B1 H1 s1 (xo.after b1) _ fun ys B2 H2 Ts Γ2 k2 s2 b2 t2 => q _ B2 H2 _ Γ2 k2 s2 (b1.trans b2) ((e2.mono b2.same).append t2)⟩
/-- what cannot raise, wherever exceptions go -/
theorem WE.noX {κ : Ty → List Slot → Prop} {t : TE} (E' : L2.St → XK) (h : WE ⟨E', fun _ _ _ _ => False⟩ t Γ κ) : WE X t Γ κ := fun σ B H s xo Q q => h σ B H s (fun _ _ _ _ _ _ _ _ _ z => z.elim) Q q
theorem _root_.DL.Sat.frz {σ : L2.St} {B H : Hp} {i : Nat} {ts : List Ty} (s : Sat σ B H Γ) (h : Γ[i]? = some (.own (mL ts))) : ∃ B', Sat σ B' H (Γ.set i (.is (tyL ts))) ∧ Go σ Γ B H σ (Γ.set i (.is (tyL ts))) B' H := by
  obtain ⟨a, o, h1, h2, h3, ⟨xs, rfl, h4⟩⟩ := s.own i _ _ h rfl
  obtain ⟨s', b⟩ := s.freeze h h1 h2
  have s2 := s'.put (i := i) (v := .ref a) (T := tyL ts) ⟨a, xs, rfl, upd_same, h4.mono b.same⟩
  have g2 : Go σ (Γ.set i Slot.no) _ H (σ.set i (some (V.ref a))) ((Γ.set i Slot.no).set i (.is (tyL ts))) _ H := go_put0 s'.bh rfl
  have es : σ.set i (some (V.ref a)) = σ := by
    refine List.ext_getElem? fun k => ?_
    by_cases e : i = k
    · subst e
      rw [List.getElem?_set_self (by rw [s.len]; exact (List.getElem?_eq_some_iff.mp h).1), h1]
    · rw [List.getElem?_set_ne e]
  rw [es, List.set_set] at s2 g2
  exact ⟨_, s2, b.trans g2⟩
theorem WE.frz {κ : Ty → List Slot → Prop} {t : TE} (i : Nat) {ts : List Ty} (h : Γ[i]? = some (.own (mL ts))) (k : WE X t (Γ.set i (.is (tyL ts))) κ) : WE X t Γ κ := fun σ B H s xo Q q => by
  obtain ⟨B', s', g⟩ := s.frz h
  exact k σ B' H s' (xo.after g) Q fun v B2 H2 T Γ2 kk s2 g2 ok => q v B2 H2 T Γ2 kk s2 (g.trans g2) ok
theorem WT.frz {κ : Bool → List Slot → Prop} {t : TT} (i : Nat) {ts : List Ty} (h : Γ[i]? = some (.own (mL ts))) (k : WT X t (Γ.set i (.is (tyL ts))) κ) : WT X t Γ κ := fun σ B H s xo Q q => by
  obtain ⟨B', s', g⟩ := s.frz h
  exact k σ B' H s' (xo.after g) Q fun b B2 H2 Γ2 kk s2 g2 => q b B2 H2 Γ2 kk s2 (g.trans g2)
theorem WT.imp {t : TT} {κ κ' : Bool → List Slot → Prop} (h : WT X t Γ κ') (i : ∀ b Γ', κ' b Γ' → κ b Γ') : WT X t Γ κ := fun σ B H s xo Q q => h σ B H s xo Q fun b B' H' Γ' k => q b B' H' Γ' (i b Γ' k)
theorem WS.start {σ : L2.St} {B H : Hp} {κs : En} {t : TS} {D : Ends} (s : Sat σ B H Γ) (xo : ExOk X σ Γ B H) (h : WS X t Γ κs) (m : Met σ Γ B H κs D) : t D σ H := h σ B H s xo D m
/-- xs[i] as a target among others, xs a list of our own -/
theorem WG.setItem {i : Nat} {ti : TE} {T : Ty} {ts : List Ty} {κ : List Slot → Prop} (h0 : Γ[i]? = some (.own (mL ts))) (h : WE ⟨fun _ => E0, fun _ _ _ _ => False⟩ ti Γ fun U Γ2 => ∃ (j : Int) (n : Nat), U = tyI j ∧ ixN ts.length j = some n ∧ Γ2[i]? = some (.own (mL ts)) ∧ κ (Γ2.set i (.own (mL (ts.set n T))))) : WG (gSub (tVar i) ti rSetL) T Γ κ := fun σ B H v s t q c => by
  obtain ⟨a, o, f1, f2, f3, ⟨xs, rfl, f4⟩⟩ := s.own i _ _ h0 rfl
  refine ⟨.ref a, f1, h σ B H s (fun _ _ _ _ _ _ _ _ _ z => z.elim) _ fun u B2 H2 U Γ2 k2 s2 b2 t2 => ?_⟩
  obtain ⟨j, n, rfl, ix, e2, k⟩ := k2
  cases t2
  obtain ⟨a', o', g1, g2, g3, ⟨ys, rfl, g4⟩⟩ := s2.own i _ _ e2 rfl
  rw [f1] at g1
  cases g1
  have ch := s2.change (S' := .own (mL (ts.set n T))) e2 rfl rfl f1 ⟨ys.set n v, rfl, TyAll.set (T.mono b2.same t) n g4⟩ nofun
  exact ⟨a, ys, j, n, rfl, rfl, g2, by rw [g4.length]; exact ix, c σ B2 _ _ k ch.1 (b2.trans ch.2)⟩
theorem WO.split {to te : TE} {κ : MTy → List Slot → Prop} (h : WE X to Γ fun T Γ1 => ∃ a : Str, T = tyS a ∧ WE X te Γ1 fun U Γ2 => ∃ b : Str, U = tyS b ∧ (b.length == 0) = false ∧ a.length + 2 ≤ sizeLine ∧ κ (mL ((Txt.split a b).map tyS)) Γ2) : WO X (tM1 (fun x xs H Q => ∃ a b, x = V.str a ∧ xs = [V.str b] ∧ (b.length == 0) = false ∧ a.length + 2 ≤ sizeLine ∧ rNewStrs (Txt.split a b) H Q) to te) Γ κ := fun σ B H s xo Q q =>
  h σ B H s xo _ fun x B1 H1 T Γ1 k1 s1 b1 t1 => by
    obtain ⟨z, rfl, k1⟩ := k1
    refine ⟨⟨z, t1⟩, k1 σ B1 H1 s1 (xo.after b1) _ fun y B2 H2 U Γ2 k2 s2 b2 t2 => ?_⟩
    obtain ⟨b, rfl, h1, h2, k⟩ := k2
    cases t1
    cases t2
    exact ⟨z, b, rfl, rfl, h1, h2, fun p np => q p _ B2 H2 _ Γ2 k s2 (b1.trans b2) np ⟨_, rfl, by rw [strs_map]; exact .ofVals _⟩⟩
theorem rm_upper {κ : Ty → Prop} {a : Str} (h : a.length ≤ 5592405) (k : κ (tyS (Txt.upper a))) : RC (fun vs H Q => ∃ x, vs = [x] ∧ (fun (x : V) (xs : List V) (H : Hp) (Q : VK) => ∃ a, x = V.str a ∧ xs = [] ∧ a.length ≤ 5592405 ∧ Q (.str (Txt.upper a)) H) x [] H Q) [tyS a] κ := fun vs B H Q bh t q => by
  obtain ⟨v, rfl, e⟩ := vals_one t
  cases e
  exact ⟨_, rfl, a, rfl, rfl, h, q _ B H _ k (.refl bh) rfl⟩
/-- t.index(z), t a tuple of texts -/
theorem WE.tupIx (K : PySem.W.Frag) {κ : Ty → List Slot → Prop} {to te : TE} (h : WE X to Γ fun T Γ1 => ∃ ss : List Str, T = tyF (ss.map tyS) ∧ WE X te Γ1 fun U Γ2 => ∃ (z : Str) (j : Nat), U = tyS z ∧ ss[j]? = some z ∧ (∀ m, m < j → ss[m]? ≠ some z) ∧ κ (tyI (j : Nat)) Γ2) : WE X (tTM (rTupIx K) to (tCons te tNil)) Γ κ := fun σ B H s xo Q q =>
  h σ B H s xo _ fun v B1 H1 T Γ1 k1 s1 b1 t1 => by
    obtain ⟨ss, rfl, k1⟩ := k1
    obtain ⟨a, o, xs, rfl, hH, hd, t2⟩ := t1
    rw [strs_map] at t2
    obtain rfl := t2.vals
    refine ⟨⟨a, o, _, rfl, s1.bh _ _ hH, hd⟩, k1 σ B1 H1 s1 (xo.after b1) _ fun u B2 H2 U Γ2 k2 s2 b2 t3 => ?_⟩
    obtain ⟨z, j, rfl, e1, e2, k⟩ := k2
    cases t3
    exact ⟨a, ss, z, j, rfl, rfl, .inl (.inr ⟨o, s2.bh _ _ (b2.same _ _ hH)⟩), e1, e2, q _ B2 H2 _ Γ2 k s2 (b1.trans b2) rfl⟩
theorem cutT_from {ts : List Ty} (k : Nat) : cutT ts (some (k : Int)) none = ts.drop k := by
  have e3 : HT.sIx ts.length 0 (some (k : Int)) = min k ts.length := by
    unfold HT.sIx
    simp only
    split <;> omega
  have e2 : HT.sIx ts.length ts.length none = ts.length := rfl
  unfold cutT
  rw [e2, e3]
  rcases Nat.le_total k ts.length with h | h
  · rw [Nat.min_eq_left h]
    exact List.take_of_length_le (by rw [List.length_drop]; exact Nat.le_refl _)
  · rw [Nat.min_eq_right h, List.drop_of_length_le (Nat.le_refl _), List.drop_of_length_le h]
    exact List.take_nil
theorem cutT_to {ts : List Ty} (k : Nat) : cutT ts none (some (k : Int)) = ts.take k := by
  have e3 : HT.sIx ts.length ts.length (some (k : Int)) = min k ts.length := by
    unfold HT.sIx
    simp only
    split <;> omega
  have e2 : HT.sIx ts.length 0 none = 0 := rfl
  unfold cutT
  rw [e2, e3, List.drop_zero, Nat.sub_zero]
  rcases Nat.le_total k ts.length with h | h
  · rw [Nat.min_eq_left h]
  · rw [Nat.min_eq_right h, List.take_of_length_le (Nat.le_refl _), List.take_of_length_le h]
end
end DL
namespace Lx
open PySem L2
variable {X : Cx} {K : PySem.W.Frag}
theorem op_notInTK (e : X.K = K) (hu : X.A.units + 65 < cLine) : OpR X (compareOp .NotIn) (rInT K true) := e ▸ op_notInT hu
theorem op_inTK (e : X.K = K) (hu : X.A.units + 65 < cLine) : OpR X (compareOp .In) (rInT K false) := e ▸ op_inT hu
theorem op_notInLK (e : X.K = K) (hu : X.A.units + 65 < cLine) : OpR X (compareOp .NotIn) (rInL K true) := e ▸ op_notInL hu
theorem pa_starK {e : Expr} {es : List Expr} {te : TE} {t : TA} {p : Pos} (eK : X.K = K) (he : PE X e te) (hr : PA X es t) (hs : starEach (.Starred e p :: es) X.env = (true, eval e X.env) :: starEach es X.env := by rfl) : PA X (.Starred e p :: es) (StX.tStar K te t) := eK ▸ StX.pa_star he hr hs
theorem call_isiK (e : X.K = K) : CallR X (.builtin "isinstance") (rIsi K) := e ▸ call_isi
theorem op_inLK (e : X.K = K) (hu : X.A.units + 65 < cLine) : OpR X (compareOp .In) (rInL K false) := e ▸ op_inL hu
end Lx
set_option Elab.async false
set_option linter.all false
set_option maxRecDepth 100000
set_option maxHeartbeats 2000000
/-! the second layer: [e for x in a for y in b(x)] -/
namespace DL
open PySem L2 Lx
section
variable {X : Xn} {Γ : List Slot} {vs vs1 : List Nat}
def Lc2Goal (α β : Type) (X : Xn) (g : TG) (wi1 : TI) (g1 : TG) (te : TE) (vs vs1 : List Nat) (κ : List Ty → List Slot → Prop) (Xs : List Ty) (Γ1 : List Slot) : Prop :=
  ∃ (ps : List α) (f : α → Ty) (qs : α → List β) (f1 : α → β → Ty) (F : α → β → Ty) (G2 : α → List Slot), Xs = ps.map f ∧ NoOwn vs Γ1 ∧ (ps.flatMap qs).length < sizeLine ∧
    (∀ p ∈ ps, NoOwn vs1 (G2 p) ∧ mrg vs Γ1 (G2 p) = Γ1 ∧ WC g (f p) (wipeG Γ1 vs) vs fun Γ2 => WI X wi1 Γ2 fun Ys Γ3 => Γ3 = G2 p ∧ Ys = (qs p).map (f1 p) ∧
      ∀ q ∈ qs p, WC g1 (f1 p q) (wipeG (G2 p) vs1) vs1 fun Γ4 => WE X te Γ4 fun U Γ5 => U = F p q ∧ mrg vs1 (G2 p) Γ5 = G2 p) ∧
    κ (ps.flatMap fun p => (qs p).map (F p)) Γ1
theorem flat_len {α β : Type} (ps : List α) (qs : α → List β) (F : α → β → Ty) : (ps.flatMap fun p => (qs p).map (F p)).length = (ps.flatMap qs).length := by
  rw [List.length_flatMap, List.length_flatMap]
  exact congrArg List.sum (List.map_congr_left fun p _ => by rw [List.length_map])
theorem flat_take {α β : Type} {ps : List α} {qs : α → List β} {i : Nat} {p : α} (e : ps[i]? = some p) : (ps.take (i + 1)).flatMap qs = (ps.take i).flatMap qs ++ qs p := by
  rw [List.take_add_one, e, List.flatMap_append]
  show _ ++ [p].flatMap qs = _
  rw [List.flatMap_cons, List.flatMap_nil, List.append_nil]
theorem flat_pre {α β : Type} (ps : List α) (qs : α → List β) (i : Nat) : ∃ r, ps.flatMap qs = (ps.take i).flatMap qs ++ r := ⟨(ps.drop i).flatMap qs, by rw [← List.flatMap_append, List.take_append_drop]⟩
theorem WO.lc2 (α β : Type) {wi wi1 : TI} {g g1 : TG} {te : TE} {κ : MTy → List Slot → Prop} (h : WI X wi Γ fun Xs Γ1 => Lc2Goal α β X g wi1 g1 te vs vs1 (fun ts => κ (mL ts)) Xs Γ1) : WO X (tLc2 wi g tYes wi1 g1 tYes te vs vs1) Γ κ := fun σ B H s xo Q q =>
  h σ B H s xo _ fun J B1 H1 Xs Γ1 k1 s1 b1 it D nD => by
    obtain ⟨ps, f, qs, f1, F, G2, rfl, no, hz, ht, kk⟩ := k1
    have nB : B1 D = none := base_none s1.bh nD
    have r0 : rem (upd H1 D (.lst [])) D = H1 := by rw [rem_upd, rem_none nD]
    have len : (ps.map f).length = ps.length := List.length_map ..
    let Inv : Nat → Hp → Prop := fun i H' => ∃ B' xs, Sat σ B' (DL.rem H' D) Γ1 ∧ Go σ Γ1 B1 H1 σ Γ1 B' (DL.rem H' D) ∧ B' D = none ∧ H' D = some (.lst xs) ∧ TyAll ((ps.take i).flatMap fun p => (qs p).map (F p)) xs B'
    refine ⟨fun i m' H' => m' = ps.length - i ∧ i ≤ ps.length ∧ Inv i H', ⟨ps.length, by simp, Nat.zero_le _, B1, [], by rw [r0]; exact s1, by rw [r0]; exact .refl s1.bh, nB, upd_same, by rw [List.take_zero]; trivial⟩, ?_⟩
    rintro i m' H' ⟨rfl, hi, B', xs, sr, br, nB', hD, hacc⟩
    have nO' : ¬ Own σ Γ1 D := fun z => by
      obtain ⟨o, e, _⟩ := z.of_step sr
      rw [rem_self] at e
      cases e
    have back : ∀ {τ : L2.St} {Δ : List Slot} {B2 H2 : Hp} {ys : List V}, Sat τ B2 (DL.rem H2 D) Δ → B2 D = none → H2 D = some (.lst ys) → Sat τ B2 H2 Δ ∧ Eff [] B2 (DL.rem H2 D) B2 H2 := fun {τ Δ B2 H2 ys} sr nB' hD => by
      have er : Eff [] B2 (DL.rem H2 D) B2 H2 := by
        have := Eff.newOwn (S := []) (o := .lst ys) sr.bh (p := D) rem_self
        rw [upd_rem hD] at this
        exact this
      exact ⟨sr.step er, er⟩
    obtain ⟨s', er⟩ := back sr nB' hD
    have b' : Go σ Γ1 B1 H1 σ Γ1 B' H' := br.trans er.go
    obtain ⟨g1', g2', g3'⟩ := it B' H' b'.same s'.bh
    rw [len] at g1' g2' g3'
    by_cases hlt : i < ps.length
    · refine .inr ⟨g1' i hlt, Inv (i + 1), fun H2 q => ⟨ps.length - (i + 1), by omega, rfl, hlt, q⟩, fun x H2 hy => ?_⟩
      obtain ⟨T, B2, e1, e2, e3⟩ := g3' i x H2 hlt hy
      rw [List.getElem?_map, List.getElem?_eq_getElem hlt] at e1
      cases e1
      have ep : ps[i]? = some ps[i] := List.getElem?_eq_getElem hlt
      generalize ps[i] = p at e3 ep
      obtain ⟨no1, em, hg⟩ := ht p (List.mem_of_getElem? ep)
      have s2 := s'.step e2
      have b2 : Go σ Γ1 B1 H1 σ Γ1 B2 H2 := b'.trans e2.go
      have xoD : ExOk X σ Γ1 B2 H2 := (xo.after b1).after b2
      have nD2 := e2.fr D _ hD nB'
      have hD2 := e2.ch D _ (by simp) hD
      refine hg (L2.wipe σ vs) B2 H2 x (s2.wipe vs) e3 _ fun σ3 B3 H3 Γ3 k3 s3 b3 w3 => ?_
      have w3' : L2.wipe σ3 vs = L2.wipe σ vs := w3.trans wipe_wipe
      have wg := Go.wipe (σ := σ) (Γ := Γ1) s2.bh vs
      refine ⟨w3', ?_⟩
      dsimp only [tYes]
      rw [if_pos rfl]
      refine k3 σ3 B3 H3 s3 (xoD.after (wg.trans b3)) _ fun J1 B4 H4 Ys Γ4 k4 s4 b4 it1 => ?_
      obtain ⟨rfl, rfl, hq⟩ := k4
      have len1 : ((qs p).map (f1 p)).length = (qs p).length := List.length_map ..
      have nw : ¬ Own (L2.wipe σ vs) (wipeG Γ1 vs) D := fun z => by
        rcases wg.ow D z with z | z
        · exact nO' z
        · rw [hD2] at z
          cases z
      have gin := b3.trans b4
      obtain ⟨hD4, nD4⟩ := gin.fr D _ hD2 nD2 nw
      have nO4 : ¬ Own σ3 (G2 p) D := fun z => by
        rcases gin.ow D z with z | z
        · exact nw z
        · rw [hD2] at z
          cases z
      have base4 : Go σ Γ1 B1 H1 σ3 (G2 p) B4 (DL.rem H4 D) := br.trans ((e2.go.trans (wg.trans gin)).rem nD4)
      have sr4 := s4.rem nD4 nO4
      -- the inner walk
      let Inv1 : Nat → Hp → Prop := fun j H' => ∃ B' xs, Sat σ3 B' (DL.rem H' D) (G2 p) ∧ Go σ3 (G2 p) B4 (DL.rem H4 D) σ3 (G2 p) B' (DL.rem H' D) ∧ B' D = none ∧ H' D = some (.lst xs) ∧ TyAll (((ps.take i).flatMap fun p => (qs p).map (F p)) ++ ((qs p).take j).map (F p)) xs B'
      refine ⟨fun j k H' => k = (qs p).length - j ∧ j ≤ (qs p).length ∧ Inv1 j H', ⟨(qs p).length, by simp, Nat.zero_le _, B4, xs, sr4, .refl sr4.bh, nD4, hD4, by rw [List.take_zero, List.map_nil, List.append_nil]; exact hacc.mono (e2.bb.trans gin.same)⟩, ?_⟩
      rintro j k H5 ⟨rfl, hj, B5, ys, sr5, br5, nB5, hD5, hacc5⟩
      obtain ⟨s5, er5⟩ := back sr5 nB5 hD5
      have xo5 : ExOk X σ3 (G2 p) B5 H5 := (xo.after b1).after (base4.trans (br5.trans er5.go))
      obtain ⟨t1, t2, t3⟩ := it1 B5 H5 br5.same s5.bh
      rw [len1] at t1 t2 t3
      by_cases hlt1 : j < (qs p).length
      · refine .inr ⟨t1 j hlt1, Inv1 (j + 1), fun H6 q => ⟨(qs p).length - (j + 1), by omega, rfl, hlt1, q⟩, fun x H6 hy => ?_⟩
        obtain ⟨T, B6, e1', e6, e3'⟩ := t3 j x H6 hlt1 hy
        rw [List.getElem?_map, List.getElem?_eq_getElem hlt1] at e1'
        cases e1'
        have eq : (qs p)[j]? = some (qs p)[j] := List.getElem?_eq_getElem hlt1
        generalize (qs p)[j] = q at e3' eq
        have hg1 := hq q (List.mem_of_getElem? eq)
        have s6 := s5.step e6
        have nD6 := e6.fr D _ hD5 nB5
        have hD6 := e6.ch D _ (by simp) hD5
        have nO5 : ¬ Own σ3 (G2 p) D := fun z => by
          obtain ⟨o, e, _⟩ := z.of_step sr5
          rw [rem_self] at e
          cases e
        have xo6 : ExOk X σ3 (G2 p) B6 H6 := xo5.after e6.go
        refine hg1 (L2.wipe σ3 vs1) B6 H6 x (s6.wipe vs1) e3' _ fun σ4 B7 H7 Γ4 k7 s7 b7 w7 => ?_
        have w7' : L2.wipe σ4 vs1 = L2.wipe σ3 vs1 := w7.trans wipe_wipe
        have wg1 := Go.wipe (σ := σ3) (Γ := G2 p) s6.bh vs1
        refine ⟨w7', ?_⟩
        rw [if_pos rfl]
        refine k7 σ4 B7 H7 s7 (xo6.after (wg1.trans b7)) _ fun y B8 H8 U Γ5 k8 s8 b8 t8 => ?_
        obtain ⟨rfl, em1⟩ := k8
        have nw1 : ¬ Own (L2.wipe σ3 vs1) (wipeG (G2 p) vs1) D := fun z => by
          rcases wg1.ow D z with z | z
          · exact nO5 z
          · rw [hD6] at z
            cases z
        have gin1 := b7.trans b8
        obtain ⟨hD8, nD8⟩ := gin1.fr D _ hD6 nD6 nw1
        have sm := Sat.merge s6 s8 w7' gin1.same no1
        have gm := Go.merge s6 s8 w7' gin1 no1
        rw [em1] at sm gm
        refine ⟨ys, hD8, ?_, B8, ys ++ [y], by rw [rem_upd]; exact sm.rem nD8 nO5, by rw [rem_upd]; exact br5.trans ((e6.go.trans gm).rem nD8), nD8, upd_same, ?_⟩
        · rw [hacc5.length, List.length_append, List.length_map, List.length_take, flat_len]
          obtain ⟨r, er⟩ := flat_pre ps qs (i + 1)
          have := congrArg List.length er
          rw [flat_take ep, List.length_append, List.length_append] at this
          omega
        · rw [List.take_add_one, eq, List.map_append, ← List.append_assoc]
          exact (hacc5.mono (e6.bb.trans gin1.same)).snoc t8
      · have e : j = (qs p).length := by omega
        subst e
        rw [List.take_length] at hacc5
        refine .inl ⟨t2, B5, ys, ?_, ?_, nB5, hD5, ?_⟩
        · have sm := Sat.merge s2 sr5 w3' (gin.same.trans br5.same) no
          rw [em] at sm
          exact sm
        · have gm := Go.merge (s2.rem nD2 nO') sr5 w3' ((gin.rem nD4).trans br5) no
          rw [em] at gm
          exact br.trans ((e2.go.rem nD2).trans gm)
        · rw [flat_take (qs := fun p => (qs p).map (F p)) ep]
          exact hacc5
    · have e : i = ps.length := by omega
      subst e
      rw [List.take_length] at hacc
      have qq := q D (.lst xs) B' (DL.rem H' D) (mL _) Γ1 kk sr (b1.trans br) rem_self ⟨xs, rfl, hacc⟩
      rw [upd_rem hD] at qq
      exact .inl ⟨g2', qq⟩
theorem WE.lc2 (α β : Type) {wi wi1 : TI} {g g1 : TG} {te : TE} {κ : Ty → List Slot → Prop} (h : WI X wi Γ fun Xs Γ1 => Lc2Goal α β X g wi1 g1 te vs vs1 (fun ts => κ (tyL ts)) Xs Γ1) : WE X (tLc2 wi g tYes wi1 g1 tYes te vs vs1) Γ κ :=
  WE.ofO (WO.lc2 (κ := fun M Γ' => ∃ ts, M = mL ts ∧ κ (tyL ts) Γ') α β fun σ B H s xo R r => h σ B H s xo R fun J B' H' Xs Γ1 k => r J B' H' Xs Γ1 (by
    obtain ⟨ps, f, qs, f1, F, G2, h1, h2, h3, h4, h5⟩ := k
    exact ⟨ps, f, qs, f1, F, G2, h1, h2, h3, h4, _, rfl, h5⟩))
end
end DL
set_option Elab.async false
set_option linter.all false
set_option maxRecDepth 100000
set_option maxHeartbeats 2000000
/-! a list or a tuple: walked, asked whether it has a thing -/
namespace Lx
open PySem PySem.Spec PyProof.Rows L2
section
variable {X : Cx} {K : PySem.W.Frag} {tg : Expr}
def iAny (K : PySem.W.Frag) (tl : TE) : TI := fun σ H R => tl σ H fun x H1 => ∃ a, x = .ref a ∧ (((∃ xs, SqL K H1 a xs) ∧ R (Itl K a) H1) ∨ ((∃ xs, SqT K H1 a xs) ∧ R (Itt K a) H1))
theorem pi_any {l : Expr} {tl : TE} (hl : PE X l tl) : PI X tg l (iAny X.K tl) := by
  refine ⟨fun pins s σ H R I h => ?_⟩
  refine thn (hl.run pins s σ H _ I h) fun v s1 ⟨x, H1, I1, r1, a, e, q1⟩ => ?_
  subst e
  cases r1
  have fresh : ∀ b ∈ [s1.heap.objs.size], FpOk X pins H1 b := fun b hb => by
    have e : b = s1.heap.objs.size := by simpa using hb
    subst e
    exact I1.fpOk (Nat.le_refl _) (I1.hok.fresh (Nat.le_refl _))
  rcases q1 with ⟨⟨xs, hq⟩, q⟩ | ⟨⟨xs, hq⟩, q⟩
  · obtain ⟨its, rv, p, hz⟩ := I1.list hq
    refine wpAny_pyIter_list p.isList ?_
    exact ⟨s1.heap.objs.size, [s1.heap.objs.size], _, _, H1, rfl, I1.kept (t' := s1.toks) fun b o e => Heap.get?_push_of_some _ e, turn_list a _, ⟨_, Heap.get?_push_size _ rfl, rfl, rfl⟩, fresh, q⟩
  · obtain ⟨its, rv, p, hz⟩ := I1.tuple hq
    refine wpAny_pyIter_tuple (show s1.heap.IsTuple a its.toArray from p) ?_
    exact ⟨s1.heap.objs.size, [s1.heap.objs.size], _, _, H1, rfl, I1.kept (t' := s1.toks) fun b o e => Heap.get?_push_of_some _ e, turn_tuple a _, ⟨_, Heap.get?_push_size _ rfl, rfl, rfl⟩, fresh, q⟩
theorem pi_anyK {l : Expr} {tl : TE} (e : X.K = K) (hl : PE X l tl) : PI X tg l (iAny K tl) := e ▸ pi_any hl
def rInS (K : PySem.W.Frag) (neg : Bool) : R2 := fun x y H Q => rInT K neg x y H Q ∨ rInL K neg x y H Q
theorem op_inS (hu : X.A.units + 65 < cLine) : OpR X (compareOp .In) (rInS X.K false) := by
  intro pins s σ H x y v u Q I rx ry h
  rcases h with h | h
  · exact op_inT hu pins s σ H x y v u Q I rx ry h
  · exact op_inL hu pins s σ H x y v u Q I rx ry h
theorem op_notInS (hu : X.A.units + 65 < cLine) : OpR X (compareOp .NotIn) (rInS X.K true) := by
  intro pins s σ H x y v u Q I rx ry h
  rcases h with h | h
  · exact op_notInT hu pins s σ H x y v u Q I rx ry h
  · exact op_notInL hu pins s σ H x y v u Q I rx ry h
theorem op_inSK (e : X.K = K) (hu : X.A.units + 65 < cLine) : OpR X (compareOp .In) (rInS K false) := e ▸ op_inS hu
theorem op_notInSK (e : X.K = K) (hu : X.A.units + 65 < cLine) : OpR X (compareOp .NotIn) (rInS K true) := e ▸ op_notInS hu
end
end Lx
namespace DL
open PySem L2 Lx
section
variable {X : Xn} {Γ : List Slot} {K : PySem.W.Frag}
theorem WI.any {κ : List Ty → List Slot → Prop} {t : TE} (h : WE X t Γ fun T Γ1 => ∃ ts, Sq K T ts ∧ κ ts Γ1) : WI X (iAny K t) Γ κ := fun σ B H s xo R r =>
  h σ B H s xo _ fun v B1 H1 T Γ1 k1 s1 b1 t1 => by
    obtain ⟨ts, hq, k⟩ := k1
    rcases hq with rfl | rfl
    · obtain ⟨a, xs, rfl, h1, h2⟩ := t1
      exact ⟨a, rfl, .inl ⟨⟨xs, SqL.of (s1.bh _ _ h1)⟩, r _ B1 H1 ts Γ1 k s1 b1 (itok_list h1 h2)⟩⟩
    · have t1' := t1
      obtain ⟨a, xs, rfl, h1, h2⟩ := t1
      exact ⟨a, rfl, .inr ⟨⟨xs, seqT_same s1.bh h1⟩, r _ B1 H1 ts Γ1 k s1 b1 (itok_tup h1 h2)⟩⟩
/-- data held by a list or a tuple -/
def PySq (K : PySem.W.Frag) (U : Ty) (ds : List PyData) : Prop := (Py K U (.tuple ds) ∧ SeqAt.shaped (.tuple ds) = true) ∨ (Py K U (.list ds) ∧ SeqAt.shaped (.list ds) = true)
theorem r2_inSD {neg : Bool} {κ : Ty → Prop} {T U : Ty} {d : PyData} {ds : List PyData} (h1 : Py K T d) (s1 : SeqAt.shaped d = true) (h2 : PySq K U ds) (k : κ (tyB (if neg then !ds.any fun z => PyData.eqv z d else ds.any fun z => PyData.eqv z d))) : R2w (rInS K neg) T U κ := fun x y B H Q bh hx hy q => by
  rcases h2 with ⟨h2, s2⟩ | ⟨h2, s2⟩
  · exact .inl (r2_inTD h1 h2 s1 s2 k x y B H Q bh hx hy q)
  · exact .inr (r2_inLD h1 h2 s1 s2 k x y B H Q bh hx hy q)
theorem pysq_of {A : Ty} {us : List Ty} {ds : List PyData} (h : Sq K A us) (hd : DatAll K 8 us ds) : PySq K A ds := by
  rcases h with rfl | rfl
  · exact .inr ⟨(dat_l hd).py, (dat_l hd).shaped⟩
  · exact .inl ⟨(dat_t hd).py, (dat_t hd).shaped⟩
end
end DL
set_option Elab.async false
set_option linter.all false
set_option maxRecDepth 100000
set_option maxHeartbeats 2000000
/-! the second layer: own signs of two instances, ~x, enumerate over a list, the place of a text in a list -/
namespace DL
open PySem L2 Lx PyProof.Rows
section
variable {X : Xn} {Γ : List Slot} {K : PySem.W.Frag} {α : Type} {c : α → Cs} {C : Addr} {E : XK} {fs gs : List (Str × Ty)}
theorem r2_binO {κ : Ty → Prop} (h : Meets c [tyO C fs, tyO C gs] fun o => ∃ T, o = .ret T ∧ ∃ D hs, T = tyO D hs ∧ κ (tyO D hs)) : R2w (rBinO C (spP c) E) (tyO C fs) (tyO C gs) κ := fun x y B H Q bh hx hy q => by
  have hx' := hx
  have hy' := hy
  obtain ⟨a, dx, ws, rfl, e1, e2, e3⟩ := hx
  obtain ⟨b, dy, us, rfl, f1, f2, f3⟩ := hy
  refine ⟨a, dx, ws, b, dy, us, rfl, bh _ _ e1, rfl, bh _ _ f1, pure_P (Ts := [tyO C fs, tyO C gs]) bh ⟨hx', hy', trivial⟩ h fun v B' H' W ⟨D, hs, eW, k⟩ e ok => ?_⟩
  subst eW
  have ok' := ok
  obtain ⟨p, dz, zs, rfl, _⟩ := ok
  exact ⟨⟨p, rfl⟩, q _ B' H' _ k e ok'⟩
theorem WE.inv {κ : Ty → List Slot → Prop} {ta : TE} (h : WE X ta Γ fun T Γ1 => ∃ fs, T = tyO C fs ∧ Meets c [tyO C fs] fun o => ∃ U, o = .ret U ∧ κ U Γ1) : WE X (tUn (rInvO C (spP c) E) ta) Γ κ := fun σ B H s xo Q q =>
  h σ B H s xo _ fun v B1 H1 T Γ1 k1 s1 b1 t1 => by
    obtain ⟨fs, rfl, k1⟩ := k1
    have t1' := t1
    obtain ⟨a, dx, ws, rfl, e1, e2, e3⟩ := t1
    exact ⟨a, dx, ws, rfl, s1.bh _ _ e1, pure_P (Ts := [tyO C fs]) s1.bh ⟨t1', trivial⟩ k1 fun v B' H' T k e ok => q v B' H' T Γ1 k (s1.step e) (b1.trans e.go) ok⟩
/-- enumerate(xs), xs a list -/
theorem WI.enum {κ : List Ty → List Slot → Prop} {ta : TA} (h : WA X ta Γ fun Ts Γ1 => ∃ us, Ts = [tyL us] ∧ κ (us.zipIdx.map fun p => tyT K [tyI (p.2 : Nat), p.1]) Γ1) : WI X (iEnum K ta) Γ κ := fun σ B H s xo R r =>
  h σ B H s xo _ fun vs B1 H1 Ts Γ1 k1 s1 b1 t1 => by
    obtain ⟨us, rfl, k⟩ := k1
    obtain ⟨v, rfl, a, xs, rfl, ha, tp⟩ := vals_one t1
    refine ⟨a, xs, rfl, SqL.of (s1.bh _ _ ha), r _ B1 H1 _ Γ1 k s1 b1 ?_⟩
    refine WI.walk (wi := fun _ _ _ => True) (κ := fun _ _ => True) (fun H => SqL K H a xs) (YPair (fun i => some (.int (i : Nat))) (fun i => xs[i]?)) ?_ (fun B' H' b b' => SqL.of (b' _ _ (b _ _ ha))) fun B' H' i v H'' b b' hi y => ?_
    · rw [List.length_map, List.length_zipIdx, ← tp.length]
      exact walk_enum
    obtain ⟨d, x, z, rfl, nd, rfl, ex, ez⟩ := y
    cases ex
    obtain ⟨T, e1, e2⟩ := tp.got ez
    have ef : Eff [] B' H' (upd B' d (.tup [.int (i : Nat), z])) (upd H' d (.tup [.int (i : Nat), z])) := .new b' nd
    refine ⟨tyT K [tyI (i : Nat), T], _, ?_, ef, ⟨d, [.int (i : Nat), z], rfl, SqT.of upd_same, rfl, T.mono (b.trans ef.bb) e2, trivial⟩⟩
    rw [List.getElem?_map, List.getElem?_zipIdx, e1]
    show some (tyT K [tyI ((0 + i : Nat) : Int), T]) = _
    rw [Nat.zero_add]
theorem rm_index {κ : Ty → Prop} {ss : List Str} {z : Str} {j : Nat} (h1 : ss[j]? = some z) (h2 : ∀ m, m < j → ss[m]? ≠ some z) (k : κ (tyI (j : Nat))) : RC (fun vs H Q => ∃ x y, vs = [x, y] ∧ rIndex K x [y] H Q) [tyL (ss.map tyS), tyS z] κ := fun vs B H Q bh t q => by
  obtain ⟨v, w, rfl, ⟨a, xs, rfl, e1, e2⟩, rfl⟩ := vals_two t
  rw [strs_map] at e2
  obtain rfl := e2.vals
  refine ⟨_, _, rfl, a, _, _, j, .str z, rfl, rfl, SqL.of (bh _ _ e1), rfl, Lx.flat_strs _, by rw [List.getElem?_map, h1]; rfl, by simp [eqV], fun m z' hm e => ?_, q _ B H _ k (.refl bh) rfl⟩
  rw [List.getElem?_map] at e
  cases es : ss[m]? with
  | none => rw [es] at e; cases e
  | some y =>
    rw [es] at e
    cases e
    have := h2 m hm
    rw [es] at this
    have ne : y ≠ z := fun h => this (by rw [h])
    simp [eqV, ne]
end
end DL
set_option Elab.async false
set_option linter.all false
set_option maxRecDepth 100000
set_option maxHeartbeats 2000000
/-! None == x, x an instance with an own __eq__ -/
namespace Lx
open PySem PySem.Spec PyProof PyProof.Rows L2
theorem NoneType___eq___none_ref_0 (a : Addr) : Gives (Builtin.«NoneType.__eq__» ⟨[.none, .ref a], []⟩) (.val (Value.notImplemented)) :=
  .of_wp fun M A E s Q h => by obtain ⟨hp, g, d, tk, os⟩ := s; wp_walk; exact ⟨_, rfl, h⟩
section
variable {X : Cx} {CX : CXT} {k : Nat} {f C : Addr} {sp : Sp} {E : XK}
def rEqNO (C : Addr) (sp : Sp) (E : XK) : R2 := fun x y H Q => ∃ a dx fs, x = .non ∧ y = .ref a ∧ H a = some (.ins C dx fs) ∧ sp [.ref a, .non] H (fun v H' => ∃ b : Bool, v = .bl b ∧ Q (.bl b) H') E
theorem op_eqNO (S : Spec1 X.K C "__eq__" f) (hn : PySem.W.mroIn X.K C (.type "NoneType") = some false) (F : FnR X.prog X.w X.K X.mg X.base CX k f sp) (hr : Room k X.A) (hx : Passes CX X E) : OpR X (compareOp .Eq) (rEqNO C sp E) := by
  intro pins s σ H x y v u Q I rx ry h
  obtain ⟨a, dx, fs, rfl, rfl, ha, h⟩ := h
  obtain rfl : v = Value.none := rx
  obtain rfl : u = Value.ref a := ry
  obtain ⟨ox, od, J⟩ := inst_at I ha
  have XI := I.kIn
  show wpAny _ _ (richCompare .Eq .none (.ref a)) _ _ _
  have tn : s.TypeIs .none "NoneType" := rfl
  simp only [richCompare, cmpInfo, tn.oneThing_none]
  refine wpAny_holding (wpAny_bind (wpAny_cRoomFor hr.units0 ?_))
  refine wpAny_bind (wpAny_typeOf tn (wpAny_bind (J.type.here ?_)))
  have hne : (Value.type "NoneType" != Value.ref C) = true := by simp
  simp only [hne, if_true]
  refine wpAny_bind ((PySem.W.looks_subIn (t := .ref C) XI hn).here ?_)
  simp only [Bool.false_eq_true, if_false, Bool.not_false, if_true]
  refine wpAny_bind (m := tryCompare .none _ (.ref a)) (wpAny_tryCompare_declines tn PySem.F.slot_NoneType_eq (call_gives PySem.F.slot_NoneType_eq tn PySem.F.entry_NoneType_eq (PySem.F.args_NoneType_eq_2 _ _) (NoneType___eq___none_ref_0 a) ⟨rfl, ?_⟩))
  refine wpAny_bind (m := tryCompare (.ref a) _ .none) ?_
  unfold tryCompare
  refine wpAny_bind (PySem.W.ifBound_K XI J S.at_ S.fn (wpAny_mono (run_at (A := X.A) (us := [.ref a, .none]) (vs := [.ref a, .non]) F hr rfl hx I (.cons rfl (.cons rfl .nil)) h) (fun r s' q => ?_) fun _ _ z => z))
  obtain ⟨w', H', I', rv, b, rfl, q⟩ := q
  cases rv
  exact wpAny_pure (wpAny_pure ⟨.bl b, H', I', rfl, q⟩)
/-- either -/
def rOr (r r' : R2) : R2 := fun x y H Q => r x y H Q ∨ r' x y H Q
theorem op_or {f : Value → Value → Sem Value} {r r' : R2} (h : OpR X f r) (h' : OpR X f r') : OpR X f (rOr r r') := fun pins s σ H x y v u Q I rx ry q => by
  rcases q with q | q
  · exact h pins s σ H x y v u Q I rx ry q
  · exact h' pins s σ H x y v u Q I rx ry q
end
end Lx
namespace DL
open PySem L2 Lx PyProof.Rows
section
variable {K : PySem.W.Frag} {α : Type} {c : α → Cs} {C : Addr} {E : XK} {fs : List (Str × Ty)} {κ : Ty → Prop} {T U : Ty} {r r' : R2}
theorem r2_eqNO (h : Meets c [tyO C fs, tyN] fun o => ∃ W, o = .ret W ∧ ∃ b, W = tyB b ∧ κ (tyB b)) : R2w (rEqNO C (spP c) E) tyN (tyO C fs) κ := fun x y B H Q bh hx hy q => by
  have hy' := hy
  cases hx
  obtain ⟨a, dx, ws, rfl, e1, e2, e3⟩ := hy
  refine ⟨a, dx, ws, rfl, rfl, bh _ _ e1, pure_P (Ts := [tyO C fs, tyN]) bh ⟨hy', rfl, trivial⟩ h fun v B' H' W ⟨b, eW, k⟩ e ok => ?_⟩
  subst eW
  exact ⟨b, ok, q _ B' H' _ k e rfl⟩
theorem r2_l (h : R2w r T U κ) : R2w (rOr r r') T U κ := fun x y B H Q bh hx hy q => .inl (h x y B H Q bh hx hy q)
theorem r2_r (h : R2w r' T U κ) : R2w (rOr r r') T U κ := fun x y B H Q bh hx hy q => .inr (h x y B H Q bh hx hy q)
end
end DL
set_option Elab.async false
set_option linter.all false
set_option maxRecDepth 100000
set_option maxHeartbeats 2000000
/-! t + u, t and u tuples of any length -/
namespace Lx
open PySem L2
theorem op_catAK {X : Cx} {K : PySem.W.Frag} (e : X.K = K) : OpR X (binaryOp .Add) (rCatA K) := e ▸ op_catA
theorem sl_tupAK {X : Cx} {K : PySem.W.Frag} (e : X.K = K) : SlR X (rSlA K) := e ▸ sl_tupA
end Lx
namespace DL
open PySem L2 Lx PyProof.Rows
theorem r2_catA {K : PySem.W.Frag} {κ : Ty → Prop} {ts us : List Ty} (h : ts.length + us.length ≤ sizeLine) (k : κ (tyT K (ts ++ us))) : R2w (rCatA K) (tyT K ts) (tyT K us) κ := fun x y B H Q bh hx hy q => by
  have hx' := hx
  have hy' := hy
  obtain ⟨a, xs, rfl, h1, h2⟩ := hx
  obtain ⟨b, ys, rfl, h3, h4⟩ := hy
  refine ⟨a, b, xs, ys, rfl, rfl, seqT_same bh h1, seqT_same bh h3, by rw [h2.length, h4.length]; exact h, fun e => ?_, fun _ e => ?_, fun _ _ p np => q _ _ _ _ k (.new bh np) ⟨p, _, rfl, SqT.of upd_same, (h2.append h4).mono (Lx.Same.new (base_none bh np))⟩⟩
  · subst e
    have : ts = [] := by
      cases ts with
      | nil => rfl
      | cons _ _ => cases h2
    subst this
    exact q _ B H _ k (.refl bh) hy'
  · subst e
    have : us = [] := by
      cases us with
      | nil => rfl
      | cons _ _ => cases h4
    subst this
    rw [List.append_nil] at k
    exact q _ B H _ k (.refl bh) hx'
theorem WE.slA {X : Xn} {Γ : List Slot} {K : PySem.W.Frag} {κ : Ty → List Slot → Prop} {te : TE} {tl th : TO} (h : WE X te Γ fun T Γ1 => ∃ ts, T = tyT K ts ∧ WP X tl Γ1 fun lo Γ2 => WP X th Γ2 fun hi Γ3 => κ (tyT K (cutT ts lo hi)) Γ3) : WE X (tSl (rSlA K) te tl th) Γ κ := fun σ B H s xo Q q =>
  h σ B H s xo _ fun v B1 H1 T Γ1 k1 s1 b1 t1 => by
    obtain ⟨ts, rfl, k1⟩ := k1
    have t1' := t1
    obtain ⟨a, xs, rfl, e1, e2⟩ := t1
    refine k1 σ B1 H1 s1 (xo.after b1) _ fun lo B2 H2 Γ2 k2 s2 b2 => k2 σ B2 H2 s2 (xo.after (b1.trans b2)) _ fun hi B3 H3 Γ3 k3 s3 b3 => ?_
    have s23 := b2.same.trans b3.same
    refine ⟨a, xs, rfl, seqT_same s3.bh (seqT_same s23 e1), fun hw => ?_, fun _ p np => ?_⟩
    · refine q _ B3 H3 _ Γ3 k3 s3 ((b1.trans b2).trans b3) ?_
      have e : cutT ts lo hi = ts := by
        unfold cutT
        rw [← e2.length, hw.1, hw.2, List.drop_zero, Nat.sub_zero, e2.length]
        exact List.take_length ..
      rw [e]
      exact Ty.mono _ s23 t1'
    · have e : Eff [] B3 H3 _ _ := .new (o := .tup (cutV xs lo hi)) s3.bh np
      exact q _ _ _ _ Γ3 k3 (s3.step e) (((b1.trans b2).trans b3).trans e.go) ⟨p, _, rfl, SqT.of upd_same, (e2.cut lo hi).mono (s23.trans e.bb)⟩
theorem cutT_last {ts : List Ty} (h : ts ≠ []) : cutT ts none (some (-1)) = ts.dropLast := by
  have hl : 0 < ts.length := List.length_pos_iff.mpr h
  have e1 : HT.sIx ts.length 0 none = 0 := rfl
  have e2 : HT.sIx ts.length ts.length (some (-1)) = ts.length - 1 := by
    first
      | (simp [HT.sIx]; omega)
      | (unfold HT.sIx; simp; omega)
  unfold cutT
  rw [e1, e2, List.drop_zero, Nat.sub_zero, List.dropLast_eq_take]
end DL
set_option Elab.async false
set_option linter.all false
set_option maxRecDepth 100000
set_option maxHeartbeats 2000000
/-! promises of defs that are called while nothing is being shown (Around.guards), for repr of data -/
namespace Lx
open PySem PySem.Spec PyProof.Rows L2
structure FnG (P : Program) (w : World) (K : PySem.W.Frag) (mg : Str → Option Value) (base : Heap) (CX : CXT) (k : Nat) (f : Addr) (fd : FuncData) (ps : List Str) (sp : Sp) : Prop where
  len : ∀ {xs H Q E}, sp xs H Q E → xs.length = ps.length
  go : ∀ {A outer s H args us xs Q E}, A.guards = some [] → Room k A → Env0 P w K mg base A outer s H → BindsTo s fd args (ps.zip us) → Vals xs us → sp xs H Q E → codeAny (model P w) A (.call (.ref f) args) (CR CX outer P w H s Q E) s
section
variable {P : Program} {w : World} {K : PySem.W.Frag} {mg : Str → Option Value} {base : Heap} {CX : CXT}
theorem FnG.mono {j k : Nat} {f : Addr} {fd : FuncData} {ps : List Str} {sp : Sp} (F : FnG P w K mg base CX j f fd ps sp) (h : j ≤ k) : FnG P w K mg base CX k f fd ps sp := ⟨F.len, fun g hr => F.go g (hr.mono h)⟩
theorem guards_deep {A : Around} {env : Env} (g : A.guards = some []) : (A.deeper env).guards = some [] := by
  first | exact g | simpa [Around.deeper] using g
theorem _root_.L2.Fun.okG {x qual : Str} {st : Stmt} {f : Addr} {fd : FuncData} {N ps : List Str} {k : Nat} {sp : Sp} (F : Fun K x qual st f fd) (S : FnScope N ps (defScope st)) (len : ∀ vs H Q E, sp vs H Q E → vs.length = ps.length)
    (bd : ∀ (cdv : Value) (A : Around) (outer : List Env) (s : Shared) (H : Hp) (vs : List V) (Q : VK) (E : XK), A.guards = some [] → Room k (A.deeper (envOfC qual (defScope st) s.heap.objs.size f cdv)) → sp vs H Q E →
      ∃ t, PSs (cxOf (L2.CX P w) P w K mg base N qual (defScope st) f cdv A outer s H E) (defBody st) t ∧ t { nx := fun _ H' => Q .non H', rt := Q } (L2.start N vs) H) : FnG P w K mg base (L2.CX P w) (k + 1) f fd ps sp := by
  obtain ⟨oc, od, kV, doc, pm, an, cdv, ct, osl, rfl, lk, hcd⟩ := F.ex
  refine ⟨fun h => len _ _ _ _ h, fun {A outer s H args us xs Q E} g hr e0 hb r hs => ?_⟩
  have keep := fun b o e => (e0.bs b o e).1
  have kin := e0.mod.kin.keeps keep
  refine codeAny_call_function hr.depth (kin _ _ lk) rfl S.co S.gen rfl (PySem.W.codeRec_of kin hcd) (hb _ _ _ _ (wpAny_newFunctionEnv_cells S.kind (fun y hy => ?_) fun env he s1 x => ?_))
  · cases S.par y.1 (List.of_mem_zip (b := y.2) hy).1 with
    | inl q => exact .inl q
    | inr q => exact .inr ⟨q, PySem.W.cellsFrom_some _ _ _ (.inl q)⟩
  · subst he
    obtain ⟨t, ht, hq⟩ := bd cdv A outer s H xs Q E g (hr.deeper _) hs
    have J := inv_start (CX := L2.CX P w) (f := f) (cd := cdv) (qual := qual) (E := E) S hr.hd e0 (len _ _ _ _ hs) r x
    exact ⟨(e0.mod.nolimit.keeps keep).keeps x.toInCall.keep, codeAny_func (wpAny_mono (ht.run [] s1 _ H _ J hq) (fun fl s' hh => by
      match fl, hh with
      | .ret _, ⟨v, _, H', J, rv, q⟩ => exact ⟨v, H', J.os, J.bare, J.base, J.hok, rv, q⟩
      | .next, ⟨_, H', J, q⟩ => exact ⟨.non, H', J.os, J.bare, J.base, J.hok, rfl, q⟩
      | .brk, ⟨_, _, _, q⟩ => exact q.elim
      | .cont, ⟨_, _, _, q⟩ => exact q.elim) fun _ _ z => z)⟩
end
section
variable {X : Cx} {CX : CXT} {k : Nat} {f : Addr} {fd : FuncData} {ps : List Str} {sp : Sp} {E : XK} {x : Str} {p pos : Pos} {e : Expr} {es : List Expr} {t : TA}
/-- f(e, ..), f such a def -/
theorem pe_callG (g : X.A.guards = some []) (F : FnG X.prog X.w X.K X.mg X.base CX k f fd ps sp) (hr : Room k X.A) (hg : Gl X x) (hm : X.mg x = some (.ref f)) (hk : PySem.W.keepIn X.K (.ref f) = true) (hb : Binds X.K fd ps []) (hx : Passes CX X E)
    (ha : PA X (e :: es) t) (hdb : (x == ("__debug__" : Str)) = false := by decide) (he : starEach (e :: es) X.env = (false, eval e X.env) :: starEach es X.env := by rfl) (hpl : (backTo pos (starEach es X.env)).any (·.1) = false := by rfl) :
    PE X (.Call (.Name x p) (e :: es) [] pos) (tCall sp [] E t) := ⟨fun pins s σ H Q I h => by
  refine wpAny_Call_Name_kw (ld_glob I hg hm (PySem.W.callWith_K (h₀ := X.base) I.ok.mod.kin hk (thn (ha.run pos pins s σ H _ I h) fun us s1 ⟨vs, H1, J, r, q⟩ => ⟨J.kIn, ?_⟩) he hpl) hdb)
  have q : sp (vs ++ []) H1 Q E := q
  rw [List.append_nil] at q
  show wpAny _ _ (call (Value.ref f) us) _ _ _
  have hl : (us ++ []).length = ps.length := by rw [List.append_nil, ← r.length]; exact F.len q
  have b0 := hb s1 us J.kIn hl
  rw [List.append_nil] at b0
  refine wpAny_call (codeAny_mono (F.go g hr J.env0 b0 r q) fun z s' hq => ?_)
  match z, hq with
  | .error e, hq => exact hx pins σ H1 s1 e s' J hq
  | .ok (.ret _), hq => exact J.after hq⟩
/-- repr(x), x data -/
def rRepr (K : PySem.W.Frag) : List V → Hp → VK → Prop := fun xs H Q => ∃ (v : V) (d : PyData), xs = [v] ∧ Dp K H v d ∧ d.showable = true ∧ d.hasDict = false ∧ d.depth ≤ 40 ∧ d.shown.length ≤ sizeLine ∧ Q (.str d.shown) H
theorem call_repr (g : X.A.guards = some []) (hu : X.A.units + 64 < cLine) : CallR X (.builtin "repr") (rRepr X.K) := by
  intro pins s σ H xs us Q I r h
  obtain ⟨v, d, rfl, hd, h1, h2, h3, h4, q⟩ := h
  cases r with
  | @cons _ u _ us r0 r1 =>
    cases r1
    have fin : ∀ (a : Addr) (as : List Addr), u = .ref a → Reads s.heap (.ref a) d as → wpAny (model X.prog X.w) X.A (call (.builtin "repr") [u]) (EP X pins σ Q) X.xe s := fun a as e rd => by
      subst e
      exact repr_of_reads' rd h1 (fun z => by rw [h2] at z; cases z) g (by omega) (fun b o z => z) (fun h' u tk hk => ⟨.str d.shown, H, I.kept (t' := tk) hk, ⟨_, rfl⟩, q⟩) h4
    obtain ⟨as, rd⟩ := hd.reads I d _ _ r0
    cases rd with
    | none => exact PySem.P.repr_of_none ⟨.str _, H, I.tok _, ⟨_, rfl⟩, q⟩
    | bool b => exact PySem.P.repr_of_bool ⟨.str _, H, I.tok _, ⟨_, rfl⟩, q⟩
    | int i t => exact PySem.P.repr_of_int (by simpa [PyData.showable] using h1) ⟨.str _, H, I.tok _, ⟨_, rfl⟩, q⟩
    | str x t => exact PySem.P.repr_of_str ⟨.str _, H, I.tok _, ⟨_, rfl⟩, q⟩ (by simpa only [PyData.shown] using h4)
    | list a1 a2 a3 a4 => exact fin _ _ rfl (.list a1 a2 a3 a4)
    | tuple a1 a2 a3 a4 => exact fin _ _ rfl (.tuple a1 a2 a3 a4)
    | dict a1 a2 a3 a4 a5 => exact fin _ _ rfl (.dict a1 a2 a3 a4 a5)
end
end Lx
set_option Elab.async false
set_option linter.all false
set_option maxRecDepth 100000
set_option maxHeartbeats 2000000
/-! the end of a proof whose law is a FnG -/
namespace Lx
open PySem PySem.Spec PyProof.Rows L2
section
variable {P : Program} {w : World} {K : PySem.W.Frag} {mg mb : Str → Option Value} {CX : CXT} {k : Nat} {fa a : Addr} {fd : FuncData} {x : Str} {sp : Sp} {s : Shared} {vs : List Value} {ns : List Int}
/-- the script as it is seen from the law -/
structure Scr (P : Program) (w : World) (K : PySem.W.Frag) (H : Hp) (s : Shared) (a : Addr) (ns : List Int) : Prop where
  only : Only H
  seq : SqL K H a (ns.map V.int)
  hok : HOk P w H s.heap
  one : ∀ {b u}, H b = some u → b = a
  nk : ∀ {u}, H a = some u → K.lookup a = none
/-- what the caller of a law wants -/
abbrev Won (s : Shared) : Result → Shared → Prop := fun r s' => r = .ok (.ret (.bool true)) ∧ OldK s.heap s'.heap ∧ s'.os = s.os ∧ AllBare s'.gens
theorem won_of {H : Hp} {E : XK} {r : Result} {s' : Shared} (hx : ∀ H e s', CX [] H s (fun _ _ _ => False) e s' → False) (sc : Scr P w K H s a ns) (h : CR CX [] P w H s (fun v _ => v = .bl true) (fun _ _ _ => False) r s') : Won s r s' := by
  match r, h with
  | .error e, h => exact (hx H e s' h).elim
  | .ok (.ret u), ⟨v, H', os, bare, un, hk, rv, ev⟩ =>
    cases ev
    cases rv
    refine ⟨rfl, OldK.of_keep fun b o e => ?_, os, bare⟩
    cases hb : H b with
    | none => exact un.keep b o e hb (List.not_mem_nil) (List.not_mem_nil)
    | some u =>
      obtain z | ⟨ob, xs, z⟩ := sc.only b
      · rw [hb] at z
        cases z
      obtain ⟨e1, _⟩ := sc.hok b _ z
      obtain ⟨e2, _⟩ := hk b _ (un.frzs b ob _ z)
      rw [← e1, e] at e2
      first
        | (rw [e1] at e; cases e; assumption)
        | (cases e2; assumption)
        | (rw [e1] at e; cases e; exact (hk b _ (un.frzs b ob _ z)).1)
theorem scr_run (kin : K.In s.heap) (nm : s.heap.Ns mainGlobals mg) (nb : s.heap.Ns builtinsNs mb) (hbb : ∀ x : Str, x ≠ "__name__" → mb x = bootBuiltins x) (lim : s.heap.NoLimit) (gens : s.gens = #[])
    (ha : s.heap.get? a = some { cls := .type "list", data := .seq vs.toArray }) (room : Room k callerA)
    (F : ∀ base : Heap, K.In base → base.Ns mainGlobals mg → FnG P w K mg base CX k fa fd [x] sp) (bind : ∀ (s : Shared) (u : Value), BindsTo s fd ⟨[u], []⟩ [(x, u)])
    (want : ∀ H : Hp, Only H → SqL K H a (ns.map V.int) → sp [.ref a] H (fun v _ => v = .bl true) fun _ _ _ => False)
    (hx : ∀ H e s', CX [] H s (fun _ _ _ => False) e s' → False) {H : Hp} (sc : Scr P w K H s a ns) : codeAny (model P w) callerA (.call (.ref fa) ⟨[.ref a], []⟩) (Won s) s := by
  have free : ∀ {b o}, s.heap.get? b = some o → (b = a → False) → (hidT s.heap H).get? b = some o := fun {b o} e n => hidT_get e (by
    cases hb : H b with
    | none => rfl
    | some u => exact (n (sc.one hb)).elim)
  have ns_ : ∀ {b : Addr} {m : Str → Option Value}, s.heap.Ns b m → (hidT s.heap H).Ns b m := fun {b m} ⟨o, es, ep, e, d, r⟩ => ⟨o, es, ep, free e (fun z => by
    subst z
    rw [ha] at e
    cases e
    cases (show Data.seq vs.toArray _ = Data.dict es ep from d)), d, r⟩
  have kb : K.In (hidT s.heap H) := fun b o e => by
    cases hb : H b with
    | none => exact hidT_get (kin b o e) hb
    | some u =>
      have z := sc.one hb
      subst z
      rw [sc.nk hb] at e
      cases e
  obtain ⟨mc, c1, c2⟩ := lim
  have env : Env0 P w K mg (hidT s.heap H) callerA [] s H := { frames := rfl, mod := ⟨kb, ns_ nm, ⟨mb, ns_ nb, hbb⟩, mc, ns_ c1, c2⟩, bs := fun b o e => of_hidT e, bsz := Nat.le_of_eq (hidT_size _ _), funs := trivial, frf := (fun b hb => by cases hb), hok := sc.hok, bare := .of_eq gens }
  exact codeAny_mono ((F _ kb (ns_ nm)).go (us := [.ref a]) (xs := [.ref a]) rfl room env (bind s (.ref a)) (.cons rfl .nil) (want H sc.only sc.seq)) fun r s' h => won_of (E := fun _ _ _ => False) hx sc h
theorem scr_of (kin : K.In s.heap) (ha : s.heap.get? a = some { cls := .type "list", data := .seq vs.toArray }) (hi : IntsAre vs ns) (hl : ns.length ≤ sizeLine) : ∃ H, Scr P w K H s a ns := by
  have lv := hi.length
  cases hk : K.lookup a with
  | some o =>
    have e := (kin a o hk).symm.trans ha
    cases e
    exact ⟨fun _ => none, fun _ => .inl rfl, .inr ⟨_, vs.toArray, _, hk, rfl, rfl, rfl, by rw [List.size_toArray, lv]; exact hl, by simpa using vals_ints hi⟩, (fun b u z => by cases (show (none : Option HO) = some u from z)), nofun, nofun⟩
  | none =>
    have at_ : ∀ {b : Addr} {u : HO}, (if b = a then some (HO.frz { cls := .type "list", data := .seq vs.toArray } (.lst (ns.map V.int))) else none) = some u → b = a ∧ u = .frz { cls := .type "list", data := .seq vs.toArray } (.lst (ns.map V.int)) := fun {b u} z => by
      by_cases e : b = a
      · rw [if_pos e] at z
        exact ⟨e, (Option.some.inj z).symm⟩
      · rw [if_neg e] at z
        cases z
    refine ⟨fun b => if b = a then some (.frz { cls := .type "list", data := .seq vs.toArray } (.lst (ns.map V.int))) else none, fun b => ?_, .inl (.inr ⟨_, if_pos rfl⟩), fun b u z => ?_, fun z => (at_ z).1, fun _ => hk⟩
    · by_cases e : b = a
      · exact .inr ⟨_, _, if_pos e⟩
      · exact .inl (if_neg e)
    · obtain ⟨rfl, rfl⟩ := at_ z
      exact ⟨ha, by rw [List.length_map]; exact hl, vs, _, vals_ints hi, ha⟩
end
theorem walk_ofG {l : PySem.W.OpenLaw} {n k : Nat} {q : Program} {loose : List Str} {XP : (Str → Option Value) → Heap → Prop} {YP : World → Heap → Prop} {d : DefRec} {K : Params → PySem.W.Frag} {CX : World → CXT} {sp : World → Sp} {x : Str} (most : l.most = some n) (most2 : n ≤ sizeLine) (nod : d.params.defaults = []) (room : Room k callerA)
    (kin : ∀ (w : World) (h : Heap), YP w h → (K w.params).In h)
    (F : ∀ (w : World) (mg : Str → Option Value) (fa : Addr) (h : Heap), (K w.params).In h → h.Ns mainGlobals mg → mg d.name = some (.ref fa) → ∃ fd : FuncData, (∀ (s : Shared) (u : Value), BindsTo s fd ⟨[u], []⟩ [(x, u)]) ∧ ∀ base : Heap, (K w.params).In base → base.Ns mainGlobals mg → FnG l.prog w (K w.params) mg base (CX w) k fa fd [x] (sp w))
    (want : ∀ (w : World) (H : Hp) (a : Addr) (ns : List Int), ns.length ≤ n → Only H → SqL (K w.params) H a (ns.map V.int) → sp w [.ref a] H (fun v _ => v = .bl true) fun _ _ _ => False) (hx : ∀ (w : World) (H : Hp) (s : Shared) (e : Value) (s' : Shared), CX w [] H s (fun _ _ _ => False) e s' → False) :
    PySem.W.WalkO q loose XP YP l.row.toRowW d [] (fun f vs => PySem.call f vs) := Att.attach_call most nod fun w s₀ s mg mb fa o pm cd doc a vs ns G Y ho hd hcd hmg hobj hi hlen hg => by
  obtain ⟨fd, bind, hF⟩ := F w mg fa s.heap (kin w _ Y) G.T.g hmg
  obtain ⟨H, sc⟩ := scr_of (P := l.prog) (w := w) (kin w _ Y) hobj hi (Nat.le_trans hlen most2)
  exact scr_run (kin w _ Y) G.T.g G.T.b G.T.builtins G.T.nolimit hg hobj room hF bind (fun H hO hS => want w H a ns hlen hO hS) (fun H e s' => hx w H s e s') sc
end Lx
set_option Elab.async false
set_option linter.all false
set_option maxRecDepth 100000
set_option maxHeartbeats 2000000
/-! the second layer: a thing of ours that is lent for some statements (it stands still meanwhile), and is ours again -/
namespace DL
open PySem L2 Lx
theorem rem_same {B B' : Hp} {p : Addr} (s : Same B B') : Same (rem B p) (rem B' p) := fun a o h => by
  by_cases e : a = p
  · rw [e, rem_self] at h
    cases h
  · rw [rem_ne e] at h ⊢
    exact s a o h
theorem rem_sub {B : Hp} {p : Addr} : Same (rem B p) B := fun a o h => by
  by_cases e : a = p
  · rw [e, rem_self] at h
    cases h
  · rwa [rem_ne e] at h
/-- T holds without what stands at p -/
def off (p : Addr) (T : Ty) : Ty := ⟨fun v B => T.ok v (rem B p), fun s h => T.mono (rem_same s) h⟩
/-- the thing at p -/
def atT (p : Addr) (M : MTy) : Ty := ⟨fun v B => v = .ref p ∧ ∃ o, B p = some o ∧ M.ok p o (rem B p), fun s ⟨e, o, h, k⟩ => ⟨e, o, s _ _ h, M.mono (rem_same s) k⟩⟩
theorem off_weak {p : Addr} {T : Ty} {v : V} {B : Hp} (h : (off p T).ok v B) : T.ok v B := T.mono rem_sub h
theorem atT_list {p : Addr} {ts : List Ty} {v : V} {B : Hp} (h : (atT p (mL ts)).ok v B) : (tyL ts).ok v B := by
  obtain ⟨rfl, o, e, xs, rfl, t⟩ := h
  exact ⟨p, xs, rfl, e, t.mono rem_sub⟩
def offS (p : Addr) : Slot → Slot
  | .is T => .is (off p T)
  | S => S
theorem offS_m {p : Addr} {S : Slot} : (offS p S).m = S.m := by cases S <;> rfl
theorem offS_fix {p : Addr} {S : Slot} : (offS p S).fix = S.fix := by cases S <;> rfl
def lent (p : Addr) (i : Nat) (M : MTy) (Γ : List Slot) : List Slot := (Γ.map (offS p)).set i (.is (atT p M))
/-- what of U holds of T without p, at which a thing of M stands -/
def Avd (p : Addr) (M : MTy) (U T : Ty) : Prop := ∀ (v : V) (B : Hp) (o : HO), B p = some o → M.ok p o (rem B p) → U.ok v B → T.ok v (rem B p)
/-- a thing of ours of which N is said: without p, N' -/
def AvdM (p : Addr) (M N N' : MTy) : Prop := ∀ (q : Addr) (o o' : HO) (B : Hp), B p = some o → M.ok p o (rem B p) → q ≠ p → N.ok q o' B → N'.ok q o' (rem B p)
inductive Thaw (p : Addr) (M : MTy) : Bool → List Slot → List Slot → Prop where
  | nil : Thaw p M false [] []
  | own {r r' : List Slot} : Thaw p M false r r' → Thaw p M true (.is (atT p M) :: r) (.own M :: r')
  | no {b : Bool} {S : Slot} {r r' : List Slot} : Thaw p M b r r' → Thaw p M b (S :: r) (.no :: r')
  | bag {b : Bool} {j m : Nat} {r r' : List Slot} : Thaw p M b r r' → Thaw p M b (.bag j m :: r) (.bag j m :: r')
  | is {b : Bool} {U T : Ty} {r r' : List Slot} : Avd p M U T → Thaw p M b r r' → Thaw p M b (.is U :: r) (.is T :: r')
  | keep {b : Bool} {N N' : MTy} {r r' : List Slot} : AvdM p M N N' → Thaw p M b r r' → Thaw p M b (.own N :: r) (.own N' :: r')
section
variable {p : Addr} {M : MTy} {b : Bool} {G1 G2 : List Slot}
theorem Thaw.len (h : Thaw p M b G1 G2) : G2.length = G1.length := by
  induction h <;> simp_all
theorem Thaw.false_own (h : Thaw p M b G1 G2) : b = false → ∀ (k : Nat) (N : MTy), G2[k]? = some (.own N) → ∃ N0, G1[k]? = some (.own N0) := by
  induction h with
  | nil => intro _ k N; simp
  | own _ _ => intro z; cases z
  | no _ ih | bag _ ih | is _ _ ih =>
    intro z k N
    cases k with
    | zero => intro e; cases e
    | succ k => rw [List.getElem?_cons_succ, List.getElem?_cons_succ]; exact ih z k N
  | keep _ _ ih =>
    intro z k N
    cases k with
    | zero => intro _; exact ⟨_, rfl⟩
    | succ k => rw [List.getElem?_cons_succ, List.getElem?_cons_succ]; exact ih z k N
/-- slot by slot -/
def Thaw.Res (p : Addr) (M : MTy) (G1 G2 : List Slot) (k : Nat) (S : Slot) : Prop := S = .no ∨ (∃ j m, S = .bag j m ∧ G1[k]? = some (.bag j m)) ∨ (∃ U T, S = .is T ∧ G1[k]? = some (.is U) ∧ Avd p M U T) ∨ (∃ N N', S = .own N' ∧ G1[k]? = some (.own N) ∧ AvdM p M N N') ∨ (S = .own M ∧ G1[k]? = some (.is (atT p M)) ∧ ∀ (k' : Nat), k' ≠ k → ∀ N, G2[k']? = some (.own N) → ∃ N0, G1[k']? = some (.own N0))
theorem Thaw.at (h : Thaw p M b G1 G2) : ∀ (k : Nat) (S : Slot), G2[k]? = some S → Thaw.Res p M G1 G2 k S := by
  have up : ∀ {S0 S1 S : Slot} {r r' : List Slot} {k : Nat}, ((∃ N, S1 = .own N) → ∃ N, S0 = .own N) → Thaw.Res p M r r' k S → Thaw.Res p M (S0 :: r) (S1 :: r') (k + 1) S := fun {S0 S1 S r r' k} hs h => by
    rcases h with z | ⟨j, m, z, e⟩ | ⟨U, T, z, e, a⟩ | ⟨N, N', z, e, a⟩ | ⟨z, e, un⟩
    · exact .inl z
    · exact .inr (.inl ⟨j, m, z, by rw [List.getElem?_cons_succ]; exact e⟩)
    · exact .inr (.inr (.inl ⟨U, T, z, by rw [List.getElem?_cons_succ]; exact e, a⟩))
    · exact .inr (.inr (.inr (.inl ⟨N, N', z, by rw [List.getElem?_cons_succ]; exact e, a⟩)))
    · refine .inr (.inr (.inr (.inr ⟨z, by rw [List.getElem?_cons_succ]; exact e, fun k' ne N q => ?_⟩)))
      cases k' with
      | zero =>
        cases q
        obtain ⟨N0, rfl⟩ := hs ⟨_, rfl⟩
        exact ⟨N0, rfl⟩
      | succ k' =>
        rw [List.getElem?_cons_succ] at q ⊢
        exact un k' (by omega) N q
  induction h with
  | nil => intro k S e; simp at e
  | own hr ih =>
    intro k S e
    cases k with
    | zero =>
      cases e
      refine .inr (.inr (.inr (.inr ⟨rfl, rfl, fun k' ne N q => ?_⟩)))
      cases k' with
      | zero => exact absurd rfl ne
      | succ k' => rw [List.getElem?_cons_succ] at q ⊢; exact hr.false_own rfl k' N q
    | succ k =>
      rw [List.getElem?_cons_succ] at e
      rcases ih k S e with z | ⟨j, m, z, e'⟩ | ⟨U, T, z, e', a⟩ | ⟨N, N', z, e', a⟩ | ⟨z, e', un⟩
      · exact .inl z
      · exact .inr (.inl ⟨j, m, z, by rw [List.getElem?_cons_succ]; exact e'⟩)
      · exact .inr (.inr (.inl ⟨U, T, z, by rw [List.getElem?_cons_succ]; exact e', a⟩))
      · exact .inr (.inr (.inr (.inl ⟨N, N', z, by rw [List.getElem?_cons_succ]; exact e', a⟩)))
      · subst z
        obtain ⟨N0, q⟩ := hr.false_own rfl k M e
        rw [e'] at q
        cases q
  | no hr ih =>
    intro k S e
    cases k with
    | zero => cases e; exact .inl rfl
    | succ k => exact up (fun ⟨N, z⟩ => by cases z) (ih k S (by rwa [List.getElem?_cons_succ] at e))
  | bag hr ih =>
    intro k S e
    cases k with
    | zero => cases e; exact .inr (.inl ⟨_, _, rfl, rfl⟩)
    | succ k => exact up (fun ⟨N, z⟩ => by cases z) (ih k S (by rwa [List.getElem?_cons_succ] at e))
  | is av hr ih =>
    intro k S e
    cases k with
    | zero => cases e; exact .inr (.inr (.inl ⟨_, _, rfl, rfl, av⟩))
    | succ k => exact up (fun ⟨N, z⟩ => by cases z) (ih k S (by rwa [List.getElem?_cons_succ] at e))
  | keep av hr ih =>
    intro k S e
    cases k with
    | zero => cases e; exact .inr (.inr (.inr (.inl ⟨_, _, rfl, rfl, av⟩)))
    | succ k => exact up (fun _ => ⟨_, rfl⟩) (ih k S (by rwa [List.getElem?_cons_succ] at e))
theorem Thaw.key (t : Thaw p M b G1 G2) : b = true → ∃ k : Nat, G1[k]? = some (Slot.is (atT p M)) := by
  induction t with
  | nil => intro z; cases z
  | own _ _ => intro _; exact ⟨0, rfl⟩
  | no _ ih | bag _ ih | is _ _ ih | keep _ _ ih =>
    intro z
    obtain ⟨k, e⟩ := ih z
    exact ⟨k + 1, by rw [List.getElem?_cons_succ]; exact e⟩
end
section
variable {σ σ' : L2.St} {B H B' H' : Hp} {Γ G1 G2 : List Slot} {p : Addr} {o o' : HO} {M N : MTy} {i : Nat}
theorem Sat.lend (s : Sat σ B H Γ) (hi : Γ[i]? = some (.own M)) (ha : σ[i]? = some (some (.ref p))) (ho : H p = some o) (nb : B p = none) (hk0 : M.ok p o B) : Sat σ (upd B p o) H (lent p i M Γ) := by
  have e0 : DL.rem (upd B p o) p = B := by rw [rem_upd, rem_none nb]
  have bb : Same B (upd B p o) := Lx.Same.new nb
  have hl : i < Γ.length := (List.getElem?_eq_some_iff.mp hi).1
  have old : ∀ {k : Nat} {S : Slot}, k ≠ i → (lent p i M Γ)[k]? = some S → ∃ S0, Γ[k]? = some S0 ∧ S = offS p S0 := fun {k S} ne e => by
    unfold lent at e
    rw [List.getElem?_set_ne (Ne.symm ne), List.getElem?_map] at e
    cases q : Γ[k]? with
    | none => rw [q] at e; cases e
    | some S0 => rw [q] at e; exact ⟨S0, rfl, (Option.some.inj e).symm⟩
  have at_ : ∀ {S : Slot}, (lent p i M Γ)[i]? = some S → S = .is (atT p M) := fun {S} e => by
    unfold lent at e
    rw [List.getElem?_set_self (by rw [List.length_map]; exact hl)] at e
    exact (Option.some.inj e).symm
  refine ⟨fun a u h => ?_, ?_, fun k T e => ?_, fun k S N e hm => ?_, fun k k' S S' N N' d e hm e' hm' => ?_⟩
  · by_cases z : a = p
    · rw [z, upd_same] at h
      cases h
      rw [z]
      exact ho
    · rw [upd_ne z] at h
      exact s.bh a u h
  · unfold lent
    rw [List.length_set, List.length_map]
    exact s.len
  · by_cases z : k = i
    · subst z
      cases at_ e
      exact ⟨_, ha, rfl, o, upd_same, by rw [e0]; exact hk0⟩
    · obtain ⟨S0, q1, q2⟩ := old z e
      cases S0 with
      | is T0 =>
        cases q2
        obtain ⟨v, v1, v2⟩ := s.is_ k T0 q1
        refine ⟨v, v1, ?_⟩
        show T0.ok v (DL.rem (upd B p o) p)
        rw [e0]
        exact v2
      | no => cases q2
      | own _ => cases q2
      | bag _ _ => cases q2
      | me _ => cases q2
  · by_cases z : k = i
    · subst z
      cases at_ e
      cases hm
    · obtain ⟨S0, q1, rfl⟩ := old z e
      rw [offS_m] at hm
      obtain ⟨a, u, h1, h2, h3, h4⟩ := s.own k S0 N q1 hm
      have na : a ≠ p := fun zz => s.ap k i S0 _ N M z q1 hm hi rfl (by rw [h1, ha, zz])
      exact ⟨a, u, h1, h2, by rw [upd_ne na]; exact h3, N.mono bb h4⟩
  · have f : ∀ {k : Nat} {S : Slot} {N : MTy}, (lent p i M Γ)[k]? = some S → S.m = some N → ∃ S0, Γ[k]? = some S0 ∧ S0.m = some N := fun {k S N} e hm => by
      by_cases z : k = i
      · subst z
        cases at_ e
        cases hm
      · obtain ⟨S0, q1, rfl⟩ := old z e
        rw [offS_m] at hm
        exact ⟨S0, q1, hm⟩
    obtain ⟨S0, q1, m1⟩ := f e hm
    obtain ⟨S1, q2, m2⟩ := f e' hm'
    exact s.ap k k' S0 S1 N N' d q1 m1 q2 m2
theorem own_lent {a : Addr} (h : Own σ (lent p i M Γ) a) : Own σ Γ a := by
  obtain ⟨k, S, N, e, hm, ha⟩ := h
  unfold lent at e
  rcases get_set e with ⟨_, z⟩ | ⟨_, e⟩
  · rw [z] at hm
    cases hm
  · rw [List.getElem?_map] at e
    cases q : Γ[k]? with
    | none => rw [q] at e; cases e
    | some S0 =>
      rw [q] at e
      cases e
      rw [offS_m] at hm
      exact ⟨k, S0, N, q, hm, ha⟩
theorem Sat.thaw (s : Sat σ B H G1) (t : Thaw p M true G1 G2) (hp : B p = some o) (hk : M.ok p o (DL.rem B p)) : Sat σ (DL.rem B p) H G2 := by
  have ne_p : ∀ {a : Addr}, B a = none → a ≠ p := fun {a} n z => by rw [z, hp] at n; cases n
  refine ⟨fun a u h => s.bh a u (rem_sub a u h), by rw [t.len]; exact s.len, fun k T e => ?_, fun k S N e hm => ?_, fun k k' S S' N N' d e hm e' hm' => ?_⟩
  · rcases t.at k _ e with z | ⟨_, _, z, _⟩ | ⟨U, T', z, e1, av⟩ | ⟨_, _, z, _⟩ | ⟨z, _⟩
    · cases z
    · cases z
    · cases z
      obtain ⟨v, h1, h2⟩ := s.is_ k U e1
      exact ⟨v, h1, av v B o hp hk h2⟩
    · cases z
    · cases z
  · rcases t.at k _ e with z | ⟨j, m, z, e1⟩ | ⟨_, _, z, _⟩ | ⟨N1, N2, z, e1, av⟩ | ⟨z, e1, _⟩
    · subst z
      cases hm
    · subst z
      cases hm
      obtain ⟨a, u, h1, h2, h3, h4⟩ := s.own k _ _ e1 rfl
      exact ⟨a, u, h1, h2, by rw [rem_ne (ne_p h3)]; exact h3, h4⟩
    · subst z
      cases hm
    · subst z
      cases hm
      obtain ⟨a, u, h1, h2, h3, h4⟩ := s.own k _ _ e1 rfl
      exact ⟨a, u, h1, h2, by rw [rem_ne (ne_p h3)]; exact h3, av a o u B hp hk (ne_p h3) h4⟩
    · subst z
      cases hm
      obtain ⟨v, h1, rfl, u, e2, k2⟩ := s.is_ k _ e1
      exact ⟨p, u, h1, s.bh _ _ e2, rem_self, k2⟩
  · -- what is ours behind it was ours before, or stands at p
    have f : ∀ {k : Nat} {S : Slot} {N : MTy}, G2[k]? = some S → S.m = some N → (∃ S0 N0, G1[k]? = some S0 ∧ S0.m = some N0) ∨ (σ[k]? = some (some (.ref p)) ∧ G2[k]? = some (.own M) ∧ ∀ k', k' ≠ k → ∀ N, G2[k']? = some (.own N) → ∃ N0, G1[k']? = some (.own N0)) := fun {k S N} e hm => by
      rcases t.at k _ e with z | ⟨j, m, z, e1⟩ | ⟨_, _, z, _⟩ | ⟨N1, N2, z, e1, av⟩ | ⟨z, e1, un⟩
      · subst z
        cases hm
      · exact .inl ⟨_, _, e1, rfl⟩
      · subst z
        cases hm
      · exact .inl ⟨_, _, e1, rfl⟩
      · obtain ⟨v, h1, rfl, _⟩ := s.is_ k _ e1
        exact .inr ⟨h1, by rw [e, z], un⟩
    have off_p : ∀ {k : Nat} {S0 : Slot} {N0 : MTy}, G1[k]? = some S0 → S0.m = some N0 → σ[k]? ≠ some (some (.ref p)) := fun {k S0 N0} e hm z => by
      obtain ⟨a, u, h1, h2, h3, h4⟩ := s.own k _ _ e hm
      rw [z] at h1
      cases h1
      rw [hp] at h3
      cases h3
    rcases f e hm with ⟨S0, N0, q1, m1⟩ | ⟨q1, q2, un⟩
    · rcases f e' hm' with ⟨S1, N1, q3, m3⟩ | ⟨q3, q4, un'⟩
      · exact s.ap k k' _ _ _ _ d q1 m1 q3 m3
      · rw [q3]
        exact off_p q1 m1
    · rcases f e' hm' with ⟨S1, N1, q3, m3⟩ | ⟨q3, q4, un'⟩
      · rw [q1]
        exact fun z => off_p q3 m3 z.symm
      · obtain ⟨N0, q⟩ := un k' (Ne.symm d) M q4
        exact absurd q3 (off_p q rfl)
theorem go_thaw (s0 : Sat σ B H Γ) (hi : Γ[i]? = some (.own M)) (ha : σ[i]? = some (some (.ref p))) (nb : B p = none) (ho : H p = some o) (g : Go σ (lent p i M Γ) (upd B p o) H σ' G1 B' H') (s' : Sat σ' B' H' G1) (t : Thaw p N true G1 G2) : Go σ Γ B H σ' G2 (DL.rem B' p) H' where
  same := fun a u h => by
    have ne : a ≠ p := fun z => by rw [z, nb] at h; cases h
    rw [rem_ne ne]
    exact g.same a u (by rw [upd_ne ne]; exact h)
  bh := fun a u h => g.bh a u (rem_sub a u h)
  fr := fun a u h n no => by
    have ne : a ≠ p := fun z => no ⟨i, _, M, hi, rfl, by rw [ha, z]⟩
    obtain ⟨h1, h2⟩ := g.fr a u h (by rw [upd_ne ne]; exact n) fun z => no (own_lent z)
    exact ⟨h1, by rw [rem_ne ne]; exact h2⟩
  ow := fun a ⟨k, S, N', e, hm, h⟩ => by
    have old : ∀ {S0 : Slot} {N0 : MTy}, G1[k]? = some S0 → S0.m = some N0 → Own σ Γ a ∨ H a = none := fun e1 m1 => by
      rcases g.ow a ⟨k, _, _, e1, m1, h⟩ with q | q
      · exact .inl (own_lent q)
      · exact .inr q
    rcases t.at k _ e with z | ⟨j, m, z, e1⟩ | ⟨_, _, z, _⟩ | ⟨_, _, z, e1, _⟩ | ⟨z, e1, _⟩
    · subst z
      cases hm
    · exact old e1 rfl
    · subst z
      cases hm
    · exact old e1 rfl
    · subst z
      obtain ⟨v, h1, rfl, _⟩ := s'.is_ k _ e1
      rw [h1] at h
      cases h
      exact .inl ⟨i, _, M, hi, rfl, ha⟩
  bg := fun k S e f => by
    rcases t.at k _ e with z | ⟨j, m, z, e1⟩ | ⟨_, _, z, _⟩ | ⟨_, _, z, _⟩ | ⟨z, e1, _⟩
    · subst z
      cases f
    · subst z
      obtain ⟨q1, S0, q2, q3⟩ := g.bg k _ e1 rfl
      refine ⟨q1, ?_⟩
      unfold lent at q2
      rcases get_set q2 with ⟨_, z⟩ | ⟨_, q2⟩
      · rw [z] at q3
        cases q3
      · rw [List.getElem?_map] at q2
        cases q : Γ[k]? with
        | none => rw [q] at q2; cases q2
        | some S1 =>
          rw [q] at q2
          cases q2
          rw [offS_fix] at q3
          exact ⟨S1, rfl, q3⟩
    · subst z
      cases f
    · subst z
      cases f
    · subst z
      cases f
/-- t with the thing lent, u with the thing back -/
theorem WS.seqLend {X : Xn} {t u : TS} {κs : En} (h0 : Γ[i]? = some (.own M)) (h : ∀ p, WS ⟨X.E, fun _ _ _ _ => False⟩ t (lent p i M Γ) { nx := fun Γ1 => ∃ N Γ2, Thaw p N true Γ1 Γ2 ∧ WS X u Γ2 κs, rt := fun _ _ => False }) : WS X (tSeq t u) Γ κs := fun σ B H s xo D m => by
  obtain ⟨p, o, e1, e2, e3, e4⟩ := s.own i _ _ h0 rfl
  refine h p σ (upd B p o) H (s.lend h0 e1 e2 e3 e4) (fun _ _ _ _ _ _ _ _ _ z => z.elim) _ ⟨fun σ' B' H' Γ1 k s' g => ?_, fun _ _ _ _ _ _ z => z.elim, fun _ _ _ _ z => z.elim, fun _ _ _ _ z => z.elim⟩
  obtain ⟨N, Γ2, t, k⟩ := k
  have key : ∃ o', B' p = some o' ∧ N.ok p o' (rem B' p) := by
    obtain ⟨k, e⟩ := t.key rfl
    obtain ⟨v, h1, _, o', h2, h3⟩ := s'.is_ k _ e
    exact ⟨o', h2, h3⟩
  obtain ⟨o', q1, q2⟩ := key
  have g2 := go_thaw s h0 e1 e3 e2 g s' t
  exact k σ' (rem B' p) H' (s'.thaw t q1 q2) (xo.after g2) D (m.same g2)
end
/-! what avoids p -/
section
variable {p : Addr} {M : MTy} {K : PySem.W.Frag} {ts us : List Ty}
theorem avd_off {T : Ty} : Avd p M (off p T) T := fun v B o _ _ h => h
theorem avd_v {x : V} : Avd p M (tyV x) (tyV x) := fun v B o _ _ h => h
/-- all of them avoid p -/
def AvdS (p : Addr) (M : MTy) (ts : List Ty) : Prop := ∀ T ∈ ts, Avd p M T T
theorem AvdS.all {B : Hp} {o : HO} (hp : B p = some o) (hk : M.ok p o (rem B p)) : ∀ {ts : List Ty} {xs : List V}, AvdS p M ts → TyAll ts xs B → TyAll ts xs (rem B p)
  | [], [], _, _ => trivial
  | t :: ts, x :: xs, a, h => ⟨a t (List.mem_cons_self ..) x B o hp hk h.1, AvdS.all hp hk (ts := ts) (xs := xs) (fun T m => a T (List.mem_cons_of_mem _ m)) h.2⟩
  | [], _ :: _, _, h => h.elim
  | _ :: _, [], _, h => h.elim
theorem avds_map {α : Type} {f : α → Ty} {l : List α} (h : ∀ a ∈ l, Avd p M (f a) (f a)) : AvdS p M (l.map f) := fun T m => by
  obtain ⟨a, ha, rfl⟩ := List.mem_map.mp m
  exact h a ha
theorem avds_nil : AvdS p M [] := nofun
theorem avds_cons {T : Ty} (h : Avd p M T T) (r : AvdS p M ts) : AvdS p M (T :: ts) := fun U m => by
  rcases List.mem_cons.mp m with rfl | m
  · exact h
  · exact r U m
theorem avd_t (a : AvdS p (mL us) ts) : Avd p (mL us) (tyT K ts) (tyT K ts) := fun v B o hp hk ⟨x, xs, e, h, t⟩ => by
  refine ⟨x, xs, e, ?_, a.all hp hk t⟩
  obtain ⟨ys, rfl, _⟩ := hk
  rcases h with (h | ⟨u, h⟩) | h
  · have ne : x ≠ p := fun z => by rw [z, hp] at h; cases h
    exact .inl (.inl (by rw [rem_ne ne]; exact h))
  · have ne : x ≠ p := fun z => by rw [z, hp] at h; cases h
    exact .inl (.inr ⟨u, by rw [rem_ne ne]; exact h⟩)
  · exact .inr h
theorem avd_f (a : AvdS p (mL us) ts) : Avd p (mL us) (tyF ts) (tyF ts) := fun v B o hp hk ⟨x, u, xs, e, h, d, t⟩ => by
  refine ⟨x, u, xs, e, ?_, d, a.all hp hk t⟩
  obtain ⟨ys, rfl, _⟩ := hk
  have ne : x ≠ p := fun z => by rw [z, hp] at h; cases h
  rw [rem_ne ne]
  exact h
theorem avd_l (ne : ∀ xs B B', TyAll us xs B → TyAll ts xs B' → False) (a : AvdS p (mL us) ts) : Avd p (mL us) (tyL ts) (tyL ts) := fun v B o hp hk ⟨x, xs, e, h, t⟩ => by
  refine ⟨x, xs, e, ?_, a.all hp hk t⟩
  obtain ⟨ys, rfl, hy⟩ := hk
  have ne : x ≠ p := fun z => by
    rw [z, hp] at h
    cases h
    exact ne _ _ _ hy t
  rw [rem_ne ne]
  exact h
theorem avd_d {kvs : List (Key × Ty)} (a : AvdS p (mL us) (kvs.map Prod.snd)) : Avd p (mL us) (tyD kvs) (tyD kvs) := fun v B o hp hk ⟨x, ws, e, h, k, t⟩ => by
  refine ⟨x, ws, e, ?_, k, a.all hp hk t⟩
  obtain ⟨ys, rfl, _⟩ := hk
  have ne : x ≠ p := fun z => by rw [z, hp] at h; cases h
  rw [rem_ne ne]
  exact h
theorem avd_o {c : Addr} {fs : List (Str × Ty)} (a : AvdS p (mL us) (fs.map Prod.snd)) : Avd p (mL us) (tyO c fs) (tyO c fs) := fun v B o hp hk ⟨x, dx, ws, e, h, k, t⟩ => by
  refine ⟨x, dx, ws, e, ?_, k, a.all hp hk t⟩
  obtain ⟨ys, rfl, _⟩ := hk
  have ne : x ≠ p := fun z => by rw [z, hp] at h; cases h
  rw [rem_ne ne]
  exact h
end
section
variable {X : Xn} {Γ : List Slot} {κ : Ty → List Slot → Prop} {K : PySem.W.Frag} {i : Nat} {p : Addr}
/-- a slot's value, less said of it -/
theorem WE.varW {T U : Ty} (h : Γ[i]? = some (.is U)) (w : ∀ {v : V} {B : Hp}, U.ok v B → T.ok v B) (k : κ T Γ) : WE X (tVar i) Γ κ := fun σ B H s xo Q q => by
  obtain ⟨v, h1, h2⟩ := s.is_ i U h
  exact ⟨v, h1, q v B H T Γ k s (.refl s.bh) (w h2)⟩
/-- list(x), x lent: the new list stands apart from x -/
theorem rc_listAt {κ : Ty → Prop} {ts : List Ty} (k : κ (off p (tyL ts))) : RC (rListOf K) [atT p (mL ts)] κ := fun vs B H Q bh t q => by
  obtain ⟨v, rfl, rfl, o, e, xs, rfl, h2⟩ := vals_one t
  refine ⟨p, xs, rfl, .inl (SqL.of (bh _ _ e)), fun n np => ?_⟩
  have ne : n ≠ p := fun z => by rw [z, bh _ _ e] at np; cases np
  refine q _ _ _ _ k (.new bh np) ⟨n, xs, rfl, by rw [rem_ne ne, upd_same], h2.mono (rem_same (Lx.Same.new (base_none bh np)))⟩
end
/-! things handed back as the caller's own -/
/-- the list at p, p new -/
def mLp (p : Addr) (ts : List Ty) : MTy := ⟨fun a o B => a = p ∧ (mL ts).ok a o B, fun s ⟨e, h⟩ => ⟨e, (mL ts).mono s h⟩⟩
section
variable {X : Xn} {Γ : List Slot} {κ : Ty → List Slot → Prop} {κs : En} {K : PySem.W.Frag} {i : Nat} {p : Addr} {ts : List Ty}
theorem WS.appendP {te : TE} (h0 : Γ[i]? = some (.own (mLp p ts))) (h : WE X te Γ fun T Γ1 => ∃ us, Γ1[i]? = some (.own (mLp p us)) ∧ us.length < sizeLine ∧ κs.nx (Γ1.set i (.own (mLp p (us ++ [T]))))) : WS X (tDrop (tBM K "list" rAppend (tVar i) (tCons te tNil))) Γ κs := fun σ B H s xo D m => by
  obtain ⟨a, o, h1, h2, _, rfl, ⟨xs, rfl, h3⟩⟩ := s.own i _ _ h0 rfl
  refine ⟨.ref a, h1, .inl ⟨rfl, _, SqL.of h2⟩, ?_⟩
  refine h σ B H s xo _ fun v B1 H1 T Γ1 k1 s1 b1 t1 => ?_
  obtain ⟨us, e0, e1, k⟩ := k1
  obtain ⟨a', o', f1, f2, f3, rfl, ⟨ys, rfl, f4⟩⟩ := s1.own i _ _ e0 rfl
  have ch := s1.change (S' := .own (mLp a' (us ++ [T]))) e0 rfl rfl h1 ⟨rfl, _, rfl, f4.snoc t1⟩ nofun
  exact ⟨a', ys, v, rfl, rfl, f2, by rw [f4.length]; exact e1, m.nx σ B1 _ _ k ch.1 (b1.trans ch.2)⟩
/-- return x, x such a list -/
theorem WS.retP (h : Γ[i]? = some (.own (mLp p ts))) (k : κs.rt (atT p (mL ts)) (Γ.set i .no)) : WS X (tRet (tVar i)) Γ κs := fun σ B H s xo D m => by
  obtain ⟨a, o, h1, h2, h3, rfl, h4⟩ := s.own i _ _ h rfl
  obtain ⟨s', b⟩ := s.freeze h h1 h2
  exact ⟨.ref a, h1, m.rt σ _ _ H (atT a (mL ts)) _ k s' b ⟨rfl, o, upd_same, by rw [rem_upd, rem_none h3]; exact h4⟩⟩
end
end DL
set_option Elab.async false
set_option linter.all false
set_option maxRecDepth 100000
set_option maxHeartbeats 2000000
/-! repr of data in the second layer; insert, reverse, lists times an int -/
namespace Lx
open PySem L2
def rInsert : V → List V → Hp → VK → Prop := fun x vs H Q => ∃ (l : Addr) (xs : List V) (i : Int) (y : V), x = .ref l ∧ vs = [.int i, y] ∧ H l = some (.lst xs) ∧ xs.length < sizeLine ∧ 0 ≤ i ∧ i < 2 ^ 63 ∧ Q .non (upd H l (.lst (xs.take i.toNat ++ [y] ++ xs.drop i.toNat)))
theorem mt_insertA {X : Cx} : MtR X "list.insert" rInsert := mt_insert
end Lx
namespace DL
open PySem L2 Lx PyProof.Rows
/-- data that can be shown; n: about how long -/
structure Rp (n : Nat) (d : PyData) : Prop where
  sh : d.showable = true
  lf : d.leavesShort 2000 = true
  bk : d.bulk ≤ n
structure RpAll (n : Nat) (ds : List PyData) : Prop where
  sh : PyData.showableAll ds = true
  lf : PyData.leavesShortAll 2000 ds = true
  bk : PyData.bulkAll ds ≤ n
section
variable {n m : Nat} {d : PyData} {ds : List PyData}
theorem Rp.le (h : Rp n d) (e : n ≤ m) : Rp m d := ⟨h.sh, h.lf, Nat.le_trans h.bk e⟩
theorem RpAll.le (h : RpAll n ds) (e : n ≤ m) : RpAll m ds := ⟨h.sh, h.lf, Nat.le_trans h.bk e⟩
theorem rp_n : Rp n .none := ⟨by simp [PyData.showable], by simp [PyData.leavesShort], by simp [PyData.bulk]⟩
theorem rp_b {b : Bool} : Rp n (.bool b) := ⟨by simp [PyData.showable], by simp [PyData.leavesShort], by simp [PyData.bulk]⟩
theorem rp_i {i : Int} (h : i.natAbs < 2 ^ 500) : Rp n (.int i) := by
  have l : i.natAbs.log2 < 1920 := by
    by_cases z : i.natAbs = 0
    · rw [z]
      decide
    · exact Nat.lt_trans ((Nat.log2_lt z).mpr h) (by decide)
  refine ⟨by simpa only [PyData.showable, decide_eq_true_eq] using l, ?_, by simp [PyData.bulk]⟩
  simp only [PyData.leavesShort, PyData.shown]
  exact decide_eq_true (Nat.le_trans (PyProof.Rows.int_text_len_1921 l) (by decide))
theorem rp_s {s : Str} (h : PyData.strOk s = true) (l : s.length ≤ n) : Rp n (.str s) := by
  refine ⟨by simp [PyData.showable], ?_, by simp only [PyData.bulk]; exact l⟩
  simp only [PyData.leavesShort, List.all_eq_true, decide_eq_true_eq]
  intro c hc
  have h2 : ∀ c ∈ s.cps.toList, c < 0x110000 := by
    simp only [PyData.strOk] at h
    rw [Array.all_eq_true_iff_forall_mem] at h
    exact fun c hc => by simpa using h c (Array.mem_toList_iff.mp hc)
  have := h2 c hc
  omega
theorem rp_t (h : RpAll n ds) : Rp n (.tuple ds) := ⟨by simp only [PyData.showable]; exact h.sh, by simp only [PyData.leavesShort]; exact h.lf, by simp only [PyData.bulk]; exact h.bk⟩
theorem rp_l (h : RpAll n ds) : Rp n (.list ds) := ⟨by simp only [PyData.showable]; exact h.sh, by simp only [PyData.leavesShort]; exact h.lf, by simp only [PyData.bulk]; exact h.bk⟩
theorem rps_nil : RpAll n [] := ⟨by simp only [PyData.showableAll], by simp only [PyData.leavesShortAll], by simp [PyData.bulkAll]⟩
theorem rps_cons (h : Rp n d) (r : RpAll m ds) : RpAll (n + 1 + m) (d :: ds) := ⟨by simp only [PyData.showableAll, h.sh, r.sh]; rfl, by simp only [PyData.leavesShortAll, h.lf, r.lf]; rfl, by simp only [PyData.bulkAll]; have := h.bk; have := r.bk; omega⟩
theorem rps_map {α : Type} {g : α → PyData} : ∀ {l : List α}, (∀ a ∈ l, Rp n (g a)) → RpAll (l.length * (n + 1)) (l.map g)
  | [], _ => rps_nil
  | a :: l, h => (rps_cons (h a (List.mem_cons_self ..)) (rps_map fun b hb => h b (List.mem_cons_of_mem _ hb))).le (by rw [List.length_cons, Nat.succ_mul]; omega)
theorem rps_app {es : List PyData} : ∀ {ds : List PyData} {n : Nat}, RpAll n ds → RpAll m es → RpAll (n + m) (ds ++ es)
  | [], _, h, r => r.le (by omega)
  | d :: ds, n, h, r => by
    have h1 := h.sh
    have h2 := h.lf
    have h3 := h.bk
    simp only [PyData.showableAll, Bool.and_eq_true] at h1
    simp only [PyData.leavesShortAll, Bool.and_eq_true] at h2
    simp only [PyData.bulkAll] at h3
    exact (rps_cons (n := d.bulk) ⟨h1.1, h2.1, Nat.le_refl _⟩ (rps_app (n := PyData.bulkAll ds) ⟨h1.2, h2.2, Nat.le_refl _⟩ r)).le (by omega)
theorem Rp.len (h : Rp n d) (e : n ≤ 8000) : d.shown.length ≤ sizeLine := by
  have h1 := PyData.shown_le_bulk 2000 (by decide) d h.lf
  have h2 := h.bk
  rw [sizeLine_eq]
  omega
end
section
variable {X : Xn} {Γ : List Slot} {κs : En} {K : PySem.W.Frag} {i : Nat} {p : Addr} {ts : List Ty}
theorem rc_repr {κ : Ty → Prop} {T : Ty} {d : PyData} {n k : Nat} (h : Dat K k T d) (r : Rp n d) (hn : n ≤ 8000) (hk : k ≤ 40) (c : κ (tyS d.shown)) : RC (rRepr K) [T] κ := fun vs B H Q bh t q => by
  obtain ⟨v, rfl, tv⟩ := vals_one t
  exact ⟨v, d, rfl, h.py v H (T.mono bh tv), r.sh, PyData.hasDict_of_canLay d h.lay, Nat.le_trans h.dep hk, r.len hn, q _ B H _ c (.refl bh) rfl⟩
theorem WS.insertP {te tf : TE} (h0 : Γ[i]? = some (.own (mLp p ts))) (h : WE X te Γ fun U Γ1 => WE X tf Γ1 fun T Γ2 => ∃ (us : List Ty) (j : Nat), U = tyI (j : Int) ∧ Γ2[i]? = some (.own (mLp p us)) ∧ us.length < sizeLine ∧ j < 2 ^ 63 ∧ κs.nx (Γ2.set i (.own (mLp p (us.take j ++ [T] ++ us.drop j))))) : WS X (tDrop (tBM K "list" rInsert (tVar i) (tCons te (tCons tf tNil)))) Γ κs := fun σ B H s xo D m => by
  obtain ⟨a, o, h1, h2, _, rfl, ⟨xs, rfl, h3⟩⟩ := s.own i _ _ h0 rfl
  refine ⟨.ref a, h1, .inl ⟨rfl, _, SqL.of h2⟩, ?_⟩
  refine h σ B H s xo _ fun u B1 H1 U Γ1 k1 s1 b1 t1 => k1 σ B1 H1 s1 (xo.after b1) _ fun v B2 H2 T Γ2 k2 s2 b2 t2 => ?_
  obtain ⟨us, j, rfl, e0, e1, e2, k⟩ := k2
  cases t1
  obtain ⟨a', o', f1, f2, f3, rfl, ⟨ys, rfl, f4⟩⟩ := s2.own i _ _ e0 rfl
  have ch := s2.change (S' := .own (mLp a' (us.take j ++ [T] ++ us.drop j))) e0 rfl rfl h1 ⟨rfl, ys.take j ++ [v] ++ ys.drop j, rfl, ((f4.take j).append (.one t2)).append (f4.drop j)⟩ nofun
  refine ⟨a', ys, (j : Int), v, rfl, rfl, f2, by rw [f4.length]; exact e1, by omega, by omega, ?_⟩
  rw [Int.toNat_natCast]
  exact m.nx σ B2 _ _ k ch.1 ((b1.trans b2).trans ch.2)
theorem WS.reverse (h0 : Γ[i]? = some (.own (mL ts))) (k : κs.nx (Γ.set i (.own (mL ts.reverse)))) : WS X (tDrop (tBM0 K "list" rReverse (tVar i))) Γ κs := fun σ B H s xo D m => by
  obtain ⟨a, o, h1, h2, _, ⟨xs, rfl, h3⟩⟩ := s.own i _ _ h0 rfl
  have rev : ∀ {ts : List Ty} {xs : List V}, TyAll ts xs B → TyAll ts.reverse xs.reverse B := fun {ts} => by
    induction ts with
    | nil =>
      intro xs h
      cases xs with
      | nil => trivial
      | cons _ _ => exact h.elim
    | cons t ts ih =>
      intro xs h
      cases xs with
      | nil => exact h.elim
      | cons x xs =>
        rw [List.reverse_cons, List.reverse_cons]
        exact (ih h.2).append (.one h.1)
  have ch := s.change (S' := .own (mL ts.reverse)) h0 rfl rfl h1 ⟨xs.reverse, rfl, rev h3⟩ nofun
  exact ⟨.ref a, h1, .inl ⟨rfl, _, SqL.of h2⟩, a, xs, rfl, rfl, h2, m.nx σ B _ _ k ch.1 ch.2⟩
theorem tyall_rep {B : Hp} {xs : List V} {ts : List Ty} (t : TyAll ts xs B) : ∀ n : Nat, TyAll (List.replicate n ts).flatten (List.replicate n xs).flatten B
  | 0 => trivial
  | n + 1 => by
    rw [List.replicate_succ, List.replicate_succ, List.flatten_cons, List.flatten_cons]
    exact t.append (tyall_rep t n)
theorem r2_rep {κ : Ty → Prop} {ts : List Ty} {k : Int} (h1 : -(2 ^ 63) ≤ k) (h2 : k < 2 ^ 63) (h3 : ts.length * k.toNat ≤ sizeLine) (c : κ (tyL (List.replicate k.toNat ts).flatten)) : R2w rRep (tyL ts) (tyI k) κ := fun x y B H Q bh hx hy q => by
  obtain ⟨a, xs, rfl, e1, e2⟩ := hx
  cases hy
  exact ⟨a, k, xs, rfl, rfl, bh _ _ e1, h1, h2, by rw [e2.length]; exact h3, fun p np => q _ _ _ _ c (.new bh np) ⟨p, _, rfl, upd_same, (tyall_rep e2 _).mono (Lx.Same.new (base_none bh np))⟩⟩
/-- f(source, ..), f a def that hands back a new list: it is ours -/
theorem WS.setCallP {α : Type} {c : α → Hp → Cs} {E : XK} {t : TA} {s0 j n m0 l : Nat} (h0 : Γ[s0]? = some (.bag j m0)) (hl : l ≠ s0) (hlen : l < Γ.length) (h : WA X t Γ fun Ts Γ1 => ∃ (m : Nat) (x : α), Γ1 = Γ ∧ n ≤ m0 ∧ (∀ H, Ts = (c x H).args) ∧ (∀ H, (c x H).pre) ∧
    ∀ H o, (c x H).out o → ∃ (p : Addr) (ts : List Ty), H p = none ∧ o = .ret (atT p (mL ts)) ∧ κs.nx ((Γ.set s0 (.bag j (m0 - n))).set l (.own (mL ts)))) : WS X (tAsg (tCall (fun vs H Q E => spB j n (fun x => c x H) vs H Q E) [] E (tCons (tVar s0) t)) (gName l)) Γ κs := fun σ B H s xo D m => by
  obtain ⟨b, o, e1, e2, e3, e4⟩ := s.own s0 _ _ h0 rfl
  refine ⟨.ref b, e1, h σ B H s xo _ fun vs B1 H1 Ts Γ1 k1 s1 b1 t1 => ?_⟩
  obtain ⟨_, x, eΓ, hn, ha, hp, ho⟩ := k1
  rw [eΓ] at s1 b1
  show spB j n (fun x => c x H1) (V.ref b :: (vs ++ [])) H1 _ E
  rw [List.append_nil]
  obtain ⟨b', o', q1, q2, q3, q4⟩ := s1.own s0 _ _ h0 rfl
  rw [e1] at q1
  cases q1
  refine ⟨x, B1, b, vs, m0 - n, o', rfl, s1.bh, q2, q3, by rw [Nat.sub_add_cancel hn]; exact q4, by rw [← ha H1]; exact t1, hp H1, fun r hr => ?_⟩
  obtain ⟨p, ts, np, rfl, kfin⟩ := ho H1 r hr
  intro v B2 H2 u ef hb gb ok
  obtain ⟨rfl, oo, f1, f2⟩ := ok
  have hs0 : s0 < Γ.length := (List.getElem?_eq_some_iff.mp h0).1
  have pb : p ≠ b := fun z => by rw [z, q2] at np; cases np
  have n1 : B1 p = none := base_none s1.bh np
  have sm : Same B1 (rem B2 p) := fun a w ha => by
    have ne : a ≠ p := fun z => by rw [z, n1] at ha; cases ha
    rw [rem_ne ne]
    exact ef.bb a w ha
  have keep : ∀ a w, a ≠ b → H1 a = some w → H2 a = some w := fun a w ne ha => ef.ch a w (fun z => ne (List.mem_singleton.mp z)) ha
  have none_ : ∀ a w, H1 a = some w → B1 a = none → rem B2 p a = none := fun a w ha hb0 => by
    by_cases z : a = p
    · rw [z, rem_self]
    · rw [rem_ne z]
      exact ef.fr a w ha hb0
  have bag_ : ∃ o, H2 b = some o ∧ rem B2 p b = none ∧ BagOk j (m0 - n) o := ⟨u, hb, none_ _ _ q2 q3, gb⟩
  obtain ⟨u, hb, nb, gb⟩ := bag_
  have hp2 : H2 p = some oo := ef.bh _ _ f1
  -- what stands in a slot behind the call
  have look : ∀ {k : Nat} {S : Slot}, ((Γ.set s0 (.bag j (m0 - n))).set l (.own (mL ts)))[k]? = some S → (k = l ∧ S = .own (mL ts)) ∨ (k ≠ l ∧ k = s0 ∧ S = .bag j (m0 - n)) ∨ (k ≠ l ∧ k ≠ s0 ∧ Γ[k]? = some S) := fun {k S} e => by
    rcases get_set e with ⟨z, e⟩ | ⟨z, e⟩
    · exact .inl ⟨z, e⟩
    · rcases get_set e with ⟨z', e⟩ | ⟨z', e⟩
      · exact .inr (.inl ⟨z, z', e⟩)
      · exact .inr (.inr ⟨z, z', e⟩)
  have sl : σ.length = Γ.length := s1.len
  have st : Sat (σ.set l (some (.ref p))) (rem B2 p) H2 ((Γ.set s0 (.bag j (m0 - n))).set l (.own (mL ts))) := by
    refine ⟨fun a w ha => ef.bh a w (rem_sub a w ha), by rw [List.length_set, List.length_set, List.length_set]; exact sl, fun k T e => ?_, fun k S N e hm => ?_, fun k k' S S' N N' d e hm e' hm' => ?_⟩
    · rcases look e with ⟨_, z⟩ | ⟨_, _, z⟩ | ⟨z1, _, e⟩
      · cases z
      · cases z
      · obtain ⟨v, v1, v2⟩ := s1.is_ k T e
        exact ⟨v, by rw [List.getElem?_set_ne (Ne.symm z1)]; exact v1, T.mono sm v2⟩
    · rcases look e with ⟨z, y⟩ | ⟨z1, z, y⟩ | ⟨z1, z2, e⟩
      · subst z y
        cases hm
        exact ⟨p, oo, List.getElem?_set_self (by rw [sl]; exact hlen), hp2, rem_self, f2⟩
      · subst z y
        cases hm
        exact ⟨b, u, by rw [List.getElem?_set_ne (Ne.symm z1)]; exact e1, hb, nb, gb⟩
      · obtain ⟨a, w, h1, h2, h3, h4⟩ := s1.own k S N e hm
        have ab : a ≠ b := fun z => s1.ap k s0 S _ N _ z2 e hm h0 rfl (by rw [h1, e1, z])
        exact ⟨a, w, by rw [List.getElem?_set_ne (Ne.symm z1)]; exact h1, keep a w ab h2, none_ a w h2 h3, N.mono sm h4⟩
    · have f : ∀ {k : Nat} {S : Slot} {N : MTy}, ((Γ.set s0 (.bag j (m0 - n))).set l (.own (mL ts)))[k]? = some S → S.m = some N → (k = l ∧ (σ.set l (some (V.ref p)))[k]? = some (some (.ref p))) ∨ (k ≠ l ∧ (∃ a w, σ[k]? = some (some (.ref a)) ∧ H1 a = some w) ∧ ∃ S0 N0, Γ[k]? = some S0 ∧ S0.m = some N0) := fun {k S N} e hm => by
        rcases look e with ⟨z, y⟩ | ⟨z1, z, y⟩ | ⟨z1, z2, e⟩
        · subst z
          exact .inl ⟨rfl, List.getElem?_set_self (by rw [sl]; exact hlen)⟩
        · subst z
          exact .inr ⟨z1, ⟨b, o', e1, q2⟩, _, _, h0, rfl⟩
        · obtain ⟨a, w, h1, h2, _⟩ := s1.own k S N e hm
          exact .inr ⟨z1, ⟨a, w, h1, h2⟩, S, N, e, hm⟩
      rcases f e hm with ⟨y1, y2⟩ | ⟨y1, ⟨a, w, y2, y3⟩, S0, N0, y4, y5⟩
      · rcases f e' hm' with ⟨x1, x2⟩ | ⟨x1, ⟨a', w', x2, x3⟩, _⟩
        · exact absurd (y1.trans x1.symm) d
        · rw [y2, List.getElem?_set_ne (Ne.symm x1), x2]
          intro z
          cases z
          rw [np] at x3
          cases x3
      · rcases f e' hm' with ⟨x1, x2⟩ | ⟨x1, _, S1, N1, x4, x5⟩
        · rw [x2, List.getElem?_set_ne (Ne.symm y1), y2]
          intro z
          cases z
          rw [np] at y3
          cases y3
        · rw [List.getElem?_set_ne (Ne.symm y1), List.getElem?_set_ne (Ne.symm x1)]
          exact s1.ap k k' S0 S1 N0 N1 d y4 y5 x4 x5
  have go : Go σ Γ B1 H1 (σ.set l (some (.ref p))) ((Γ.set s0 (.bag j (m0 - n))).set l (.own (mL ts))) (rem B2 p) H2 := by
    refine ⟨sm, fun a w ha => ef.bh a w (rem_sub a w ha), fun a w ha hb0 no => ⟨keep a w (fun z => no ⟨s0, _, _, h0, rfl, by rw [e1, z]⟩) ha, none_ a w ha hb0⟩, fun a ⟨k, S, N, e, hm, ea⟩ => ?_, fun k S e f => ?_⟩
    · rcases look e with ⟨z, y⟩ | ⟨z1, z, y⟩ | ⟨z1, z2, e⟩
      · subst z
        rw [List.getElem?_set_self (by rw [sl]; exact hlen)] at ea
        cases ea
        exact .inr np
      · subst z
        rw [List.getElem?_set_ne (Ne.symm z1)] at ea
        exact .inl ⟨_, _, _, h0, rfl, ea⟩
      · rw [List.getElem?_set_ne (Ne.symm z1)] at ea
        exact .inl ⟨k, S, N, e, hm, ea⟩
    · rcases look e with ⟨z, y⟩ | ⟨z1, z, y⟩ | ⟨z1, z2, e⟩
      · subst y
        cases f
      · subst z
        exact ⟨List.getElem?_set_ne (Ne.symm z1), _, h0, rfl⟩
      · exact ⟨List.getElem?_set_ne (Ne.symm z1), S, e, f⟩
  exact m.nx _ _ _ _ kfin st (b1.trans go)
end
theorem WE.unI {X : Xn} {Γ : List Slot} {κ : Ty → List Slot → Prop} {g : Int → V} {te : TE} (h : WE X te Γ fun T Γ1 => ∃ i : Int, T = tyI i ∧ κ (tyV (g i)) Γ1) : WE X (tUn (rU g) te) Γ κ := fun σ B H s xo Q q =>
  h σ B H s xo _ fun v B1 H1 T Γ1 k1 s1 b1 t1 => by
    obtain ⟨i, rfl, k⟩ := k1
    exact ⟨i, t1, q _ B1 H1 _ Γ1 k s1 b1 rfl⟩
section
variable {α : Type} {N : List Str} {vs : List V} {H : Hp} {Q : VK} {E : XK}
/-- a def's body, its first statement at the heap of the call -/
theorem run_BH {c : α → Cs} {t : TS} {j n : Nat} (hl : ∀ x, (c x).args.length + 1 ≤ N.length) (h : spB j n c vs H Q E)
    (body : ∀ (x : α) (k : Nat), (c x).pre → ∀ (σ : L2.St) (B : Hp), Sat σ B H (start8 N (.bag j (k + n) :: (c x).args.map .is)) → ExOk ⟨fun _ => E, fun C f T Γ' => (∃ m, Γ'[0]? = some (.bag j m) ∧ k ≤ m) ∧ (c x).out (.exc C f T)⟩ σ (start8 N (.bag j (k + n) :: (c x).args.map .is)) B H →
      ∀ D : Ends, Met σ (start8 N (.bag j (k + n) :: (c x).args.map .is)) B H { nx := fun Γ' => (∃ m, Γ'[0]? = some (.bag j m) ∧ k ≤ m) ∧ (c x).out (.ret tyN), rt := fun T Γ' => (∃ m, Γ'[0]? = some (.bag j m) ∧ k ≤ m) ∧ (c x).out (.ret T) } D → t D σ H) :
    t { nx := fun _ H' => Q .non H', rt := Q } (L2.start N vs) H :=
  (run_B (t := fun D σ H' => H' = H → t D σ H') hl h (fun x k hp => fun σ B H' s xo D m e => by
    subst e
    exact body x k hp σ B s xo D m)) rfl
/-- x = [] there: x is new -/
theorem new_first {X : Xn} {Γ : List Slot} {κs : En} {t : TS} {i : Nat} {σ : L2.St} {B : Hp} {D : Ends} (hi : i < Γ.length) (s : Sat σ B H Γ) (xo : ExOk X σ Γ B H) (m : Met σ Γ B H κs D) (h : ∀ p : Addr, H p = none → WS X t (Γ.set i (.own (mLp p []))) κs) : tSeq (tAsg (tLst tNil) (gName i)) t D σ H := by
  refine ⟨Nat.zero_le _, fun p np => ?_⟩
  have s2 := s.putOwn (i := i) (o := .lst []) (M := mLp p []) hi np ⟨rfl, [], rfl, trivial⟩
  have g2 := s.go_putOwn (i := i) (o := .lst []) (M := mLp p []) hi np
  exact h p np _ _ _ s2 (xo.after g2) D (m.same g2)
end
theorem WL.ownP {X : Xn} {Γ : List Slot} {κ : List Ty → List Slot → Prop} {i : Nat} {p : Addr} {ts : List Ty} (h : Γ[i]? = some (.own (mLp p ts))) (k : κ ts Γ) : WL X (tVar i) Γ κ := fun σ B H s xo Q q => by
  obtain ⟨a, o, h1, h2, _, _, ⟨xs, rfl, h3⟩⟩ := s.own i _ _ h rfl
  exact ⟨.ref a, h1, q a xs B H ts Γ k s (.refl s.bh) h2 h3⟩
end DL
set_option Elab.async false
set_option linter.all false
set_option maxRecDepth 100000
set_option maxHeartbeats 2000000
/-! bool(x) by the own __bool__ -/
namespace Lx
open PySem PySem.Spec PyProof.Rows L2
theorem bool_own {prog : Program} {w : World} {A : Around} {E : Value → Shared → Prop} {s : Shared} {x : Addr} {Q : Value → Shared → Prop} (h : wpAny (model prog w) A.in1.in1 (truthy (.ref x)) (fun b s' => Q (.bool b) s') E s) : wpAny (model prog w) A (call (.type "bool") [.ref x]) Q E s := by
  refine callType_codes (T := "bool") (Bi := Builtin.«object.__init__») (Q₁ := fun r s₁ => (∃ b, r = .bool b) ∧ Q r s₁) PySem.F.called_bool (PySem.F.typeCall_bool_1 _) PySem.F.entry_object_init (codeAny_of_tree ?_) ?_
  · show wpAny _ A.in1.in1 (checkBuiltinCall "bool.__new__" ⟨[.type "bool", .ref x], []⟩ >>= fun _ => again (.builtin "bool.__new__" ⟨[.type "bool", .ref x], []⟩)) _ _ s
    refine wpAny_bind (wpAny_of_eq (PySem.F.newCall_bool_1 _) (wpAny_pure ⟨plainId_quiet (by decide +kernel) _, codeAny_builtin PySem.F.entry_bool_new ?_⟩))
    rw [Around.under_plainId (by decide +kernel) _]
    unfold Builtin.«bool.__new__»
    have f1 := PySem.F.conv_sub_bool
    have f2 : wpAny (model prog w) A.in1.in1 (truthy (.ref x)) (fun b s' => (∃ c, Value.bool b = .bool c) ∧ Q (.bool b) s') E s := wpAny_mono h (fun b s' q => ⟨⟨b, rfl⟩, q⟩) fun _ _ z => z
    first
      | (repeat (any_goals (first | assumption | (with_reducible refine wpAny_bind (wpAny_mono f2 (fun b s' q => ?_) fun _ _ z => z)) | wp_step)))
    all_goals first | exact q | skip
  · rintro obj s₁ ⟨⟨b, rfl⟩, hq⟩
    have ty : s₁.TypeIs (.bool b) "bool" := by first | exact typeIs_bool _ _ | exact typeIs_bool _ | exact Eq.refl _ | rfl | trivial
    exact ⟨ty, PySem.F.args_object_init_2 _ _, object_init_meets PySem.F.called_bool.init.lookup PySem.F.called_bool.made (by decide) prog w A.in1 _ s₁ ⟨ty, rfl, hq⟩⟩
section
variable {X : Cx} {CX : CXT} {k : Nat} {f C : Addr} {sp : Sp} {E : XK}
def rBoolO (C : Addr) (sp : Sp) (E : XK) : List V → Hp → VK → Prop := fun xs H Q => ∃ a dx fs, xs = [.ref a] ∧ H a = some (.ins C dx fs) ∧ sp [.ref a] H (fun v H' => ∃ b : Bool, v = .bl b ∧ Q (.bl b) H') E
theorem call_boolO (S : Spec1 X.K C "__bool__" f) (F : FnR X.prog X.w X.K X.mg X.base CX k f sp) (hr : Room (k + 2) X.A) (hx : Passes CX X E) : CallR X (.type "bool") (rBoolO C sp E) := by
  intro pins s σ H xs us Q I r h
  obtain ⟨a, dx, fs, rfl, ha, h⟩ := h
  obtain ⟨u, rfl, rfl⟩ := vals1 r
  obtain ⟨ox, od, J⟩ := inst_at I ha
  obtain ⟨m, hF⟩ := I.fr
  refine bool_own (PySem.W.truthy_K hF I.ok.mod.kin J S.at_ S.fn ?_)
  refine wpAny_mono (run_at (A := X.A.in1.in1) (us := [.ref a]) (vs := [.ref a]) F hr.in1.in1 rfl hx I (.cons rfl .nil) h) (fun r s' q => ?_) fun _ _ z => z
  obtain ⟨w', H', I', rv, b, rfl, q⟩ := q
  cases rv
  exact ⟨.bl b, H', I', rfl, q⟩
end
end Lx
namespace DL
open PySem L2 Lx PyProof.Rows
theorem rc_boolO {κ : Ty → Prop} {α : Type} {c : α → Cs} {C : Addr} {E : XK} {fs : List (Str × Ty)} (h : Meets c [tyO C fs] fun o => ∃ U, o = .ret U ∧ ∃ b : Bool, U = tyB b ∧ κ (tyB b)) : RC (rBoolO C (spP c) E) [tyO C fs] κ := fun vs B H Q bh t q => by
  obtain ⟨v, rfl, t1⟩ := vals_one t
  have t' := t1
  obtain ⟨a, dx, ws, rfl, e1, e2, e3⟩ := t1
  refine ⟨a, dx, ws, rfl, bh _ _ e1, pure_P (Ts := [tyO C fs]) bh ⟨t', trivial⟩ h fun v B' H' W ⟨b, eW, k⟩ e ok => ?_⟩
  subst eW
  exact ⟨b, ok, q _ B' H' _ k e rfl⟩
end DL
set_option Elab.async false
set_option linter.all false
set_option maxRecDepth 100000
set_option maxHeartbeats 2000000
/-! the second layer: methods that change the thing that they are called on; things that are made and stay ours; while -/
namespace DL
open PySem L2 Lx
inductive OutM where
  | ret (T : Ty) (M : MTy)
  | exc (C : Addr) (f : Str) (T : Ty) (M : MTy)
/-- one case of such a contract: the thing, the arguments, what must hold, what may come out -/
structure CsM where
  me : MTy
  args : List Ty
  pre : Prop := True
  out : OutM → Prop
def spMe {α : Type} (c : α → CsM) : Sp := fun vs H Q E => ∃ (x : α) (B : Hp) (b : Addr) (us : List V) (o : HO), vs = .ref b :: us ∧ Same B H ∧ H b = some o ∧ B b = none ∧ (c x).me.ok b o B ∧ TyAll (c x).args us B ∧ (c x).pre ∧ ∀ r, (c x).out r → match r with
  | .ret T M => ∀ (v : V) (B' H' : Hp) (o' : HO), Eff [b] B H B' H' → H' b = some o' → M.ok b o' B' → T.ok v B' → Q v H'
  | .exc C f T M => ∀ (v : V) (y : Addr) (B' H' : Hp) (o' : HO), Eff [b] B H B' H' → H' b = some o' → M.ok b o' B' → T.ok v B' → H' y = none → E (.ref C) (some y) (upd H' y (.xd [(f, v)]))
def MeetsM {α : Type} (c : α → CsM) (M : MTy) (Ts : List Ty) (W : OutM → Prop) : Prop := ∃ x : α, M = (c x).me ∧ Ts = (c x).args ∧ (c x).pre ∧ ∀ o, (c x).out o → W o
section
variable {X : Xn} {σ : L2.St} {B H : Hp} {Γ : List Slot} {κ : Ty → List Slot → Prop} {κs : En} {K : PySem.W.Frag}
/-- behind a call that changed the thing in slot i -/
theorem Sat.eff {B' H' : Hp} {i : Nat} {b : Addr} {o' : HO} {S S' : Slot} {M N : MTy} (s : Sat σ B H Γ) (hi : Γ[i]? = some S) (hm0 : S.m = some M) (hm1 : S'.m = some N) (hb : σ[i]? = some (some (.ref b))) (e : Eff [b] B H B' H') (h' : H' b = some o') (g : N.ok b o' B') (hf : S'.fix = true → S.fix = true) :
    Sat σ B' H' (Γ.set i S') ∧ Go σ Γ B H σ (Γ.set i S') B' H' := by
  have hl : i < Γ.length := (List.getElem?_eq_some_iff.mp hi).1
  obtain ⟨b', o, e1, e2, e3, _⟩ := s.own i _ _ hi hm0
  rw [hb] at e1
  cases e1
  refine ⟨⟨e.bh, by rw [List.length_set]; exact s.len, fun k U q => ?_, fun k S U q hU => ?_, fun k k' S1 S2 U U' d q hU q' hU' => ?_⟩, ⟨e.bb, e.bh, fun a u h n no => ?_, fun a ⟨k, S, U, h1, h2, h3⟩ => ?_, fun k' S0 q f => ?_⟩⟩
  · rcases get_set q with ⟨rfl, z⟩ | ⟨ne, q⟩
    · rw [← z] at hm1
      cases hm1
    · obtain ⟨v, h1, h2⟩ := s.is_ k U q
      exact ⟨v, h1, U.mono e.bb h2⟩
  · rcases get_set q with ⟨rfl, z⟩ | ⟨ne, q⟩
    · rw [z, hm1] at hU
      cases hU
      exact ⟨b, o', hb, h', e.fr _ _ e2 e3, g⟩
    · obtain ⟨a, u, h1, h2, h3, h4⟩ := s.own k S U q hU
      have nb : a ≠ b := fun z => by
        have d := s.ap k i S _ U _ ne q hU hi hm0
        rw [h1, hb, z] at d
        exact d rfl
      exact ⟨a, u, h1, e.ch _ _ (fun z => nb (List.mem_singleton.mp z)) h2, e.fr _ _ h2 h3, U.mono e.bb h4⟩
  · have f : ∀ {k : Nat} {S1 : Slot} {U : MTy}, (Γ.set i S')[k]? = some S1 → S1.m = some U → ∃ S3 U', Γ[k]? = some S3 ∧ S3.m = some U' := fun {k S1 U} q hU => by
      rcases get_set q with ⟨e, _⟩ | ⟨ne, q⟩
      · exact ⟨_, _, by rw [e]; exact hi, hm0⟩
      · exact ⟨S1, U, q, hU⟩
    obtain ⟨S3, V1, q1, m1⟩ := f q hU
    obtain ⟨S4, V2, q2, m2⟩ := f q' hU'
    exact s.ap k k' S3 S4 V1 V2 d q1 m1 q2 m2
  · have nb : a ≠ b := fun z => no ⟨i, _, _, hi, hm0, by rw [hb, z]⟩
    exact ⟨e.ch _ _ (fun z => nb (List.mem_singleton.mp z)) h, e.fr _ _ h n⟩
  · rcases get_set h1 with ⟨e1', z⟩ | ⟨ne, q1⟩
    · subst e1'
      exact .inl ⟨k, _, _, hi, hm0, h3⟩
    · exact .inl ⟨k, S, U, q1, h2, h3⟩
  · rcases get_set q with ⟨e1', z⟩ | ⟨ne, q1⟩
    · rw [e1']
      exact ⟨rfl, _, hi, hf (by rw [← z]; exact f)⟩
    · exact ⟨rfl, S0, q1, f⟩
/-- a slot's thing, changed -/
def Slot.to : Slot → MTy → Slot
  | .own _, M => .own M
  | .me _, M => .me M
  | S, _ => S
def IsMine (S : Slot) (M : MTy) : Prop := S = .own M ∨ S = .me M
theorem IsMine.m {S : Slot} {M : MTy} (h : IsMine S M) : S.m = some M := by rcases h with rfl | rfl <;> rfl
theorem IsMine.to {S : Slot} {M N : MTy} (h : IsMine S M) : (S.to N).m = some N ∧ ((S.to N).fix = true → S.fix = true) := by rcases h with rfl | rfl <;> exact ⟨rfl, id⟩
theorem apply_Me {α : Type} {c : α → CsM} {Ts : List Ty} {us : List V} {Q : VK} {i : Nat} {b : Addr} {S : Slot} {M : MTy} (s : Sat σ B H Γ) (xo : ExOk X σ Γ B H) (hi : Γ[i]? = some S) (hS : IsMine S M) (hb : σ[i]? = some (some (.ref b))) (t : TyAll Ts us B)
    (h : MeetsM c M Ts fun o => match o with | .ret T N => κ T (Γ.set i (S.to N)) | .exc C f T N => X.χ C f T (Γ.set i (S.to N)))
    (q : ∀ (v : V) (B' H' : Hp) (T : Ty) (Γ' : List Slot), κ T Γ' → Sat σ B' H' Γ' → Go σ Γ B H σ Γ' B' H' → T.ok v B' → Q v H') : spMe c (.ref b :: us) H Q (X.E σ) := by
  obtain ⟨x, rfl, rfl, hp, ho⟩ := h
  obtain ⟨b', o, e1, e2, e3, e4⟩ := s.own i _ _ hi hS.m
  rw [hb] at e1
  cases e1
  refine ⟨x, B, b, us, o, rfl, s.bh, e2, e3, e4, t, hp, fun r hr => ?_⟩
  have w := ho r hr
  cases r with
  | ret T N =>
    intro v B' H' o' e h' g ok
    obtain ⟨s', g'⟩ := s.eff hi hS.m (hS.to (N := N)).1 hb e h' g hS.to.2
    exact q v B' H' T _ w s' g' ok
  | exc C f T N =>
    intro v y B' H' o' e h' g ok n
    obtain ⟨s', g'⟩ := s.eff hi hS.m (hS.to (N := N)).1 hb e h' g hS.to.2
    exact xo σ v y B' H' C f T _ w s' g' ok n
/-- x.m(..), x the thing in slot i, changed by m -/
theorem WE.methMe {α : Type} {C : Addr} {m : Str} {c : α → CsM} {E : XK} {t : TA} {i : Nat} {S0 : Slot} {fs : List (Str × Ty)} (hE : ∀ σ, X.E σ = E) (h0 : Γ[i]? = some S0) (hS0 : IsMine S0 (mO C fs)) (hn : fs.lookup m = none)
    (h : WA X t Γ fun Ts Γ1 => ∃ (S : Slot) (M : MTy), Γ1[i]? = some S ∧ IsMine S M ∧ MeetsM c M Ts fun o => match o with | .ret T N => κ T (Γ1.set i (S.to N)) | .exc C f T N => X.χ C f T (Γ1.set i (S.to N))) : WE X (tMeth C m (spMe c) [] E (tVar i) t) Γ κ := fun σ B H s xo Q q => by
  obtain ⟨b, o, e1, e2, e3, dx, ws, rfl, e4, e5⟩ := s.own i _ _ h0 hS0.m
  refine ⟨.ref b, e1, b, dx, ws, rfl, e2, lookup_names e4 hn, h σ B H s xo _ fun vs B1 H1 Ts Γ1 k1 s1 b1 t1 => ?_⟩
  obtain ⟨S, M, hi, hS, hm⟩ := k1
  rw [List.append_nil, ← hE σ]
  exact apply_Me s1 (xo.after b1) hi hS e1 t1 hm fun v B' H' T Γ' k s' g' ok => q v B' H' T Γ' k s' (b1.trans g') ok
end
/-! such a def's body -/
section
variable {α : Type} {N : List Str} {vs : List V} {H : Hp} {Q : VK} {E : XK}
theorem start_me {B H : Hp} {b : Addr} {us : List V} {Ts : List Ty} {o : HO} {M : MTy} (bh : Same B H) (hl : Ts.length + 1 ≤ N.length) (hb : H b = some o) (nb : B b = none) (hk : M.ok b o B) (ta : TyAll Ts us B) : Sat (L2.start N (.ref b :: us)) B H (start8 N (.me M :: Ts.map .is)) ∧ ∀ a, a ≠ b → ¬ Own (L2.start N (.ref b :: us)) (start8 N (.me M :: Ts.map .is)) a := by
  have st0 : (L2.start N (.ref b :: us))[0]? = some (some (V.ref b)) := rfl
  refine ⟨sat_start (Ts := Ts) bh (by rw [List.length_cons, ta.length]; exact hl) (by rw [List.length_cons, List.length_cons, List.length_map, ta.length]) (fun i T q => ?_) (fun i S' M' q hm => ?_), fun a n ⟨i, S, M', h1, h2, h3⟩ => ?_⟩
  · cases i with
    | zero => cases q
    | succ i =>
      rw [List.getElem?_cons_succ, List.getElem?_map] at q
      cases e : Ts[i]? with
      | none => rw [e] at q; cases q
      | some U =>
        rw [e] at q
        cases q
        exact ta.get e
  · cases i with
    | zero =>
      cases q
      cases hm
      exact ⟨rfl, b, o, rfl, hb, nb, hk⟩
    | succ i =>
      rw [List.getElem?_cons_succ, List.getElem?_map] at q
      cases e : Ts[i]? with
      | none => rw [e] at q; cases q
      | some U =>
        rw [e] at q
        cases q
        cases hm
  · cases i with
    | zero =>
      rw [st0] at h3
      cases h3
      exact n rfl
    | succ i =>
      unfold start8 at h1
      rcases Nat.lt_or_ge (i + 1) (Slot.me M :: Ts.map Slot.is).length with q | q
      · rw [List.getElem?_append_left q, List.getElem?_cons_succ, List.getElem?_map] at h1
        cases e : Ts[i]? with
        | none => rw [e] at h1; cases h1
        | some U =>
          rw [e] at h1
          cases h1
          cases h2
      · rw [List.getElem?_append_right q] at h1
        rw [List.eq_of_mem_replicate (List.mem_of_getElem? h1)] at h2
        cases h2
theorem run_Me {c : α → CsM} {t : TS} (hl : ∀ x, (c x).args.length + 1 ≤ N.length) (h : spMe c vs H Q E)
    (body : ∀ x : α, (c x).pre → WS ⟨fun _ => E, fun C f T Γ' => ∃ M, Γ'[0]? = some (.me M) ∧ (c x).out (.exc C f T M)⟩ t (start8 N (.me (c x).me :: (c x).args.map .is)) { nx := fun Γ' => ∃ M, Γ'[0]? = some (.me M) ∧ (c x).out (.ret tyN M), rt := fun T Γ' => ∃ M, Γ'[0]? = some (.me M) ∧ (c x).out (.ret T M) }) :
    t { nx := fun _ H' => Q .non H', rt := Q } (L2.start N vs) H := by
  obtain ⟨x, B, b, us, o, rfl, bh, hb, nb, hk, ta, hp, ho⟩ := h
  obtain ⟨sa, no⟩ := start_me (N := N) bh (hl x) hb nb hk ta
  have ef : ∀ {σ' : L2.St} {Γ' : List Slot} {B' H' : Hp} {M : MTy}, Γ'[0]? = some (.me M) → Sat σ' B' H' Γ' → Go (L2.start N (.ref b :: us)) (start8 N (.me (c x).me :: (c x).args.map .is)) B H σ' Γ' B' H' → ∃ o', Eff [b] B H B' H' ∧ H' b = some o' ∧ M.ok b o' B' := fun {σ' Γ' B' H' M} hm s g => by
    obtain ⟨e0, _⟩ := g.bg 0 _ hm rfl
    obtain ⟨b', o', q1, q2, q3, q4⟩ := s.own 0 _ _ hm rfl
    rw [e0] at q1
    cases (show some (some (V.ref b)) = some (some (V.ref b')) from q1)
    have all : ∀ a o, a ≠ b → H a = some o → H' a = some o := fun a o ne h => by
      cases e : B a with
      | none => exact (g.fr a o h e (no a ne)).1
      | some u =>
        have h2 := bh a u e
        rw [h] at h2
        cases h2
        exact g.bh a o (g.same a o e)
    refine ⟨o', ⟨g.same, g.bh, fun a o h e => ?_, fun a o n h => all a o (fun z => n (List.mem_singleton.mpr z)) h, fun a o h => ?_⟩, q2, q4⟩
    · by_cases z : a = b
      · rw [z]
        exact q3
      · exact (g.fr a o h e (no a z)).2
    · by_cases z : a = b
      · exact ⟨o', by rw [z]; exact q2⟩
      · exact ⟨o, all a o z h⟩
  refine body x hp _ B H sa (fun σ' v y B' H' C f T Γ' kk s g ok n => ?_) _ ⟨fun σ' B' H' Γ' kk s g => ?_, fun σ' v B' H' T Γ' kk s g ok => ?_, fun _ _ _ _ kk => kk.elim, fun _ _ _ _ kk => kk.elim⟩
  · obtain ⟨M, hm, kk⟩ := kk
    obtain ⟨o', e1, e2, e3⟩ := ef hm s g
    exact ho _ kk v y B' H' o' e1 e2 e3 ok n
  · obtain ⟨M, hm, kk⟩ := kk
    obtain ⟨o', e1, e2, e3⟩ := ef hm s g
    exact ho _ kk .non B' H' o' e1 e2 e3 rfl
  · obtain ⟨M, hm, kk⟩ := kk
    obtain ⟨o', e1, e2, e3⟩ := ef hm s g
    exact ho _ kk v B' H' o' e1 e2 e3 ok
/-! new instances that stay ours -/
def spNewM (C : Addr) (c : α → CsM) : Sp := fun vs H Q E => ∃ (z : α) (B0 H0 : Hp) (x dx : Addr) (us : List V), vs = .ref x :: us ∧ H0 x = none ∧ H0 dx = none ∧ dx ≠ x ∧ H = upd (upd H0 dx (.own x)) x (.ins C dx []) ∧ Same B0 H0 ∧ TyAll (c z).args us B0 ∧ (c z).pre ∧ ∀ o, (c z).out o → match o with
  | .ret _ M => ∀ (B' H' : Hp) (u : HO), Eff [] B0 H0 B' H' → H' x = some u → B' x = none → M.ok x u B' → Q .non H'
  | .exc D f T _ => ∀ (v : V) (y : Addr) (B' H' : Hp), Eff [] B0 H0 B' H' → T.ok v B' → H' y = none → E (.ref D) (some y) (upd H' y (.xd [(f, v)]))
theorem run_newM {C : Addr} {c : α → CsM} {t : TS} (hl : ∀ x, (c x).args.length + 1 ≤ N.length) (h : spNewM C c vs H Q E)
    (body : ∀ x : α, (c x).pre → WS ⟨fun _ => E, fun C f T Γ' => ∃ M, (c x).out (.exc C f T M)⟩ t (start8 N (.me (mO C []) :: (c x).args.map .is)) { nx := fun Γ' => ∃ M, Γ'[0]? = some (.me M) ∧ (c x).out (.ret tyN M), rt := fun _ _ => False }) :
    t { nx := fun _ H' => Q .non H', rt := Q } (L2.start N vs) H := by
  obtain ⟨z, B, H0, x, dx, us, rfl, nx, nd, ne, rfl, bh, ta, hp, ho⟩ := h
  have bx : B x = none := base_none bh nx
  have keep : ∀ a o, H0 a = some o → a ≠ x ∧ upd (upd H0 dx (.own x)) x (.ins C dx []) a = some o := fun a o e => by
    have n1 : a ≠ x := fun z => by rw [z, nx] at e; cases e
    have n2 : a ≠ dx := fun z => by rw [z, nd] at e; cases e
    exact ⟨n1, by rw [upd_ne n1, upd_ne n2]; exact e⟩
  have bh' : Same B (upd (upd H0 dx (.own x)) x (.ins C dx [])) := fun a o e => (keep a o (bh a o e)).2
  obtain ⟨sa, no⟩ := start_me (N := N) (M := mO C []) bh' (hl z) upd_same bx ⟨dx, [], rfl, rfl, trivial⟩ ta
  have ef : ∀ {σ' : L2.St} {Γ' : List Slot} {B' H' : Hp}, Go (L2.start N (.ref x :: us)) (start8 N (.me (mO C []) :: (c z).args.map .is)) B (upd (upd H0 dx (.own x)) x (.ins C dx [])) σ' Γ' B' H' → Eff [] B H0 B' H' := fun {σ' Γ' B' H'} g =>
    have all : ∀ a o, H0 a = some o → H' a = some o := fun a o h => by
      cases e : B a with
      | none => exact (g.fr a o (keep a o h).2 e (no a (keep a o h).1)).1
      | some u =>
        have h2 := bh a u e
        rw [h] at h2
        cases h2
        exact g.bh a o (g.same a o e)
    ⟨g.same, g.bh, fun a o h e => (g.fr a o (keep a o h).2 e (no a (keep a o h).1)).2, fun a o _ h => all a o h, fun a o h => ⟨o, all a o h⟩⟩
  refine body z hp _ B _ sa (fun σ' v y B' H' C f T Γ' k s g ok n => ?_) _ ⟨fun σ' B' H' Γ' k s g => ?_, fun _ _ _ _ _ _ z => z.elim, fun _ _ _ _ z => z.elim, fun _ _ _ _ z => z.elim⟩
  · obtain ⟨M, k⟩ := k
    exact ho _ k v y B' H' (ef g) ok n
  · obtain ⟨M, e0, k⟩ := k
    obtain ⟨b0, _⟩ := g.bg 0 _ e0 rfl
    obtain ⟨a, o, e1, e2, e3, e4⟩ := s.own 0 _ _ e0 rfl
    rw [b0] at e1
    cases (show some (some (V.ref x)) = some (some (V.ref a)) from e1)
    exact ho _ k _ H' o (ef g) e2 e3 e4
end
section
variable {X : Xn} {Γ : List Slot} {κs : En}
theorem WO.make {α : Type} {C : Addr} {c : α → CsM} {E : XK} {t : TA} {κ : MTy → List Slot → Prop} (hE : ∀ σ, X.E σ = E) (h : WA X t Γ fun Ts Γ1 => ∃ x : α, Ts = (c x).args ∧ (c x).pre ∧ ∀ o, (c x).out o → match o with | .ret _ M => κ M Γ1 | .exc D f T _ => X.χ D f T Γ1) : WO X (tMake C (spNewM C c) [] E t) Γ κ := fun σ B H s xo Q q =>
  h σ B H s xo _ fun vs B1 H1 Ts Γ1 k1 s1 b1 t1 x dx nx nd ne => by
    rw [List.append_nil, ← hE σ]
    obtain ⟨z, rfl, hp, ho⟩ := k1
    refine ⟨z, B1, H1, x, dx, vs, rfl, nx, nd, ne, rfl, s1.bh, t1, hp, fun o hr => ?_⟩
    have w := ho o hr
    cases o with
    | ret T M =>
      intro B' H' u ef hu nb ok
      have s2 := s1.step ef
      have no : ¬ Own σ Γ1 x := fun z => by
        obtain ⟨o, e, _⟩ := z.of_step s1
        rw [nx] at e
        cases e
      have s3 := s2.rem nb no
      have g3 : Go σ Γ1 B1 H1 σ Γ1 B' (DL.rem H' x) := by
        have := (ef.go (σ := σ) (Γ := Γ1)).rem (D := x) nb
        rwa [rem_none nx] at this
      have qq := q x u B' (DL.rem H' x) M Γ1 w s3 (b1.trans g3) rem_self ok
      rw [upd_rem hu] at qq
      exact ⟨rfl, qq⟩
    | exc D f T M => exact fun v y B' H' e ok n => xo.after b1 σ v y B' H' D f T Γ1 w (s1.step e) e.go ok n
theorem WS.whileI {c : TT} {tb : TS} (I : Nat → List Slot → Prop) (n : Nat) (h0 : I n Γ) (h : ∀ (n : Nat) (Γ1 : List Slot), I n Γ1 → WT X c Γ1 fun b Γ2 => (b = true → WS X tb Γ2 { nx := fun Γ3 => ∃ m, m < n ∧ I m Γ3, ct := fun Γ3 => ∃ m, m < n ∧ I m Γ3, bk := κs.nx, rt := κs.rt }) ∧ (b = false → κs.nx Γ2)) : WS X (tWhile c tb) Γ κs := fun σ B H s xo D m => by
  refine ⟨fun j σ' H' => ∃ B' Γ', I j Γ' ∧ Sat σ' B' H' Γ' ∧ Go σ Γ B H σ' Γ' B' H', ⟨n, B, Γ, h0, s, .refl s.bh⟩, ?_⟩
  rintro j σ' H' ⟨B', Γ', hI, s', g⟩
  refine h j Γ' hI σ' B' H' s' (xo.after g) _ fun b B1 H1 Γ1 k1 s1 b1 => ?_
  have g1 := g.trans b1
  cases b with
  | true =>
    refine if_true_of rfl ⟨fun σ2 H2 => ∃ m', m' < j ∧ ∃ B' Γ', I m' Γ' ∧ Sat σ2 B' H2 Γ' ∧ Go σ Γ B H σ2 Γ' B' H2, fun σ2 H2 q => q, ?_⟩
    refine k1.1 rfl σ' B1 H1 s1 (xo.after g1) _ ⟨fun σ2 B2 H2 Γ2 k2 s2 b2 => ?_, fun σ2 v B2 H2 T Γ2 k2 s2 b2 ok => m.rt σ2 v B2 H2 T Γ2 k2 s2 (g1.trans b2) ok, fun σ2 B2 H2 Γ2 k2 s2 b2 => m.nx σ2 B2 H2 Γ2 k2 s2 (g1.trans b2), fun σ2 B2 H2 Γ2 k2 s2 b2 => ?_⟩
    · obtain ⟨m', lt, hI'⟩ := k2
      exact ⟨m', lt, B2, Γ2, hI', s2, g1.trans b2⟩
    · obtain ⟨m', lt, hI'⟩ := k2
      exact ⟨m', lt, B2, Γ2, hI', s2, g1.trans b2⟩
  | false => exact if_false_of rfl (m.nx σ' B1 H1 Γ1 (k1.2 rfl) s1 g1)
end
end DL
set_option Elab.async false
set_option linter.all false
set_option maxRecDepth 100000
set_option maxHeartbeats 2000000
/-! the second layer: dicts of our own, that grow and are read; lent for some statements -/
namespace DL
open PySem L2 Lx PyProof.Rows
def mD (kvs : List (Key × Ty)) : MTy := ⟨fun _ o B => ∃ ws, o = .dK ws ∧ ws.map Prod.fst = kvs.map Prod.fst ∧ TyAll (kvs.map Prod.snd) (ws.map Prod.snd) B, fun s ⟨ws, e, k, h⟩ => ⟨ws, e, k, h.mono s⟩⟩
/-- in its place, or at the end -/
def putKT (kvs : List (Key × Ty)) (k : Key) (T : Ty) : List (Key × Ty) :=
  if (kvs.any fun kv => decide (kv.1 = k)) = true then kvs.map (fun kv => if kv.1 = k then (kv.1, T) else kv) else kvs ++ [(k, T)]
theorem putKT_new {kvs : List (Key × Ty)} {k : Key} {T : Ty} (h : k ∉ kvs.map Prod.fst) : putKT kvs k T = kvs ++ [(k, T)] := by
  unfold putKT
  rw [if_neg]
  intro e
  rw [List.any_eq_true] at e
  obtain ⟨x, hx, e⟩ := e
  exact h (List.mem_map.mpr ⟨x, hx, of_decide_eq_true e⟩)
theorem any_fst {α β : Type} {k : Key} : ∀ {xs : List (Key × α)} {ys : List (Key × β)}, xs.map Prod.fst = ys.map Prod.fst → (xs.any fun kv => decide (kv.1 = k)) = (ys.any fun kv => decide (kv.1 = k))
  | [], [], _ => rfl
  | [], _ :: _, e => by cases e
  | _ :: _, [], e => by cases e
  | x :: xs, y :: ys, e => by
    simp only [List.map_cons, List.cons.injEq] at e
    rw [List.any_cons, List.any_cons, any_fst e.2, e.1]
theorem put_map {k : Key} {v : V} {T : Ty} {B : Hp} (t : T.ok v B) : ∀ {ws : List (Key × V)} {kvs : List (Key × Ty)}, ws.map Prod.fst = kvs.map Prod.fst → TyAll (kvs.map Prod.snd) (ws.map Prod.snd) B →
    (ws.map fun kv => if kv.1 = k then (kv.1, v) else kv).map Prod.fst = (kvs.map fun kv => if kv.1 = k then (kv.1, T) else kv).map Prod.fst ∧ TyAll ((kvs.map fun kv => if kv.1 = k then (kv.1, T) else kv).map Prod.snd) ((ws.map fun kv => if kv.1 = k then (kv.1, v) else kv).map Prod.snd) B
  | [], [], _, _ => ⟨rfl, trivial⟩
  | [], _ :: _, e, _ => by cases e
  | _ :: _, [], e, _ => by cases e
  | (k1, v1) :: ws, (k2, T2) :: kvs, e, h => by
    simp only [List.map_cons, List.cons.injEq] at e
    obtain ⟨e1, e⟩ := e
    subst e1
    obtain ⟨h1, h2⟩ := put_map (k := k) t e h.2
    by_cases q : k1 = k
    · simp only [List.map_cons, q, if_true]
      exact ⟨by rw [h1], t, h2⟩
    · simp only [List.map_cons, q, if_false]
      exact ⟨by rw [h1], h.1, h2⟩
theorem putK_ok {k : Key} {v : V} {T : Ty} {B : Hp} {ws : List (Key × V)} {kvs : List (Key × Ty)} (t : T.ok v B) (e : ws.map Prod.fst = kvs.map Prod.fst) (h : TyAll (kvs.map Prod.snd) (ws.map Prod.snd) B) :
    (putK ws k v).map Prod.fst = (putKT kvs k T).map Prod.fst ∧ TyAll ((putKT kvs k T).map Prod.snd) ((putK ws k v).map Prod.snd) B := by
  unfold putK putKT
  rw [any_fst e]
  by_cases q : (kvs.any fun kv => decide (kv.1 = k)) = true
  · rw [if_pos q, if_pos q]
    exact put_map t e h
  · rw [if_neg q, if_neg q]
    refine ⟨by rw [List.map_append, List.map_append, e]; rfl, ?_⟩
    rw [List.map_append, List.map_append]
    exact h.snoc t
theorem len_fst {α β : Type} {xs : List (Key × α)} {ys : List (Key × β)} (e : xs.map Prod.fst = ys.map Prod.fst) : xs.length = ys.length := by
  have := congrArg List.length e
  rwa [List.length_map, List.length_map] at this
section
variable {X : Xn} {Γ : List Slot} {κ : Ty → List Slot → Prop} {κs : En} {K : PySem.W.Frag}
theorem WO.dnew {κ : MTy → List Slot → Prop} (k : κ (mD []) Γ) : WO X tDNewK Γ κ := fun σ B H s xo Q q p np => q p _ B H (mD []) Γ k s (.refl s.bh) np ⟨[], rfl, rfl, trivial⟩
/-- d[k] = v -/
theorem WS.putD {i : Nat} {ty tv : TE} (h : WE X tv Γ fun T Γ1 => ∃ kvs0, Γ1[i]? = some (.own (mD kvs0)) ∧ WE X ty Γ1 fun U Γ2 => ∃ k kvs, U = tyV (kV k) ∧ Γ2[i]? = some (.own (mD kvs)) ∧ kvs.length < sizeLine ∧ κs.nx (Γ2.set i (.own (mD (putKT kvs k T))))) : WS X (sDPut (tVar i) ty tv) Γ κs := fun σ B H s xo D m =>
  h σ B H s xo _ fun v B1 H1 T Γ1 k1 s1 b1 t1 => by
    obtain ⟨kvs0, e0, k1⟩ := k1
    obtain ⟨a, o, f1, f2, f3, _⟩ := s1.own i _ _ e0 rfl
    refine ⟨.ref a, f1, k1 σ B1 H1 s1 (xo.after b1) _ fun u B2 H2 U Γ2 k2 s2 b2 t2 => ?_⟩
    obtain ⟨k, kvs, rfl, e2, few, kk⟩ := k2
    cases t2
    obtain ⟨a', o', g1, g2, g3, ⟨ws, rfl, g4, g5⟩⟩ := s2.own i _ _ e2 rfl
    rw [f1] at g1
    cases g1
    have ch := s2.change (S' := .own (mD (putKT kvs k T))) e2 rfl rfl f1 ⟨putK ws k v, rfl, putK_ok (T.mono b2.same t1) g4 g5⟩ nofun
    exact ⟨a, _, rfl, DPut.k g2 (by rw [len_fst g4]; exact few), m.nx σ B2 _ _ kk ch.1 ((b1.trans b2).trans ch.2)⟩
/-- d[k] -/
theorem WE.dgetO {i : Nat} {ty : TE} {kvs0 : List (Key × Ty)} (h0 : Γ[i]? = some (.own (mD kvs0))) (h : WE X ty Γ fun U Γ1 => ∃ k kvs W, U = tyV (kV k) ∧ Γ1[i]? = some (.own (mD kvs)) ∧ lookT kvs k = some W ∧ κ W Γ1) : WE X (tDGet (tVar i) ty) Γ κ := fun σ B H s xo Q q => by
  obtain ⟨a, o, e1, e2, e3, _⟩ := s.own i _ _ h0 rfl
  refine ⟨.ref a, e1, h σ B H s xo _ fun v B1 H1 U Γ1 k1 s1 b1 t1 => ?_⟩
  obtain ⟨k, kvs, W, rfl, f0, lk, kk⟩ := k1
  cases t1
  obtain ⟨a', o', f1, f2, f3, ws, rfl, f4, f5⟩ := s1.own i _ _ f0 rfl
  rw [e1] at f1
  cases f1
  obtain ⟨x, v1, v2⟩ := lookT_val f4 f5 lk
  have g := DGet.k (k := k) f2
  rw [v1] at g
  exact ⟨a, x, rfl, g, q x B1 H1 W Γ1 kk s1 b1 v2⟩
/-- a dict of ours stands still from here on -/
theorem WS.frzD {t : TS} {i : Nat} {kvs : List (Key × Ty)} (h : Γ[i]? = some (.own (mD kvs))) (k : WS X t (Γ.set i (.is (tyD kvs))) κs) : WS X t Γ κs := fun σ B H s xo D m => by
  obtain ⟨a, o, h1, h2, h3, ⟨xs, rfl, h4, h5⟩⟩ := s.own i _ _ h rfl
  obtain ⟨s', b⟩ := s.freeze h h1 h2
  have s2 := s'.put (i := i) (v := .ref a) (T := tyD kvs) ⟨a, xs, rfl, upd_same, h4, h5.mono b.same⟩
  have g2 : Go σ (Γ.set i Slot.no) _ H (σ.set i (some (V.ref a))) ((Γ.set i Slot.no).set i (.is (tyD kvs))) _ H := go_put0 s'.bh rfl
  have es : σ.set i (some (V.ref a)) = σ := by
    refine List.ext_getElem? fun k => ?_
    by_cases e : i = k
    · subst e
      rw [List.getElem?_set_self (by rw [s.len]; exact (List.getElem?_eq_some_iff.mp h).1), h1]
    · rw [List.getElem?_set_ne e]
  rw [es, List.set_set] at s2 g2
  exact k σ _ H s2 (xo.after (b.trans g2)) D (m.same (b.trans g2))
/-- [k for k in d], d at j -/
theorem keys_raw {σ : L2.St} {H : Hp} {Q : VK} {td : Addr} {us : List (Key × V)} {j n : Nat} (e1 : σ[j]? = some (some (.ref td))) (hT : H td = some (.dK us)) (i1 : j ≠ n) (ln : n < σ.length) (few : us.length < sizeLine)
    (q : ∀ D, H D = none → Q (.ref D) (upd H D (.lst (us.map fun kv => kV kv.1)))) : tLockE (tLc (iKeys (tVar j)) (gName n) tYes (tVar n) [n]) σ H Q := by
  refine ⟨td, .dK us, hT, trivial, fun od => ?_⟩
  generalize hHL : upd H td (.frz od (.dK us)) = HL
  have hLt : HL td = some (.frz od (.dK us)) := by rw [← hHL]; exact upd_same
  have hLo : ∀ b, b ≠ td → HL b = H b := fun b n => by rw [← hHL]; exact upd_ne n
  have wo : (L2.wipe σ [n])[j]? = σ[j]? := wipe_out (by simp [i1])
  have lw : (L2.wipe σ [n]).length = σ.length := wipe_length ..
  refine ⟨.ref td, e1, td, od, rfl, .inl ⟨us, hLt, fun D nD => ?_⟩⟩
  have Dtd : D ≠ td := fun z => by rw [z, hLt] at nD; cases nD
  have nDH : H D = none := by rw [← hLo _ Dtd]; exact nD
  have rdD : ∀ o, upd HL D o td = some (.frz od (.dK us)) := fun o => by rw [upd_ne Dtd.symm]; exact hLt
  generalize hacc : (us.map fun kv => kV kv.1) = acc
  have lacc : acc.length = us.length := by rw [← hacc, List.length_map]
  refine ⟨fun i m H' => i ≤ us.length ∧ m = us.length - i ∧ H' = upd HL D (.lst (acc.take i)), ⟨us.length, Nat.zero_le _, by simp, by rw [List.take_zero]⟩, ?_⟩
  rintro i m H' ⟨hi, rfl, rfl⟩
  by_cases hlt : i < us.length
  · refine .inr ⟨⟨rdD _, hlt⟩, fun H' => H' = upd HL D (.lst (acc.take (i + 1))), fun H' e => ⟨us.length - (i + 1), by omega, hlt, rfl, e⟩, ?_⟩
    rintro x H' ⟨rfl, kx, vx, ex, rfl⟩
    have w1 : L2.wipe ((L2.wipe σ [n]).set n (some (kV kx))) [n] = L2.wipe σ [n] := (wipe_set (by simp)).trans wipe_wipe
    refine ⟨w1, ?_⟩
    dsimp only [tYes]
    rw [if_pos rfl]
    have sn : ((L2.wipe σ [n]).set n (some (kV kx)))[n]? = some (some (kV kx)) := List.getElem?_set_self (by omega)
    have ea : acc[i]? = some (kV kx) := by
      rw [← hacc, List.getElem?_map, ex]
      rfl
    have et : acc.take (i + 1) = acc.take i ++ [kV kx] := by rw [List.take_add_one, ea]; rfl
    refine ⟨kV kx, sn, acc.take i, upd_same, ?_, ?_⟩
    · rw [List.length_take]
      omega
    · rw [upd_upd, et]
  · have e : i = us.length := by omega
    subst e
    rw [← lacc, List.take_length]
    refine .inl ⟨⟨rdD _, by omega⟩, rdD _, ?_⟩
    have eh : upd (upd HL D (.lst acc)) td (.dK us) = upd H D (.lst acc) := by
      funext b
      by_cases b1 : b = td
      · rw [b1, upd_same, upd_ne Dtd.symm, hT]
      · rw [upd_ne b1]
        by_cases b2 : b = D
        · rw [b2, upd_same, upd_same]
        · rw [upd_ne b2, upd_ne b2, hLo _ b1]
    rw [eh, ← hacc]
    exact q D nDH
theorem keys_ty {B : Hp} {us : List (Key × V)} {kvs : List (Key × Ty)} (h : us.map Prod.fst = kvs.map Prod.fst) : TyAll (kvs.map fun kv => tyV (kV kv.1)) (us.map fun kv => kV kv.1) B := by
  have e1 : (us.map fun kv => kV kv.1) = (us.map Prod.fst).map kV := by rw [List.map_map]; rfl
  have e2 : (kvs.map fun kv => tyV (kV kv.1)) = ((kvs.map Prod.fst).map kV).map tyV := by rw [List.map_map, List.map_map]; rfl
  rw [e1, e2, h]
  exact .ofVals _
/-- [k for k in d], d of our own -/
theorem WE.keysO {kvs : List (Key × Ty)} {j n : Nat} (h0 : Γ[j]? = some (.own (mD kvs))) (i1 : j ≠ n) (ln : n < Γ.length) (few : kvs.length < sizeLine) (k : κ (tyL (kvs.map fun kv => tyV (kV kv.1))) Γ) : WE X (tLockE (tLc (iKeys (tVar j)) (gName n) tYes (tVar n) [n])) Γ κ := fun σ B H s xo Q q => by
  obtain ⟨a, o, f1, f2, f3, us, rfl, f4, f5⟩ := s.own j _ _ h0 rfl
  exact keys_raw f1 f2 i1 (by rw [s.len]; exact ln) (by rw [len_fst f4]; exact few) fun D nD => q _ _ _ _ Γ k (s.step (.new s.bh nD)) (Eff.go (.new s.bh nD)) ⟨D, _, rfl, upd_same, keys_ty f4⟩
/-- [k for k in d], d a value -/
theorem WE.keysD {kvs : List (Key × Ty)} {j n : Nat} (h0 : Γ[j]? = some (.is (tyD kvs))) (i1 : j ≠ n) (ln : n < Γ.length) (few : kvs.length < sizeLine) (k : κ (tyL (kvs.map fun kv => tyV (kV kv.1))) Γ) : WE X (tLockE (tLc (iKeys (tVar j)) (gName n) tYes (tVar n) [n])) Γ κ := fun σ B H s xo Q q => by
  obtain ⟨v, f1, a, us, rfl, f2, f4, f5⟩ := s.is_ j _ h0
  exact keys_raw f1 (s.bh _ _ f2) i1 (by rw [s.len]; exact ln) (by rw [len_fst f4]; exact few) fun D nD => q _ _ _ _ Γ k (s.step (.new s.bh nD)) (Eff.go (.new s.bh nD)) ⟨D, _, rfl, upd_same, keys_ty f4⟩
end
/-! lent -/
section
variable {p : Addr} {K : PySem.W.Frag} {us : List (Key × Ty)} {ts : List Ty}
theorem atT_dict {kvs : List (Key × Ty)} {v : V} {B : Hp} (h : (atT p (mD kvs)).ok v B) : (tyD kvs).ok v B := by
  obtain ⟨rfl, o, e, xs, rfl, k, t⟩ := h
  exact ⟨p, xs, rfl, e, k, t.mono rem_sub⟩
theorem avdD_t (a : AvdS p (mD us) ts) : Avd p (mD us) (tyT K ts) (tyT K ts) := fun v B o hp hk ⟨x, xs, e, h, t⟩ => by
  refine ⟨x, xs, e, ?_, a.all hp hk t⟩
  obtain ⟨ys, rfl, _⟩ := hk
  rcases h with (h | ⟨u, h⟩) | h
  · have ne : x ≠ p := fun z => by rw [z, hp] at h; cases h
    exact .inl (.inl (by rw [rem_ne ne]; exact h))
  · have ne : x ≠ p := fun z => by rw [z, hp] at h; cases h
    exact .inl (.inr ⟨u, by rw [rem_ne ne]; exact h⟩)
  · exact .inr h
theorem avdD_f (a : AvdS p (mD us) ts) : Avd p (mD us) (tyF ts) (tyF ts) := fun v B o hp hk ⟨x, u, xs, e, h, d, t⟩ => by
  refine ⟨x, u, xs, e, ?_, d, a.all hp hk t⟩
  obtain ⟨ys, rfl, _⟩ := hk
  have ne : x ≠ p := fun z => by rw [z, hp] at h; cases h
  rw [rem_ne ne]
  exact h
theorem avdD_l (a : AvdS p (mD us) ts) : Avd p (mD us) (tyL ts) (tyL ts) := fun v B o hp hk ⟨x, xs, e, h, t⟩ => by
  refine ⟨x, xs, e, ?_, a.all hp hk t⟩
  obtain ⟨ys, rfl, hy⟩ := hk
  have ne : x ≠ p := fun z => by rw [z, hp] at h; cases h
  rw [rem_ne ne]
  exact h
theorem avdD_d {kvs : List (Key × Ty)} (ne : ∀ (xs : List (Key × V)) (B B' : Hp), xs.map Prod.fst = us.map Prod.fst → TyAll (us.map Prod.snd) (xs.map Prod.snd) B → xs.map Prod.fst = kvs.map Prod.fst → TyAll (kvs.map Prod.snd) (xs.map Prod.snd) B' → Same B B' → False) (a : AvdS p (mD us) (kvs.map Prod.snd)) : Avd p (mD us) (tyD kvs) (tyD kvs) := fun v B o hp hk ⟨x, ws, e, h, k, t⟩ => by
  refine ⟨x, ws, e, ?_, k, a.all hp hk t⟩
  obtain ⟨ys, rfl, y1, y2⟩ := hk
  have ne : x ≠ p := fun z => by
    rw [z, hp] at h
    cases h
    exact ne _ _ _ y1 y2 k t rem_sub
  rw [rem_ne ne]
  exact h
theorem avdD_o {c : Addr} {fs : List (Str × Ty)} (a : AvdS p (mD us) (fs.map Prod.snd)) : Avd p (mD us) (tyO c fs) (tyO c fs) := fun v B o hp hk ⟨x, dx, ws, e, h, k, t⟩ => by
  refine ⟨x, dx, ws, e, ?_, k, a.all hp hk t⟩
  obtain ⟨ys, rfl, _⟩ := hk
  have ne : x ≠ p := fun z => by rw [z, hp] at h; cases h
  rw [rem_ne ne]
  exact h
end
end DL
set_option Elab.async false
set_option linter.all false
set_option maxRecDepth 100000
set_option maxHeartbeats 2000000
/-! the second layer: lists of our own made by +, list(..), pop; three targets at once; a text times a number -/
namespace Lx
open PySem PySem.Spec PyProof.Rows L2
def rMulS : R2 := fun x y H Q => ∃ z n, x = V.str z ∧ y = V.int n ∧ MulOk z n ∧ Q (.str (Txt.mul z n)) H
theorem op_mulS {X : Cx} : OpR X (binaryOp .Mult) rMulS := by
  intro pins s σ H x y v u Q I rx ry h
  obtain ⟨z, n, rfl, rfl, ok, q⟩ := h
  obtain ⟨t, rfl⟩ := rx
  obtain ⟨t', rfl⟩ := ry
  exact SB.mul ok (fun t' k => ⟨.str (Txt.mul z n), H, I.tok _, ⟨_, rfl⟩, q⟩)
end Lx
namespace DL
open PySem L2 Lx PyProof.Rows
theorem r2_mulS {κ : Ty → Prop} {z : Str} {n : Int} (ok : MulOk z n) (k : κ (tyS (Txt.mul z n))) : R2w rMulS (tyS z) (tyI n) κ := fun x y B H Q bh hx hy q => by
  cases hx
  cases hy
  exact ⟨z, n, rfl, rfl, ok, q _ B H _ k (.refl bh) rfl⟩
section
variable {X : Xn} {Γ : List Slot} {κ : Ty → List Slot → Prop} {κs : En} {K : PySem.W.Frag}
/-- xs + ys, a new list of ours -/
theorem WO.cat {ta tb : TE} {κ : MTy → List Slot → Prop} (h : WE X ta Γ fun T Γ1 => WE X tb Γ1 fun U Γ2 => ∃ ts us, T = tyL ts ∧ U = tyL us ∧ ts.length + us.length ≤ sizeLine ∧ κ (mL (ts ++ us)) Γ2) : WO X (tOp rCat ta tb) Γ κ := fun σ B H s xo Q q =>
  h σ B H s xo _ fun v B1 H1 T Γ1 k1 s1 b1 t1 => k1 σ B1 H1 s1 (xo.after b1) _ fun w B2 H2 U Γ2 k2 s2 b2 t2 => by
    obtain ⟨ts, us, rfl, rfl, hz, k⟩ := k2
    obtain ⟨a, xs, rfl, e1, e2⟩ := t1
    obtain ⟨b, ys, rfl, f1, f2⟩ := t2
    exact ⟨a, b, xs, ys, rfl, rfl, s2.bh _ _ (b2.same _ _ e1), s2.bh _ _ f1, by rw [e2.length, f2.length]; exact hz, fun p np => q p _ B2 H2 _ Γ2 k s2 (b1.trans b2) np ⟨xs ++ ys, rfl, (e2.mono b2.same).append f2⟩⟩
/-- list(x), a new list of ours -/
theorem WO.listOf {te : TE} {κ : MTy → List Slot → Prop} (h : WE X te Γ fun T Γ1 => ∃ ts, T = tyL ts ∧ κ (mL ts) Γ1) : WO X (tCB (rListOf K) (tCons te tNil)) Γ κ := fun σ B H s xo Q q =>
  h σ B H s xo _ fun v B1 H1 T Γ1 k1 s1 b1 t1 => by
    obtain ⟨ts, rfl, k⟩ := k1
    obtain ⟨a, xs, rfl, e1, e2⟩ := t1
    exact ⟨a, xs, rfl, .inl (SqL.of (s1.bh _ _ e1)), fun p np => q p _ B1 H1 _ Γ1 k s1 b1 np ⟨xs, rfl, e2⟩⟩
/-- x.pop() as a statement, x of ours -/
theorem WS.pop {i : Nat} {ts : List Ty} (h0 : Γ[i]? = some (.own (mL ts))) (hne : ts ≠ []) (k : κs.nx (Γ.set i (.own (mL ts.dropLast)))) : WS X (tDrop (tBM0 K "list" rPop (tVar i))) Γ κs := fun σ B H s xo D m => by
  obtain ⟨a, o, h1, h2, _, ⟨xs, rfl, h3⟩⟩ := s.own i _ _ h0 rfl
  have len := h3.length
  have hp : 0 < xs.length := by
    rw [len]
    exact List.length_pos_iff.mpr hne
  obtain ⟨y, hy⟩ : ∃ y, xs[xs.length - 1]? = some y := ⟨_, List.getElem?_eq_getElem (by omega)⟩
  have hd : TyAll ts.dropLast xs.dropLast B := by
    rw [List.dropLast_eq_take, List.dropLast_eq_take, len]
    exact h3.take _
  have ch := s.change (S' := .own (mL ts.dropLast)) (o := .lst xs.dropLast) h0 rfl rfl h1 ⟨_, rfl, hd⟩ nofun
  exact ⟨.ref a, h1, .inl ⟨rfl, _, SqL.of h2⟩, a, xs, y, rfl, rfl, h2, hy, m.nx σ B _ _ k ch.1 ch.2⟩
/-- x, b, y = [], c, [] : x of ours, y a value -/
theorem WS.par3L {i j l : Nat} {c : V} (hi : i < Γ.length) (k : κs.nx (((Γ.set i (.own (mL []))).set j (.is (tyV c))).set l (.is (tyL [])))) : WS X (tPar3 i j l (tCons (tLst tNil) (tCons (tC c) (tCons (tLst tNil) tNil)))) Γ κs := fun σ B H s xo D m => by
  refine ⟨Nat.zero_le _, fun p np => ⟨Nat.zero_le _, fun q nq => ⟨_, _, _, rfl, ?_⟩⟩⟩
  have s2 := s.putOwn (i := i) (p := p) (o := .lst []) (M := mL []) hi np ⟨[], rfl, trivial⟩
  have g2 := s.go_putOwn (i := i) (p := p) (o := .lst []) (M := mL []) hi np
  have ef : Eff [] B (upd H p (.lst [])) (upd B q (.lst [])) (upd (upd H p (.lst [])) q (.lst [])) := .new s2.bh nq
  have s3 := s2.step ef
  have s4 := s3.put (i := j) (T := tyV c) (v := c) rfl
  have s5 := s4.put (i := l) (T := tyL []) (v := .ref q) ⟨q, [], rfl, upd_same, trivial⟩
  exact m.nx _ _ _ _ k s5 (((g2.trans ef.go).trans (go_put0 s3.bh rfl)).trans (go_put0 s4.bh rfl))
/-- x, y, b = e, [], c : y of ours -/
theorem WS.par3M {i j l : Nat} {te : TE} {c : V} (h : WE X te Γ fun T Γ1 => j < Γ1.length ∧ κs.nx (((Γ1.set i (.is T)).set j (.own (mL []))).set l (.is (tyV c)))) : WS X (tPar3 i j l (tCons te (tCons (tLst tNil) (tCons (tC c) tNil)))) Γ κs := fun σ B H s xo D m =>
  h σ B H s xo _ fun v B1 H1 T Γ1 k1 s1 b1 t1 => by
    obtain ⟨hj, k⟩ := k1
    refine ⟨Nat.zero_le _, fun p np => ⟨_, _, _, rfl, ?_⟩⟩
    have s2 := s1.put (i := i) t1
    have g2 : Go σ Γ1 B1 H1 (σ.set i (some v)) (Γ1.set i (.is T)) B1 H1 := go_put0 s1.bh rfl
    have e2 : j < (Γ1.set i (.is T)).length := by rw [List.length_set]; exact hj
    have s3 := s2.putOwn (i := j) (p := p) (o := .lst []) (M := mL []) e2 np ⟨[], rfl, trivial⟩
    have g3 := s2.go_putOwn (i := j) (p := p) (o := .lst []) (M := mL []) e2 np
    have s4 := s3.put (i := l) (T := tyV c) (v := c) rfl
    exact m.nx _ _ _ _ k s4 (((b1.trans g2).trans g3).trans (go_put0 s3.bh rfl))
end
end DL
set_option Elab.async false
set_option linter.all false
set_option maxRecDepth 100000
set_option maxHeartbeats 2000000
/-! defs with defaults both of positional and of keyword-only parameters: n values by position, then mid (defaults), then the ones named ks, then post (defaults) -/
namespace Lx
open PySem PySem.Spec PyProof.Rows L2
def byFill (n : Nat) (ks : List Str) (mid post : List V) (sp : Sp) : SpW := fun vs kvs H Q E => vs.length = n ∧ kvs.map (·.1) = ks ∧ sp (vs ++ (mid ++ (kvs.map (·.2) ++ post))) H Q E
section
variable {P : Program} {w : World} {K : PySem.W.Frag} {mg : Str → Option Value} {base : Heap} {CX : CXT} {k : Nat} {f : Addr} {fd : FuncData} {ps : List Str} {sp : Sp}
theorem FnOk.byFill (F : FnOk P w K mg base CX k f fd ps sp) {n : Nat} {ks : List Str} {mid post : List V} {g : List Value → List Value → List Value} {gV : List V → List V → List V} (hb : KBn K fd ps n ks g gV) (hg : ∀ vs zs, gV vs zs = vs ++ (mid ++ (zs ++ post))) : FnW P w K mg base CX k f (Lx.byFill n ks mid post sp) := by
  intro A outer s H us vs kws kvs Q E hr e0 r rk nd ⟨h1, h2, h3⟩
  have KX : K.In s.heap := e0.mod.kin.keeps fun b o e => (e0.bs b o e).1
  have e1 : kws.map (·.1) = ks := by rw [← rk.names]; exact h2
  have b := hb.to s us (kws.map (·.2)) KX (by rw [← r.length]; exact h1) (by rw [← e1, List.length_map, List.length_map])
  rw [← e1, zip_unzip] at b
  have v := hb.rel r (kwR_split rk)
  rw [hg] at v
  exact F.run A outer s H ⟨us, kws⟩ _ _ Q E hr e0 b v h3
end
end Lx
namespace DL
open PySem L2 Lx
section
variable {X : Xn} {Γ : List Slot} {κ : Ty → List Slot → Prop} {K : PySem.W.Frag} {α : Type} {C : Addr} {c : α → Cs} {E : XK}
/-- C(e, .., k = v, ..), C's __init__ with defaults; it raises nothing -/
theorem WE.makeF0 {t tk : TA} {g : L2.St → Prop} {n : Nat} {ks : List Str} {mid post : List V} (hg : ∀ σ B H, Sat σ B H Γ → g σ)
    (h : WA X t Γ fun Ts Γ1 => Ts.length + 1 = n ∧ WA X tk Γ1 fun Us Γ2 => Us.length = ks.length ∧ Meets c (Ts ++ (mid.map tyV ++ (Us ++ post.map tyV))) fun o => ∃ T, o = .ret T ∧ κ T Γ2) : WE X (tMakeW C g ks (byFill n ks mid post (spNew C c)) E t tk) Γ κ := fun σ B H s xo Q q =>
  ⟨hg σ B H s, h σ B H s xo _ fun vs B1 H1 Ts Γ1 k1 s1 b1 t1 => k1.2 σ B1 H1 s1 (xo.after b1) _ fun zs B2 H2 Us Γ2 k2 s2 b2 t2 x dx nx nd ne => by
    have l2 : zs.length = ks.length := t2.length.trans k2.1
    obtain ⟨u1, u2⟩ := unzip_zip (ks := ks) (zs := zs) l2
    refine ⟨?_, u1, ?_⟩
    · rw [List.length_cons, t1.length]
      exact k1.1
    rw [u2]
    obtain ⟨z, e1, e2, e3⟩ := k2.2
    exact apply_new (X := ⟨fun _ => E, fun _ _ _ _ => False⟩) (Γ := Γ2) s2 (fun _ _ _ _ _ _ _ _ _ z => z.elim) ((t1.mono b2.same).append ((TyAll.ofVals mid).append (t2.append (TyAll.ofVals post)))) ⟨z, e1, e2, fun o ho => by
      obtain ⟨T, rfl, k⟩ := e3 o ho
      exact k⟩ nx nd ne fun v B' H' T k s' g' ok => q v B' H' T Γ2 k s' ((b1.trans b2).trans g') ok⟩
end
end DL
set_option Elab.async false
set_option linter.all false
set_option maxRecDepth 100000
set_option maxHeartbeats 2000000
/-! the second layer: contracts whose answer is a new thing of the caller's; a thing of ours lent for an expression or a test; names of one thing; x op= y by an own def that changes x -/
namespace DL
open PySem L2 Lx
/-- a contract whose answer is a new thing, nobody else's -/
structure CsN where
  args : List Ty
  pre : Prop := True
  out : MTy → Prop
def spN {α : Type} (c : α → CsN) : Sp := fun vs H Q E => ∃ (x : α) (B : Hp), Same B H ∧ TyAll (c x).args vs B ∧ (c x).pre ∧ ∀ M, (c x).out M → ∀ (p : Addr) (B' H' : Hp) (o : HO), Eff [] B H B' H' → H p = none → H' p = some o → B' p = none → M.ok p o B' → Q (.ref p) H'
def MeetsN {α : Type} (c : α → CsN) (Ts : List Ty) (W : MTy → Prop) : Prop := ∃ x : α, Ts = (c x).args ∧ (c x).pre ∧ ∀ M, (c x).out M → W M
/-- the thing of which M is said, at p -/
def mAt (p : Addr) (M : MTy) : MTy := ⟨fun a o B => a = p ∧ M.ok a o B, fun s ⟨e, h⟩ => ⟨e, M.mono s h⟩⟩
section
variable {X : Xn} {σ : L2.St} {B H : Hp} {Γ : List Slot} {κ : MTy → List Slot → Prop} {κe : Ty → List Slot → Prop} {κs : En} {K : PySem.W.Frag}
theorem new_own {Q : VK} {p : Addr} {o : HO} {M : MTy} {B' H' : Hp} (s : Sat σ B H Γ) (ef : Eff [] B H B' H') (np : H p = none) (hu : H' p = some o) (nb : B' p = none) (ok : M.ok p o B')
    (q : ∀ (p : Addr) (o : HO) (B' H1 : Hp), Sat σ B' H1 Γ → Go σ Γ B H σ Γ B' H1 → H1 p = none → M.ok p o B' → Q (.ref p) (upd H1 p o)) : Q (.ref p) H' := by
  have no : ¬ Own σ Γ p := fun z => by
    obtain ⟨o, e, _⟩ := z.of_step s
    rw [np] at e
    cases e
  have g3 : Go σ Γ B H σ Γ B' (DL.rem H' p) := by
    have := (ef.go (σ := σ) (Γ := Γ)).rem (D := p) nb
    rwa [rem_none np] at this
  have qq := q p o B' (DL.rem H' p) ((s.step ef).rem nb no) g3 rem_self ok
  rwa [upd_rem hu] at qq
theorem apply_N {α : Type} {c : α → CsN} {Ts : List Ty} {vs : List V} {Q : VK} {E : XK} (s : Sat σ B H Γ) (t : TyAll Ts vs B) (h : MeetsN c Ts fun M => κ M Γ)
    (q : ∀ (p : Addr) (o : HO) (B' H1 : Hp) (M : MTy), κ M Γ → Sat σ B' H1 Γ → Go σ Γ B H σ Γ B' H1 → H1 p = none → M.ok p o B' → Q (.ref p) (upd H1 p o)) : spN c vs H Q E := by
  obtain ⟨x, rfl, hp, ho⟩ := h
  exact ⟨x, B, s.bh, t, hp, fun M hM p B' H' o ef np hu nb ok => new_own s ef np hu nb ok fun p o B' H1 s' g n k => q p o B' H1 M (ho M hM) s' g n k⟩
theorem WO.callN {α : Type} {c : α → CsN} {E : XK} {t : TA} (h : WA X t Γ fun Ts Γ1 => MeetsN c Ts fun M => κ M Γ1) : WO X (tCall (spN c) [] E t) Γ κ := fun σ B H s xo Q q =>
  h σ B H s xo _ fun vs B1 H1 Ts Γ1 k1 s1 b1 t1 => by
    rw [List.append_nil]
    exact apply_N s1 t1 k1 fun p o B' H2 M k s' g n ok => q p o B' H2 M Γ1 k s' (b1.trans g) n ok
theorem WO.binN {α : Type} {c : α → CsN} {C : Addr} {E : XK} {ta tb : TE} (h : WE X ta Γ fun T Γ1 => WE X tb Γ1 fun U Γ2 => ∃ fs gs, T = tyO C fs ∧ U = tyO C gs ∧ MeetsN c [tyO C fs, tyO C gs] fun M => κ M Γ2) : WO X (tOp (rBinO C (spN c) E) ta tb) Γ κ := fun σ B H s xo Q q =>
  h σ B H s xo _ fun x B1 H1 T Γ1 k1 s1 b1 t1 => k1 σ B1 H1 s1 (xo.after b1) _ fun y B2 H2 U Γ2 k2 s2 b2 t2 => by
    obtain ⟨fs, gs, rfl, rfl, k⟩ := k2
    have t1 := Ty.mono _ b2.same t1
    have hx' := t1
    have hy' := t2
    obtain ⟨a, dx, ws, rfl, e1, e2, e3⟩ := t1
    obtain ⟨b, dy, us, rfl, f1, f2, f3⟩ := t2
    exact ⟨a, dx, ws, b, dy, us, rfl, s2.bh _ _ e1, rfl, s2.bh _ _ f1, apply_N (Ts := [tyO C fs, tyO C gs]) s2 ⟨hx', hy', trivial⟩ k fun p o B' H3 M kk s' g n ok => ⟨⟨p, rfl⟩, q p o B' H3 M Γ2 kk s' ((b1.trans b2).trans g) n ok⟩⟩
/-- what stands still from its making on -/
def Thw (M : MTy) (T : Ty) : Prop := ∀ (p : Addr) (o : HO) (B : Hp), B p = none → M.ok p o B → T.ok (.ref p) (upd B p o)
theorem thw_O {C : Addr} {fs : List (Str × Ty)} : Thw (mO C fs) (tyO C fs) := fun p o B n ⟨dx, ws, e, k, t⟩ => by
  subst e
  exact ⟨p, dx, ws, rfl, upd_same, k, t.mono (Lx.Same.new n)⟩
theorem thw_L {ts : List Ty} : Thw (mL ts) (tyL ts) := fun p o B n ⟨xs, e, t⟩ => by
  subst e
  exact ⟨p, xs, rfl, upd_same, t.mono (Lx.Same.new n)⟩
theorem WE.frzO {t : TE} (h : WO X t Γ fun M Γ1 => ∃ T, Thw M T ∧ κe T Γ1) : WE X t Γ κe := fun σ B H s xo Q q =>
  h σ B H s xo _ fun p o B1 H1 M Γ1 k1 s1 b1 n ok => by
    obtain ⟨T, th, k⟩ := k1
    have e : Eff [] B1 H1 (upd B1 p o) (upd H1 p o) := .new s1.bh n
    exact q _ _ _ T Γ1 k (s1.step e) (b1.trans e.go) (th p o B1 (base_none s1.bh n) ok)
/-- x, y = .., ..: x a new thing of ours -/
theorem WS.parOT {i i' : Nat} {ta tb : TE} (h : WO X ta Γ fun M Γ1 => WE X tb Γ1 fun T Γ2 => i < Γ2.length ∧ κs.nx ((Γ2.set i (.own M)).set i' (.is T))) : WS X (tPar i i' (tCons ta (tCons tb tNil))) Γ κs := fun σ B H s xo D m =>
  h σ B H s xo _ fun p o B1 H1 M Γ1 k1 s1 b1 n ok => by
    -- the new thing stands by meanwhile
    have np1 : B1 p = none := base_none s1.bh n
    have bh1 : Same B1 (upd H1 p o) := s1.bh.trans (Lx.Same.new n)
    have nown : ∀ a, Own σ Γ1 a → a ≠ p := fun a z e => by
      obtain ⟨u, e1, _⟩ := z.of_step s1
      rw [e, n] at e1
      cases e1
    have s2 : Sat σ B1 (upd H1 p o) Γ1 := ⟨bh1, s1.len, s1.is_, fun k S N e hm => by
      obtain ⟨a, u, h1, h2, h3, h4⟩ := s1.own k S N e hm
      exact ⟨a, u, h1, by rw [upd_ne (nown a ⟨k, S, N, e, hm, h1⟩)]; exact h2, h3, h4⟩, s1.ap⟩
    have g2 : Go σ Γ1 B1 H1 σ Γ1 B1 (upd H1 p o) := ⟨fun _ _ h => h, bh1, fun a u h nb no => ⟨Lx.Same.new n a u h, nb⟩, fun a z => .inl z, fun k S e f => ⟨rfl, S, e, f⟩⟩
    refine k1 σ B1 _ s2 (xo.after (b1.trans g2)) _ fun v B2 H2 T Γ2 k2 s3 b3 t3 => ?_
    obtain ⟨hp2, nb2⟩ := b3.fr p o upd_same np1 fun z => nown p z rfl
    have no2 : ¬ Own σ Γ2 p := fun z => by
      rcases b3.ow p z with q | q
      · exact nown p q rfl
      · rw [upd_same] at q
        cases q
    have s4 := s3.rem nb2 no2
    have g4 : Go σ Γ1 B1 H1 σ Γ2 B2 (DL.rem H2 p) := by
      have := b3.rem (D := p) nb2
      rwa [rem_upd, rem_none n] at this
    have s5 := s4.putOwn (i := i) (o := o) (M := M) k2.1 rem_self (M.mono b3.same ok)
    have g5 := s4.go_putOwn (i := i) (o := o) (M := M) k2.1 rem_self
    rw [upd_rem hp2] at s5 g5
    have s6 := s5.put (i := i') (T := T) (v := v) t3
    exact ⟨.ref p, v, rfl, m.nx _ B2 _ _ k2.2 s6 (((b1.trans g4).trans g5).trans (go_put0 s5.bh rfl))⟩
/-- return .., a new thing; g any slot -/
theorem WS.retO {te : TE} (g : Nat) (h : WO X te Γ fun M Γ1 => g < Γ1.length ∧ ∀ p, κs.rt (tyV (.ref p)) (Γ1.set g (.own (mAt p M)))) : WS X (tRet te) Γ κs := fun σ B H s xo D m =>
  h σ B H s xo _ fun p o B1 H1 M Γ1 k1 s1 b1 n ok => m.rt _ _ B1 _ _ _ (k1.2 p) (s1.putOwn (i := g) (o := o) (M := mAt p M) k1.1 n ⟨rfl, ok⟩) (b1.trans (s1.go_putOwn k1.1 n)) rfl
/-- the thing of a slot, as an address -/
theorem WE.varAt {i : Nat} {p : Addr} {M : MTy} {S : Slot} (h : Γ[i]? = some S) (hS : IsMine S (mAt p M)) (k : κe (tyV (.ref p)) Γ) : WE X (tVar i) Γ κe := fun σ B H s xo Q q => by
  obtain ⟨a, o, h1, h2, h3, rfl, h4⟩ := s.own i _ _ h hS.m
  exact ⟨.ref a, h1, q _ B H _ Γ k s (.refl s.bh) rfl⟩
theorem upd_id {H : Hp} {a : Addr} {o : HO} (h : H a = some o) : upd H a o = H := by
  funext b
  unfold upd
  split
  · rename_i e
    rw [e, h]
  · rfl
/-- a slot's thing, by its address -/
theorem WS.nameO {t : TS} {i : Nat} {M : MTy} {S : Slot} (h : Γ[i]? = some S) (hS : IsMine S M) (k : ∀ p, WS X t (Γ.set i (S.to (mAt p M))) κs) : WS X t Γ κs := fun σ B H s xo D m => by
  obtain ⟨a, o, h1, h2, h3, h4⟩ := s.own i _ _ h hS.m
  have ch := s.change (S' := S.to (mAt a M)) (N := mAt a M) (o := o) h hS.m hS.to.1 h1 ⟨rfl, h4⟩ hS.to.2
  rw [upd_id h2] at ch
  exact k a σ B H ch.1 (xo.after ch.2) D (m.same ch.2)
/-- two slots that hold one value -/
theorem WT.also {tt : TT} {i k : Nat} {T U W : Ty} {κt : Bool → List Slot → Prop} (hi : Γ[i]? = some (.is T)) (hk : Γ[k]? = some (.is U)) (w : ∀ {v u : V} {B : Hp}, T.ok v B → U.ok u B → W.ok u B) (h : WT X tt (Γ.set k (.is W)) κt) : WT X tt Γ κt := fun σ B H s xo Q q => by
  obtain ⟨v, h1, h2⟩ := s.is_ i T hi
  obtain ⟨u, g1, g2⟩ := s.is_ k U hk
  have s2 := s.put (i := k) (T := W) (v := u) (w h2 g2)
  have g3 : Go σ Γ B H (σ.set k (some u)) (Γ.set k (.is W)) B H := go_put0 s.bh rfl
  have es : σ.set k (some u) = σ := by
    refine List.ext_getElem? fun j => ?_
    by_cases e : k = j
    · subst e
      rw [List.getElem?_set_self (by rw [s.len]; exact (List.getElem?_eq_some_iff.mp hk).1), g1]
    · rw [List.getElem?_set_ne e]
  rw [es] at s2 g3
  exact h σ B H s2 (xo.after g3) Q fun b B' H' Γ' kk s' g' => q b B' H' Γ' kk s' (g3.trans g')
theorem WS.also {t : TS} {i k : Nat} {T U W : Ty} (hi : Γ[i]? = some (.is T)) (hk : Γ[k]? = some (.is U)) (w : ∀ {v u : V} {B : Hp}, T.ok v B → U.ok u B → W.ok u B) (h : WS X t (Γ.set k (.is W)) κs) : WS X t Γ κs := fun σ B H s xo D m => by
  obtain ⟨v, h1, h2⟩ := s.is_ i T hi
  obtain ⟨u, g1, g2⟩ := s.is_ k U hk
  have s2 := s.put (i := k) (T := W) (v := u) (w h2 g2)
  have g3 : Go σ Γ B H (σ.set k (some u)) (Γ.set k (.is W)) B H := go_put0 s.bh rfl
  have es : σ.set k (some u) = σ := by
    refine List.ext_getElem? fun j => ?_
    by_cases e : k = j
    · subst e
      rw [List.getElem?_set_self (by rw [s.len]; exact (List.getElem?_eq_some_iff.mp hk).1), g1]
    · rw [List.getElem?_set_ne e]
  rw [es] at s2 g3
  exact h σ B H s2 (xo.after g3) D (m.same g3)
/-- a thing of ours stands still from here on -/
theorem WS.frzM {t : TS} {i : Nat} {M : MTy} {T : Ty} (h : Γ[i]? = some (.own M)) (th : Thw M T) (k : WS X t (Γ.set i (.is T)) κs) : WS X t Γ κs := fun σ B H s xo D m => by
  obtain ⟨a, o, h1, h2, h3, h4⟩ := s.own i _ _ h rfl
  obtain ⟨s', b⟩ := s.freeze h h1 h2
  have s2 := s'.put (i := i) (v := .ref a) (T := T) (th a o B h3 h4)
  have g2 : Go σ (Γ.set i Slot.no) _ H (σ.set i (some (V.ref a))) ((Γ.set i Slot.no).set i (.is T)) _ H := go_put0 s'.bh rfl
  have es : σ.set i (some (V.ref a)) = σ := by
    refine List.ext_getElem? fun k => ?_
    by_cases e : i = k
    · subst e
      rw [List.getElem?_set_self (by rw [s.len]; exact (List.getElem?_eq_some_iff.mp h).1), h1]
    · rw [List.getElem?_set_ne e]
  rw [es, List.set_set] at s2 g2
  exact k σ _ H s2 (xo.after (b.trans g2)) D (m.same (b.trans g2))
theorem WE.ifGood {κ : Ty → List Slot → Prop} {tt : TT} {ta tb : TE} (G : Ty → Prop) (h : WE X (tIf tt ta tb) Γ fun U Γ1 => G U ∧ Γ1 = Γ) (k : ∀ U, G U → κ U Γ) : WE X (tIf tt ta tb) Γ κ := h.imp fun U Γ1 hk => by
  obtain ⟨g, rfl⟩ := hk
  exact k U g
theorem WT.imp' {κ κ' : Bool → List Slot → Prop} {t : TT} (h : WT X t Γ κ') (i : ∀ b Γ', κ' b Γ' → κ b Γ') : WT X t Γ κ := fun σ B H s xo Q q => h σ B H s xo Q fun b B' H' Γ' k => q b B' H' Γ' (i b Γ' k)
theorem WT.good {κ : Bool → List Slot → Prop} {t : TT} (b0 : Bool) (h : WT X t Γ fun b Γ1 => b = b0 ∧ Γ1 = Γ) (k : κ b0 Γ) : WT X t Γ κ := h.imp' fun b Γ1 hk => by
  obtain ⟨rfl, rfl⟩ := hk
  exact k
theorem no_of {b : Bool} {P Q : Prop} (h : b = false) (q : Q) : (b = true → P) ∧ (b = false → Q) := ⟨fun z => absurd (h.symm.trans z) (by decide), fun _ => q⟩
theorem yes_of {b : Bool} {P Q : Prop} (h : b = true) (p : P) : (b = true → P) ∧ (b = false → Q) := ⟨fun _ => p, fun z => absurd (h.symm.trans z) (by decide)⟩
theorem tyAll_rev {B : Hp} : ∀ {ts : List Ty} {xs : List V}, TyAll ts xs B → TyAll ts.reverse xs.reverse B
  | [], [], _ => trivial
  | t :: ts, x :: xs, h => by
    rw [List.reverse_cons, List.reverse_cons]
    exact (tyAll_rev (ts := ts) (xs := xs) h.2).snoc h.1
  | [], _ :: _, h => h.elim
  | _ :: _, [], h => h.elim
/-- x[::-1], x a list -/
theorem WE.revL {te : TE} (h : WE X te Γ fun T Γ1 => ∃ ts, T = tyL ts ∧ κe (tyL ts.reverse) Γ1) : WE X (tRevL K te) Γ κe := fun σ B H s xo Q q =>
  h σ B H s xo _ fun v B1 H1 T Γ1 k1 s1 b1 t1 => by
    obtain ⟨ts, rfl, k⟩ := k1
    obtain ⟨a, xs, rfl, e1, e2⟩ := t1
    refine ⟨a, xs, rfl, SqL.of (s1.bh _ _ e1), fun p np => ?_⟩
    have e : Eff [] B1 H1 (upd B1 p (.lst xs.reverse)) (upd H1 p (.lst xs.reverse)) := .new s1.bh np
    exact q _ _ _ _ Γ1 k (s1.step e) (b1.trans e.go) ⟨p, _, rfl, upd_same, tyAll_rev (e2.mono e.bb)⟩
/-! lent for a test, for an expression -/
theorem thaw_at {p : Addr} {i : Nat} {M N : MTy} {G1 G2 : List Slot} {σ' : L2.St} {B' H' : Hp} (s' : Sat σ' B' H' G1) (t : Thaw p N true G1 G2) : ∃ o', B' p = some o' ∧ N.ok p o' (rem B' p) := by
  obtain ⟨k, e⟩ := t.key rfl
  obtain ⟨v, h1, _, o', h2, h3⟩ := s'.is_ k _ e
  exact ⟨o', h2, h3⟩
theorem WT.lend {t : TT} {i : Nat} {M : MTy} {κt : Bool → List Slot → Prop} (h0 : Γ[i]? = some (.own M)) (h : ∀ p, WT ⟨X.E, fun _ _ _ _ => False⟩ t (lent p i M Γ) fun b Γ1 => ∃ N Γ2, Thaw p N true Γ1 Γ2 ∧ κt b Γ2) : WT X t Γ κt := fun σ B H s xo Q q => by
  obtain ⟨p, o, e1, e2, e3, e4⟩ := s.own i _ _ h0 rfl
  refine h p σ (upd B p o) H (s.lend h0 e1 e2 e3 e4) (fun _ _ _ _ _ _ _ _ _ z => z.elim) _ fun b B' H' Γ1 k s' g => ?_
  obtain ⟨N, Γ2, t, k⟩ := k
  obtain ⟨o', q1, q2⟩ := thaw_at (i := i) (M := M) s' t
  exact q b (rem B' p) H' Γ2 k (s'.thaw t q1 q2) (go_thaw s h0 e1 e3 e2 g s' t)
theorem WO.lend {t : TE} {i : Nat} {M : MTy} (h0 : Γ[i]? = some (.own M)) (h : ∀ p, WO ⟨X.E, fun _ _ _ _ => False⟩ t (lent p i M Γ) fun M1 Γ1 => ∃ N Γ2 M2, Thaw p N true Γ1 Γ2 ∧ AvdM p N M1 M2 ∧ κ M2 Γ2) : WO X t Γ κ := fun σ B H s xo Q q => by
  obtain ⟨p, o, e1, e2, e3, e4⟩ := s.own i _ _ h0 rfl
  refine h p σ (upd B p o) H (s.lend h0 e1 e2 e3 e4) (fun _ _ _ _ _ _ _ _ _ z => z.elim) _ fun a u B' H1 M1 Γ1 k s' g n ok => ?_
  obtain ⟨N, Γ2, M2, t, av, k⟩ := k
  obtain ⟨o', q1, q2⟩ := thaw_at (i := i) (M := M) s' t
  have ne : a ≠ p := fun z => by
    have := s'.bh _ _ q1
    rw [← z, n] at this
    cases this
  exact q a u (rem B' p) H1 M2 Γ2 k (s'.thaw t q1 q2) (go_thaw s h0 e1 e3 e2 g s' t) n (av a o' u B' q1 q2 ne ok)
/-- x op= .., x ours, changed by the own def of its class -/
theorem WS.augO {α : Type} {c : α → CsM} {C : Addr} {E : XK} {te : TE} {k : Nat} {fs0 : List (Str × Ty)} (h0 : Γ[k]? = some (.own (mO C fs0)))
    (h : WE X te Γ fun T Γ1 => ∃ fs, Γ1[k]? = some (.own (mO C fs)) ∧ MeetsM c (mO C fs) [T] fun o => ∃ p N, o = .ret (tyV (.ref p)) (mAt p N) ∧ κs.nx (Γ1.set k (.own N))) : WS X (tAug k te (ipO C (spMe c) E)) Γ κs := fun σ B H s xo D m => by
  obtain ⟨b, o, e1, e2, e3, _⟩ := s.own k _ _ h0 rfl
  refine ⟨.ref b, e1, h σ B H s xo _ fun y B1 H1 T Γ1 k1 s1 b1 t1 => ?_⟩
  obtain ⟨fs, hi, x, hM, hT, hp, ho⟩ := k1
  obtain ⟨b', o', f1, f2, f3, f4⟩ := s1.own k _ _ hi rfl
  rw [e1] at f1
  cases f1
  have f4' := f4
  obtain ⟨dx, ws, rfl, f5, f6⟩ := f4
  refine ⟨b, dx, ws, rfl, f2, ?_⟩
  refine apply_Me (X := ⟨fun _ => E, fun _ _ _ _ => False⟩) (κ := fun T Γ' => ∃ p N, T = tyV (.ref p) ∧ Γ' = Γ1.set k (.own (mAt p N)) ∧ κs.nx (Γ1.set k (.own N))) (us := [y]) (Ts := [T]) s1 (fun _ _ _ _ _ _ _ _ _ z => z.elim) hi (.inl rfl) e1 ⟨t1, trivial⟩ ⟨x, hM, hT, hp, fun r hr => ?_⟩ fun v B' H' T' Γ' kk s' g' ok => ?_
  · obtain ⟨p, N, rfl, kk⟩ := ho r hr
    exact ⟨p, N, rfl, rfl, kk⟩
  · obtain ⟨p, N, rfl, rfl, kk⟩ := kk
    cases ok
    have hl : k < Γ1.length := (List.getElem?_eq_some_iff.mp hi).1
    obtain ⟨a, u, g1, g2, g3, ⟨ga, g4⟩⟩ := s'.own k _ _ (List.getElem?_set_self hl) rfl
    subst ga
    rw [e1] at g1
    cases g1
    refine ⟨⟨_, rfl⟩, ?_⟩
    have es : σ.set k (some (V.ref b)) = σ := by
      refine List.ext_getElem? fun j => ?_
      by_cases e : k = j
      · subst e
        rw [List.getElem?_set_self (by rw [s1.len]; exact hl), e1]
      · rw [List.getElem?_set_ne e]
    show D.nx (σ.set k (some (V.ref b))) H'
    rw [es]
    have ch := s'.change (S' := .own N) (N := N) (o := u) (List.getElem?_set_self hl) rfl rfl e1 g4 nofun
    rw [upd_id g2, List.set_set] at ch
    exact m.nx σ B' H' _ kk ch.1 ((b1.trans g').trans ch.2)
/-- the same, x another name of the thing of slot i -/
theorem WS.augA {α : Type} {c : α → CsM} {C p : Addr} {E : XK} {te : TE} {k i : Nat} {fs0 : List (Str × Ty)} (h0 : Γ[k]? = some (.is (tyV (.ref p)))) (hi0 : Γ[i]? = some (.own (mAt p (mO C fs0))))
    (h : WE X te Γ fun T Γ1 => ∃ fs, Γ1[k]? = some (.is (tyV (.ref p))) ∧ Γ1[i]? = some (.own (mAt p (mO C fs))) ∧ MeetsM c (mO C fs) [T] fun o => ∃ p' N, o = .ret (tyV (.ref p')) (mAt p' N) ∧ κs.nx (Γ1.set i (.own (mAt p N)))) : WS X (tAug k te (ipO C (spMe c) E)) Γ κs := fun σ B H s xo D m => by
  obtain ⟨v0, e0, e0'⟩ := s.is_ k _ h0
  obtain rfl : v0 = V.ref p := e0'
  refine ⟨.ref p, e0, h σ B H s xo _ fun y B1 H1 T Γ1 k1 s1 b1 t1 => ?_⟩
  obtain ⟨fs, hk, hi, x, hM, hT, hp, ho⟩ := k1
  have hl : i < Γ1.length := (List.getElem?_eq_some_iff.mp hi).1
  obtain ⟨b, o', f1, f2, f3, fe, f4⟩ := s1.own i _ _ hi rfl
  subst fe
  have ch := s1.change (S' := .own (mO C fs)) (N := mO C fs) (o := o') hi rfl rfl f1 f4 nofun
  rw [upd_id f2] at ch
  obtain ⟨dx, ws, rfl, f5, f6⟩ := f4
  refine ⟨b, dx, ws, rfl, f2, ?_⟩
  refine apply_Me (X := ⟨fun _ => E, fun _ _ _ _ => False⟩) (κ := fun T Γ' => ∃ p' N, T = tyV (.ref p') ∧ Γ' = (Γ1.set i (.own (mO C fs))).set i (.own (mAt p' N)) ∧ κs.nx (Γ1.set i (.own (mAt b N)))) (us := [y]) (Ts := [T]) ch.1 (fun _ _ _ _ _ _ _ _ _ z => z.elim) (List.getElem?_set_self hl) (.inl rfl) f1 ⟨t1, trivial⟩ ⟨x, hM, hT, hp, fun r hr => ?_⟩ fun v B' H' T' Γ' kk s' g' ok => ?_
  · obtain ⟨p', N, rfl, kk⟩ := ho r hr
    exact ⟨p', N, rfl, rfl, kk⟩
  · obtain ⟨p', N, rfl, rfl, kk⟩ := kk
    cases ok
    rw [List.set_set] at s' g'
    obtain ⟨a, u, g1, g2, g3, ⟨ga, g4⟩⟩ := s'.own i _ _ (List.getElem?_set_self hl) rfl
    subst ga
    rw [f1] at g1
    cases g1
    refine ⟨⟨_, rfl⟩, ?_⟩
    have es : σ.set k (some (V.ref b)) = σ := by
      refine List.ext_getElem? fun j => ?_
      by_cases e : k = j
      · subst e
        rw [List.getElem?_set_self (by rw [s1.len]; exact (List.getElem?_eq_some_iff.mp hk).1), e0]
      · rw [List.getElem?_set_ne e]
    show D.nx (σ.set k (some (V.ref b))) H'
    rw [es]
    exact m.nx σ B' H' _ kk s' ((b1.trans ch.2).trans g')
end
/-! a def's body whose answer is a new thing -/
section
variable {α : Type} {c : α → CsN} {N : List Str} {vs : List V} {H : Hp} {Q : VK} {E : XK}
theorem run_N {t : TS} (hl : ∀ x, (c x).args.length ≤ N.length) (h : spN c vs H Q E)
    (body : ∀ x : α, (c x).pre → WS ⟨fun _ => E, fun _ _ _ _ => False⟩ t (start8 N ((c x).args.map .is)) { nx := fun _ => False, rt := fun T Γ' => ∃ p, ∃ (g : Nat) (M : MTy), T = tyV (.ref p) ∧ Γ'[g]? = some (Slot.own (mAt p M)) ∧ (c x).out M }) :
    t { nx := fun _ H' => Q .non H', rt := Q } (L2.start N vs) H := by
  obtain ⟨x, B, bh, ta, hp, ho⟩ := h
  have notm : ∀ {S : Slot} {M : MTy} {i : Nat}, (start8 N ((c x).args.map .is))[i]? = some S → S.m = some M → False := fun {S M i} e hm => by
    unfold start8 at e
    rcases Nat.lt_or_ge i ((c x).args.map Slot.is).length with q | q
    · rw [List.getElem?_append_left q, List.getElem?_map] at e
      cases e' : (c x).args[i]? with
      | none => rw [e'] at e; cases e
      | some U =>
        rw [e'] at e
        cases e
        cases hm
    · rw [List.getElem?_append_right q] at e
      rw [List.eq_of_mem_replicate (List.mem_of_getElem? e)] at hm
      cases hm
  have sa : Sat (L2.start N vs) B H (start8 N ((c x).args.map .is)) := sat_start (Ts := (c x).args) bh (by rw [ta.length]; exact hl x) (by rw [List.length_map, ta.length]) (fun i T q => by
    rw [List.getElem?_map] at q
    cases e : (c x).args[i]? with
    | none => rw [e] at q; cases q
    | some U =>
      rw [e] at q
      cases q
      exact ta.get e) (fun i S' M q hm => by
    rw [List.getElem?_map] at q
    cases e : (c x).args[i]? with
    | none => rw [e] at q; cases q
    | some U =>
      rw [e] at q
      cases q
      cases hm)
  have no : ∀ a, ¬ Own (L2.start N vs) (start8 N ((c x).args.map .is)) a := fun a ⟨i, S, M, h1, h2, h3⟩ => notm h1 h2
  refine body x hp _ B H sa (fun _ _ _ _ _ _ _ _ _ z => z.elim) _ ⟨fun _ _ _ _ k => k.elim, fun σ' v B' H' T Γ' k s g ok => ?_, fun _ _ _ _ k => k.elim, fun _ _ _ _ k => k.elim⟩
  obtain ⟨p, i, M, rfl, e, hM⟩ := k
  cases ok
  obtain ⟨a, o, h1, h2, h3, ⟨ea, h4⟩⟩ := s.own i _ _ e rfl
  subst ea
  have np : H a = none := by
    rcases g.ow a ⟨i, _, _, e, rfl, h1⟩ with q | q
    · exact absurd q (no a)
    · exact q
  have all : ∀ a o, H a = some o → H' a = some o := fun a o h => by
    cases e : B a with
    | none => exact (g.fr a o h e (no a)).1
    | some u =>
      have h2 := bh a u e
      rw [h] at h2
      cases h2
      exact g.bh a o (g.same a o e)
  exact ho M hM a B' H' o ⟨g.same, g.bh, fun a o h e => (g.fr a o h e (no a)).2, fun a o _ h => all a o h, fun a o h => ⟨o, all a o h⟩⟩ np h2 h3 h4
end
/-! what stands at an instance's place is no tuple -/
section
variable {p C : Addr} {K : PySem.W.Frag} {fs : List (Str × Ty)}
theorem tyTV_rem {vs : List V} {v : V} {B : Hp} {dx : Addr} {ws : List (Str × V)} (hp : B p = some (.ins C dx ws)) (h : (tyT K (vs.map tyV)).ok v B) : (tyT K (vs.map tyV)).ok v (rem B p) := by
  obtain ⟨x, xs, e, h, t⟩ := h
  have t : TyAll (vs.map tyV) xs (rem B p) := by
    rw [t.vals]
    exact .ofVals _
  refine ⟨x, xs, e, ?_, t⟩
  rcases h with (h | ⟨u, h⟩) | h
  · have ne : x ≠ p := fun z => by rw [z, hp] at h; cases h
    exact .inl (.inl (by rw [rem_ne ne]; exact h))
  · have ne : x ≠ p := fun z => by rw [z, hp] at h; cases h
    exact .inl (.inr ⟨u, by rw [rem_ne ne]; exact h⟩)
  · exact .inr h
theorem atT_ins {v : V} {B : Hp} (h : (atT p (mO C fs)).ok v B) : (tyO C fs).ok v B := by
  obtain ⟨rfl, o, e, dx, ws, rfl, k, t⟩ := h
  exact ⟨p, dx, ws, rfl, e, k, t.mono rem_sub⟩
theorem atT_at {q : Addr} {M : MTy} {v : V} {B : Hp} (h : (atT p (mAt q M)).ok v B) : (atT p M).ok v B ∧ p = q := by
  obtain ⟨rfl, o, e, rfl, k⟩ := h
  exact ⟨⟨rfl, o, e, k⟩, rfl⟩
end
end DL
/-! all of my library -/
set_option Elab.async false
set_option linter.all false
set_option maxRecDepth 100000
set_option maxHeartbeats 8000000
namespace K51
open PySem L2 Lx DL Fm
def top (i : Nat) : Stmt := PySem.Challenge.pw_latequestions_k51_mends_as_sets.main.body.getD i (.Pass ⟨0, 0, 0, 0⟩)
abbrev s_is_integer : Stmt := top 1
theorem sc_is_integer : FnScope ["thing"] ["thing"] (defScope s_is_integer) := ⟨rfl, rfl, rfl, by decide +kernel, rfl, by decide +kernel, by decide +kernel⟩
abbrev s_MendU_initU : Stmt := inClass (top 3) 0
theorem sc_MendU_initU : FnScope ["self", "rows"] ["self", "rows"] (defScope s_MendU_initU) := ⟨rfl, rfl, rfl, by decide +kernel, rfl, by decide +kernel, by decide +kernel⟩
abbrev s_MendU_lenU : Stmt := inClass (top 3) 1
theorem sc_MendU_lenU : FnScope ["self"] ["self"] (defScope s_MendU_lenU) := ⟨rfl, rfl, rfl, by decide +kernel, rfl, by decide +kernel, by decide +kernel⟩
abbrev s_MendU_boolU : Stmt := inClass (top 3) 2
theorem sc_MendU_boolU : FnScope ["self"] ["self"] (defScope s_MendU_boolU) := ⟨rfl, rfl, rfl, by decide +kernel, rfl, by decide +kernel, by decide +kernel⟩
abbrev s_MendU_containsU : Stmt := inClass (top 3) 3
theorem sc_MendU_containsU : FnScope ["self", "thing"] ["self", "thing"] (defScope s_MendU_containsU) := ⟨rfl, rfl, rfl, by decide +kernel, rfl, by decide +kernel, by decide +kernel⟩
abbrev s_MendU_orU : Stmt := inClass (top 3) 4
theorem sc_MendU_orU : FnScope ["self", "other"] ["self", "other"] (defScope s_MendU_orU) := ⟨rfl, rfl, rfl, by decide +kernel, rfl, by decide +kernel, by decide +kernel⟩
abbrev s_MendU_iorU : Stmt := inClass (top 3) 5
theorem sc_MendU_iorU : FnScope ["self", "other"] ["self", "other"] (defScope s_MendU_iorU) := ⟨rfl, rfl, rfl, by decide +kernel, rfl, by decide +kernel, by decide +kernel⟩
abbrev s_MendU_andU : Stmt := inClass (top 3) 6
theorem sc_MendU_andU : FnScope ["self", "other", "both", "row"] ["self", "other"] (defScope s_MendU_andU) := ⟨rfl, rfl, rfl, by decide +kernel, rfl, by decide +kernel, by decide +kernel⟩
abbrev s_MendU_eqU : Stmt := inClass (top 3) 7
theorem sc_MendU_eqU : FnScope ["self", "other"] ["self", "other"] (defScope s_MendU_eqU) := ⟨rfl, rfl, rfl, by decide +kernel, rfl, by decide +kernel, by decide +kernel⟩
abbrev s_MendU_strU : Stmt := inClass (top 3) 8
theorem sc_MendU_strU : FnScope ["self", "row"] ["self"] (defScope s_MendU_strU) := ⟨rfl, rfl, rfl, by decide +kernel, rfl, by decide +kernel, by decide +kernel⟩
abbrev s__law_bag : Stmt := top 5
theorem sc__law_bag : FnScope ["script", "at", "cell", "digits"] ["script", "at"] (defScope s__law_bag) := ⟨rfl, rfl, rfl, by decide +kernel, rfl, by decide +kernel, by decide +kernel⟩
abbrev s__law_draw : Stmt := top 6
theorem sc__law_draw : FnScope ["bag", "many", "digit", "mixed"] ["bag", "many"] (defScope s__law_draw) := ⟨rfl, rfl, rfl, by decide +kernel, rfl, by decide +kernel, by decide +kernel⟩
abbrev s__law_one : Stmt := top 7
theorem sc__law_one : FnScope ["bag", "some"] ["bag", "some"] (defScope s__law_one) := ⟨rfl, rfl, rfl, by decide +kernel, rfl, by decide +kernel, by decide +kernel⟩
abbrev s__law_made : Stmt := top 8
theorem sc__law_made : FnScope ["some"] ["some"] (defScope s__law_made) := ⟨rfl, rfl, rfl, by decide +kernel, rfl, by decide +kernel, by decide +kernel⟩
abbrev s__law_drawn : Stmt := top 9
theorem sc__law_drawn : FnScope ["bag", "many", "small", "turn"] ["bag"] (defScope s__law_drawn) := ⟨rfl, rfl, rfl, by decide +kernel, rfl, by decide +kernel, by decide +kernel⟩
abbrev s__law_is : Stmt := top 10
theorem sc__law_is : FnScope ["mend", "due", "row"] ["mend", "due"] (defScope s__law_is) := ⟨rfl, rfl, rfl, by decide +kernel, rfl, by decide +kernel, by decide +kernel⟩
abbrev s__law_is_right : Stmt := top 11
theorem sc__law_is_right : FnScope ["bag", "first", "second", "one", "other", "due", "more", "either", "both", "row", "joined", "common", "alias", "kept"] ["bag"] (defScope s__law_is_right) := ⟨rfl, rfl, rfl, by decide +kernel, rfl, by decide +kernel, by decide +kernel⟩
abbrev s_law : Stmt := top 12
theorem sc_law : FnScope ["script", "at"] ["script"] (defScope s_law) := ⟨rfl, rfl, rfl, by decide +kernel, rfl, by decide +kernel, by decide +kernel⟩
/-- where the defs and classes stand -/
structure Ad where
  c_Mend : Addr
  a_is_integer : Addr
  a_MendU_initU : Addr
  a_MendU_lenU : Addr
  a_MendU_boolU : Addr
  a_MendU_containsU : Addr
  a_MendU_orU : Addr
  a_MendU_iorU : Addr
  a_MendU_andU : Addr
  a_MendU_eqU : Addr
  a_MendU_strU : Addr
  a__law_bag : Addr
  a__law_draw : Addr
  a__law_one : Addr
  a__law_made : Addr
  a__law_drawn : Addr
  a__law_is : Addr
  a__law_is_right : Addr
  d_is_integer : FuncData
  d_MendU_initU : FuncData
  d_MendU_lenU : FuncData
  d_MendU_boolU : FuncData
  d_MendU_containsU : FuncData
  d_MendU_orU : FuncData
  d_MendU_iorU : FuncData
  d_MendU_andU : FuncData
  d_MendU_eqU : FuncData
  d_MendU_strU : FuncData
  d__law_bag : FuncData
  d__law_draw : FuncData
  d__law_one : FuncData
  d__law_made : FuncData
  d__law_drawn : FuncData
  d__law_is : FuncData
  d__law_is_right : FuncData
/-- what the written part says of them -/
structure Tx (K : PySem.W.Frag) (mg : Str → Option Value) (a : Ad) : Prop where
  mg_Mend : mg "Mend" = some (.ref a.c_Mend)
  cl_Mend : Cls K a.c_Mend
  mk_Mend : Mk K a.c_Mend a.a_MendU_initU
  na_Mend_rows : NoAttr K a.c_Mend "rows"
  F_is_integer : Fun K "is_integer" "is_integer" s_is_integer a.a_is_integer a.d_is_integer
  mg_is_integer : mg "is_integer" = some (.ref a.a_is_integer)
  F_MendU_initU : Fun K "__init__" "Mend.__init__" s_MendU_initU a.a_MendU_initU a.d_MendU_initU
  at_MendU_initU : PySem.W.findIn K (.ref a.c_Mend) "__init__" = some (some (.ref a.a_MendU_initU))
  fn_MendU_initU : PySem.W.isFn K (.ref a.a_MendU_initU) = true
  F_MendU_lenU : Fun K "__len__" "Mend.__len__" s_MendU_lenU a.a_MendU_lenU a.d_MendU_lenU
  at_MendU_lenU : PySem.W.findIn K (.ref a.c_Mend) "__len__" = some (some (.ref a.a_MendU_lenU))
  fn_MendU_lenU : PySem.W.isFn K (.ref a.a_MendU_lenU) = true
  F_MendU_boolU : Fun K "__bool__" "Mend.__bool__" s_MendU_boolU a.a_MendU_boolU a.d_MendU_boolU
  at_MendU_boolU : PySem.W.findIn K (.ref a.c_Mend) "__bool__" = some (some (.ref a.a_MendU_boolU))
  fn_MendU_boolU : PySem.W.isFn K (.ref a.a_MendU_boolU) = true
  F_MendU_containsU : Fun K "__contains__" "Mend.__contains__" s_MendU_containsU a.a_MendU_containsU a.d_MendU_containsU
  at_MendU_containsU : PySem.W.findIn K (.ref a.c_Mend) "__contains__" = some (some (.ref a.a_MendU_containsU))
  fn_MendU_containsU : PySem.W.isFn K (.ref a.a_MendU_containsU) = true
  F_MendU_orU : Fun K "__or__" "Mend.__or__" s_MendU_orU a.a_MendU_orU a.d_MendU_orU
  at_MendU_orU : PySem.W.findIn K (.ref a.c_Mend) "__or__" = some (some (.ref a.a_MendU_orU))
  fn_MendU_orU : PySem.W.isFn K (.ref a.a_MendU_orU) = true
  F_MendU_iorU : Fun K "__ior__" "Mend.__ior__" s_MendU_iorU a.a_MendU_iorU a.d_MendU_iorU
  at_MendU_iorU : PySem.W.findIn K (.ref a.c_Mend) "__ior__" = some (some (.ref a.a_MendU_iorU))
  fn_MendU_iorU : PySem.W.isFn K (.ref a.a_MendU_iorU) = true
  F_MendU_andU : Fun K "__and__" "Mend.__and__" s_MendU_andU a.a_MendU_andU a.d_MendU_andU
  at_MendU_andU : PySem.W.findIn K (.ref a.c_Mend) "__and__" = some (some (.ref a.a_MendU_andU))
  fn_MendU_andU : PySem.W.isFn K (.ref a.a_MendU_andU) = true
  F_MendU_eqU : Fun K "__eq__" "Mend.__eq__" s_MendU_eqU a.a_MendU_eqU a.d_MendU_eqU
  at_MendU_eqU : PySem.W.findIn K (.ref a.c_Mend) "__eq__" = some (some (.ref a.a_MendU_eqU))
  fn_MendU_eqU : PySem.W.isFn K (.ref a.a_MendU_eqU) = true
  F_MendU_strU : Fun K "__str__" "Mend.__str__" s_MendU_strU a.a_MendU_strU a.d_MendU_strU
  at_MendU_strU : PySem.W.findIn K (.ref a.c_Mend) "__str__" = some (some (.ref a.a_MendU_strU))
  fn_MendU_strU : PySem.W.isFn K (.ref a.a_MendU_strU) = true
  F__law_bag : Fun K "_law_bag" "_law_bag" s__law_bag a.a__law_bag a.d__law_bag
  mg__law_bag : mg "_law_bag" = some (.ref a.a__law_bag)
  F__law_draw : Fun K "_law_draw" "_law_draw" s__law_draw a.a__law_draw a.d__law_draw
  mg__law_draw : mg "_law_draw" = some (.ref a.a__law_draw)
  F__law_one : Fun K "_law_one" "_law_one" s__law_one a.a__law_one a.d__law_one
  mg__law_one : mg "_law_one" = some (.ref a.a__law_one)
  F__law_made : Fun K "_law_made" "_law_made" s__law_made a.a__law_made a.d__law_made
  mg__law_made : mg "_law_made" = some (.ref a.a__law_made)
  F__law_drawn : Fun K "_law_drawn" "_law_drawn" s__law_drawn a.a__law_drawn a.d__law_drawn
  mg__law_drawn : mg "_law_drawn" = some (.ref a.a__law_drawn)
  F__law_is : Fun K "_law_is" "_law_is" s__law_is a.a__law_is a.d__law_is
  mg__law_is : mg "_law_is" = some (.ref a.a__law_is)
  F__law_is_right : Fun K "_law_is_right" "_law_is_right" s__law_is_right a.a__law_is_right a.d__law_is_right
  mg__law_is_right : mg "_law_is_right" = some (.ref a.a__law_is_right)
  z_abs : mg "abs" = none
  z_bool : mg "bool" = none
  z_int : mg "int" = none
  z_isinstance : mg "isinstance" = none
  z_len : mg "len" = none
  z_list : mg "list" = none
  z_max : mg "max" = none
  z_min : mg "min" = none
  z_range : mg "range" = none
  z_set : mg "set" = none
  z_sorted : mg "sorted" = none
  z_str : mg "str" = none
  z_tuple : mg "tuple" = none
  nec : NeC K a.c_Mend
  sf : PySem.W.selfFirst K a.c_Mend = true
  ci_at : PySem.W.findIn K (.ref a.c_Mend) "__class__" = some (some (.builtin "object.__class__"))
  ci_get : PySem.W.specialIn K (.builtin "object.__class__") "__get__" = some (some (.builtin "getset_descriptor.__get__"))
  ci_tk : PySem.W.takesIn K (.builtin "object.__class__") = some true
  nf_B : PySem.W.notFirst K a.c_Mend (.ref a.c_Mend) = true
  nf_L : PySem.W.notFirst K a.c_Mend (.type "list") = true
  nf_U : PySem.W.notFirst K a.c_Mend (.type "tuple") = true
  ki_B : PySem.W.kitOne K (.ref a.c_Mend) (.ref a.c_Mend) = some true
  ki_L : PySem.W.kitOne K (.type "list") (.ref a.c_Mend) = some false
  ki_U : PySem.W.kitOne K (.type "tuple") (.ref a.c_Mend) = some false
section
variable {K : PySem.W.Frag} {mg : Str → Option Value} {a : Ad}
theorem Tx.kp_is_integer (T : Tx K mg a) : PySem.W.keepIn K (.ref a.a_is_integer) = true := T.F_is_integer.kp
theorem Tx.b_is_integer (T : Tx K mg a) : Binds K a.d_is_integer ["thing"] [] := T.F_is_integer.binds (ps := ["thing"]) fun _ _ _ _ _ _ us hl => match us, hl with | [_], _ => rfl
theorem Tx.m_MendU_initU (T : Tx K mg a) : Meth K a.c_Mend "__init__" a.a_MendU_initU := ⟨T.at_MendU_initU, T.fn_MendU_initU, T.F_MendU_initU.kp⟩
theorem Tx.m_MendU_lenU (T : Tx K mg a) : Meth K a.c_Mend "__len__" a.a_MendU_lenU := ⟨T.at_MendU_lenU, T.fn_MendU_lenU, T.F_MendU_lenU.kp⟩
theorem Tx.b_MendU_lenU (T : Tx K mg a) : Binds K a.d_MendU_lenU ["self"] [] := T.F_MendU_lenU.binds (ps := ["self"]) fun _ _ _ _ _ _ us hl => match us, hl with | [_], _ => rfl
theorem Tx.m_MendU_boolU (T : Tx K mg a) : Meth K a.c_Mend "__bool__" a.a_MendU_boolU := ⟨T.at_MendU_boolU, T.fn_MendU_boolU, T.F_MendU_boolU.kp⟩
theorem Tx.b_MendU_boolU (T : Tx K mg a) : Binds K a.d_MendU_boolU ["self"] [] := T.F_MendU_boolU.binds (ps := ["self"]) fun _ _ _ _ _ _ us hl => match us, hl with | [_], _ => rfl
theorem Tx.m_MendU_containsU (T : Tx K mg a) : Meth K a.c_Mend "__contains__" a.a_MendU_containsU := ⟨T.at_MendU_containsU, T.fn_MendU_containsU, T.F_MendU_containsU.kp⟩
theorem Tx.b_MendU_containsU (T : Tx K mg a) : Binds K a.d_MendU_containsU ["self", "thing"] [] := T.F_MendU_containsU.binds (ps := ["self", "thing"]) fun _ _ _ _ _ _ us hl => match us, hl with | [_, _], _ => rfl
theorem Tx.m_MendU_orU (T : Tx K mg a) : Meth K a.c_Mend "__or__" a.a_MendU_orU := ⟨T.at_MendU_orU, T.fn_MendU_orU, T.F_MendU_orU.kp⟩
theorem Tx.b_MendU_orU (T : Tx K mg a) : Binds K a.d_MendU_orU ["self", "other"] [] := T.F_MendU_orU.binds (ps := ["self", "other"]) fun _ _ _ _ _ _ us hl => match us, hl with | [_, _], _ => rfl
theorem Tx.m_MendU_iorU (T : Tx K mg a) : Meth K a.c_Mend "__ior__" a.a_MendU_iorU := ⟨T.at_MendU_iorU, T.fn_MendU_iorU, T.F_MendU_iorU.kp⟩
theorem Tx.b_MendU_iorU (T : Tx K mg a) : Binds K a.d_MendU_iorU ["self", "other"] [] := T.F_MendU_iorU.binds (ps := ["self", "other"]) fun _ _ _ _ _ _ us hl => match us, hl with | [_, _], _ => rfl
theorem Tx.m_MendU_andU (T : Tx K mg a) : Meth K a.c_Mend "__and__" a.a_MendU_andU := ⟨T.at_MendU_andU, T.fn_MendU_andU, T.F_MendU_andU.kp⟩
theorem Tx.b_MendU_andU (T : Tx K mg a) : Binds K a.d_MendU_andU ["self", "other"] [] := T.F_MendU_andU.binds (ps := ["self", "other"]) fun _ _ _ _ _ _ us hl => match us, hl with | [_, _], _ => rfl
theorem Tx.m_MendU_eqU (T : Tx K mg a) : Meth K a.c_Mend "__eq__" a.a_MendU_eqU := ⟨T.at_MendU_eqU, T.fn_MendU_eqU, T.F_MendU_eqU.kp⟩
theorem Tx.b_MendU_eqU (T : Tx K mg a) : Binds K a.d_MendU_eqU ["self", "other"] [] := T.F_MendU_eqU.binds (ps := ["self", "other"]) fun _ _ _ _ _ _ us hl => match us, hl with | [_, _], _ => rfl
theorem Tx.m_MendU_strU (T : Tx K mg a) : Meth K a.c_Mend "__str__" a.a_MendU_strU := ⟨T.at_MendU_strU, T.fn_MendU_strU, T.F_MendU_strU.kp⟩
theorem Tx.b_MendU_strU (T : Tx K mg a) : Binds K a.d_MendU_strU ["self"] [] := T.F_MendU_strU.binds (ps := ["self"]) fun _ _ _ _ _ _ us hl => match us, hl with | [_], _ => rfl
theorem Tx.kp__law_bag (T : Tx K mg a) : PySem.W.keepIn K (.ref a.a__law_bag) = true := T.F__law_bag.kp
theorem Tx.b__law_bag (T : Tx K mg a) : Binds K a.d__law_bag ["script", "at"] [] := T.F__law_bag.binds (ps := ["script", "at"]) fun _ _ _ _ _ _ us hl => match us, hl with | [_, _], _ => rfl
theorem Tx.kp__law_draw (T : Tx K mg a) : PySem.W.keepIn K (.ref a.a__law_draw) = true := T.F__law_draw.kp
theorem Tx.b__law_draw (T : Tx K mg a) : Binds K a.d__law_draw ["bag", "many"] [] := T.F__law_draw.binds (ps := ["bag", "many"]) fun _ _ _ _ _ _ us hl => match us, hl with | [_, _], _ => rfl
theorem Tx.kp__law_one (T : Tx K mg a) : PySem.W.keepIn K (.ref a.a__law_one) = true := T.F__law_one.kp
theorem Tx.b__law_one (T : Tx K mg a) : Binds K a.d__law_one ["bag", "some"] [] := T.F__law_one.binds (ps := ["bag", "some"]) fun _ _ _ _ _ _ us hl => match us, hl with | [_, _], _ => rfl
theorem Tx.kp__law_made (T : Tx K mg a) : PySem.W.keepIn K (.ref a.a__law_made) = true := T.F__law_made.kp
theorem Tx.b__law_made (T : Tx K mg a) : Binds K a.d__law_made ["some"] [] := T.F__law_made.binds (ps := ["some"]) fun _ _ _ _ _ _ us hl => match us, hl with | [_], _ => rfl
theorem Tx.kp__law_drawn (T : Tx K mg a) : PySem.W.keepIn K (.ref a.a__law_drawn) = true := T.F__law_drawn.kp
theorem Tx.b__law_drawn (T : Tx K mg a) : Binds K a.d__law_drawn ["bag"] [] := T.F__law_drawn.binds (ps := ["bag"]) fun _ _ _ _ _ _ us hl => match us, hl with | [_], _ => rfl
theorem Tx.kp__law_is (T : Tx K mg a) : PySem.W.keepIn K (.ref a.a__law_is) = true := T.F__law_is.kp
theorem Tx.b__law_is (T : Tx K mg a) : Binds K a.d__law_is ["mend", "due"] [] := T.F__law_is.binds (ps := ["mend", "due"]) fun _ _ _ _ _ _ us hl => match us, hl with | [_, _], _ => rfl
theorem Tx.kp__law_is_right (T : Tx K mg a) : PySem.W.keepIn K (.ref a.a__law_is_right) = true := T.F__law_is_right.kp
theorem Tx.b__law_is_right (T : Tx K mg a) : Binds K a.d__law_is_right ["bag"] [] := T.F__law_is_right.binds (ps := ["bag"]) fun _ _ _ _ _ _ us hl => match us, hl with | [_], _ => rfl
end
end K51
set_option Elab.async false
set_option linter.all false
set_option maxRecDepth 100000
set_option maxHeartbeats 8000000
/- STEPS -/
local macro_rules | `(tactic| walk_at "ty") => `(tactic| first
  | (with_reducible refine' ⟨_, rfl, ?_⟩)
  | (refine' ⟨_, rfl, ?_⟩))
local macro_rules | `(tactic| walk_at "e") => `(tactic| first
  | ((with_reducible refine' DL.WE.var ?k1 ?_); (case k1 => rfl))
  | (with_reducible refine' DL.WE.c ?_)
  | ((with_reducible show DL.WE _ (L2.tOp (L2.rIxL _) (L2.tVar _) _) _ _); (refine' DL.WE.ixL (te := L2.tVar 0) ?k1 ?_); (case k1 => rfl))
  | (with_reducible refine' DL.WE.op ?_)
  | ((with_reducible show DL.WE _ (L2.tCB _ (L2.tCons (L2.tVar _) L2.tNil)) _ _); (refine' DL.WE.lenL (DL.WL.own ?k1 ?_)); (case k1 => rfl))
  | (with_reducible refine' DL.WE.lenSet (DL.WL.data ?_))
  | (with_reducible refine' DL.WE.cb ?_)
  | (with_reducible refine' DL.WE.call0 ?_)
  | (with_reducible refine' DL.WE.meth0 ?_)
  | ((with_reducible show List.lookup _ _ = none ∧ _); refine' And.intro rfl ?_)
  | ((with_reducible first | show List.length (List.cons _ _) ≤ PySem.sizeLine ∧ _ | show List.length [] ≤ PySem.sizeLine ∧ _); refine' And.intro (Nat.le_of_ble_eq_true rfl) ?_)
  | ((with_reducible refine' DL.WE.callB0 ?k1 ?_); (case k1 => rfl))
  | (with_reducible refine' DL.WE.andV ?_)
  | (with_reducible refine' DL.WE.orV ?_)
  | (with_reducible refine' DL.WE.notV ?_)
  | (with_reducible refine' DL.WE.m1 ?_)
  | (with_reducible refine' DL.WE.m0 ?_)
  | (with_reducible refine' DL.WE.lst ?_)
  | (with_reducible refine' DL.WE.tup ‹PySem.W.Frag› ?_)
  | (with_reducible refine' DL.WE.ifE ?_)
  | (with_reducible refine' DL.WE.chain ?_)
  | (with_reducible refine' DL.WE.fld ?_)
  | ((with_reducible show DL.WE _ (L2.tSl L2.rSlS _ _ _) _ _); refine' DL.WE.slS ?_)
  | ((with_reducible show DL.WE _ (L2.tSl (L2.rSlL _) _ _ _) _ _); refine' DL.WE.slL ?_)
  | (with_reducible refine' DL.WP.no ?_)
  | (with_reducible refine' DL.WP.part ?_)
  | ((with_reducible show PySem.Str.length _ ≤ PySem.sizeLine ∧ _); (refine' And.intro ?k1 ?_; (case k1 => assumption)))
  | (with_reducible refine' DL.WA.nil ?_)
  | (with_reducible refine' DL.WA.cons ?_)
  | (with_reducible refine' DL.WT.val ?_)
  | (with_reducible refine' DL.WT.valB ?_)
  | (with_reducible refine' DL.WT.and ?_)
  | (with_reducible refine' DL.WT.or ?_)
  | (with_reducible refine' DL.WT.not ?_)
  | (with_reducible refine' DL.WT.yes ?_)
  | (with_reducible refine' DL.WT.tru ?_)
  | (with_reducible refine' DL.WS.seq ?_)
  | (with_reducible refine' DL.WS.asg ?_)
  | (with_reducible refine' DL.WG.name ?_)
  | ((with_reducible refine' DL.WG.tup ?k1 ?_); (case k1 => rfl))
  | (with_reducible refine' DL.WGs.nil ?_)
  | (with_reducible refine' DL.WGs.cons ?_)
  | ((with_reducible refine' DL.WC.tup ?k1 ?_); (case k1 => rfl))
  | (with_reducible refine' DL.WCs.nil ?_)
  | (with_reducible refine' DL.WCs.cons ?_)
  | (with_reducible refine' DL.WS.ret ?_)
  | (with_reducible refine' DL.WS.retN ?_)
  | (with_reducible refine' DL.WS.ifS ?_)
  | (with_reducible refine' DL.WS.par ?_)
  | (with_reducible refine' DL.WS.next ?_)
  | (with_reducible refine' DL.WI.list ?_)
  | (with_reducible refine' DL.WI.rng1 ?_)
  | (with_reducible refine' DL.WI.str ?_)
  | (with_reducible refine' DL.WC.name (by simp) ?_)
  | ((with_reducible show DL.R2w _ _ _ _); (first
      | refine' DL.r2_I0 ?_
      | refine' DL.r2_leS ?_
      | (refine' DL.r2_eq ?k1 ?_; (case k1 => rfl))
      | (refine' DL.r2_ne ?k1 ?_; (case k1 => rfl))
      | (refine' DL.r2_addS ?_ ?_)))
  | ((with_reducible show DL.RC (L2.rAll _) _ _); refine' DL.rc_all ?_)
  | ((with_reducible show DL.RC (L2.rAny _) _ _); refine' DL.rc_any ?_)
  | ((with_reducible show DL.RC _ [DL.tyL _] _); (first | refine' DL.rc_lenL ?_ | refine' DL.rc_listL ?_ | refine' DL.rc_tupL ?_ | refine' DL.rc_tupF ?_))
  | ((with_reducible show DL.RC _ [DL.tyF _] _); refine' DL.rc_asT ‹PySem.W.Frag› ?_)
  | ((with_reducible show DL.RC _ [DL.tyT _ _] _); (first | refine' DL.rc_lenT ?_ | refine' DL.rc_listT ?_ | refine' DL.rc_tupT ?_))
  | ((with_reducible show DL.RC _ [DL.tyD _] _); (refine' DL.rc_listD ?_))
  | ((with_reducible show DL.RC _ [DL.tyV (L2.V.str _)] _); (refine' DL.rc_lenS ?k1 ?_; (case k1 => assumption)))
  | ((with_reducible show ∃ _, _); walk_at "ty")
  | ((with_reducible show _ ∧ _); (first | (refine' And.intro ?k1 ?_; (case k1 => (intro h; cases h)); intro _) | (refine' And.intro ?_ ?k1; (case k1 => (intro h; cases h)); intro _))))
local macro_rules | `(tactic| walk_at "go") => `(tactic| repeat (walk_at "e"))
/- STEPS END -/
namespace K51
open PySem L2 Lx DL Fm
/-! ### what is an integer -/
inductive El where
  | int (n : Int)
  | bool (b : Bool)
  | oth (T : Ty) (t : Value)
def El.ty : El → Ty
  | .int n => tyI n
  | .bool b => tyB b
  | .oth T _ => T
def El.ok (K : PySem.W.Frag) : El → Prop
  | .oth T t => TyIs K T t ∧ PySem.W.kitOne K t (.type "int") = some false
  | _ => True
def El.isInt : El → Bool
  | .int _ => true
  | _ => false
section
variable {P : Program} {w : World} {K : PySem.W.Frag} {mg : Str → Option Value} {base : Heap} {a : Ad}
def cInt (K : PySem.W.Frag) : El → Cs := fun e => { args := [e.ty], pre := e.ok K, out := fun o => o = .ret (tyB e.isInt) }
theorem ok_int (T : Tx K mg a) : FnOk P w K mg base CX0 1 a.a_is_integer a.d_is_integer ["thing"] (spP (cInt K)) := by
  refine T.F_is_integer.ok sc_is_integer (fun vs H Q E h => ?_) (fun cdv A outer s H vs Q E hr h => ?_)
  · obtain ⟨x, B, _, t, _⟩ := h
    exact t.length
  · refine ⟨_, (pss_one (ps_ret (pe_and (pe_callB call_isi (by rfl) T.z_isinstance (by decide +kernel) (pa_cons (pv 0) (pa_cons (pe_bltn (v := .ty "int") (u := .type "int") (by rfl) T.z_int (by decide +kernel) rfl) pa_nil))) (pe_one (pe_not (pe_callB call_isi (by rfl) T.z_isinstance (by decide +kernel) (pa_cons (pv 0) (pa_cons (pe_bltn (v := .ty "bool") (u := .type "bool") (by rfl) T.z_bool (by decide +kernel) rfl) pa_nil)))))))), ?_⟩
    refine run_P (fun x => of_decide_eq_true rfl) h fun e he => ?_
    try dsimp only [L2.cxOf, L2.Cx.wish]
    cases e with
    | int n =>
      walk_at "go"
      refine rc_isi true rfl (.ty "int") (tyis_int n) rfl ?_
      walk_at "go"
      refine rc_isi false rfl (.ty "bool") (tyis_int n) rfl ?_
      walk_at "go"
      exact rfl
    | bool b =>
      walk_at "go"
      refine rc_isi true rfl (.ty "int") (tyis_bool b) rfl ?_
      walk_at "go"
      refine rc_isi true rfl (.ty "bool") (tyis_bool b) rfl ?_
      walk_at "go"
      exact rfl
    | oth U t =>
      obtain ⟨h1, h2⟩ : TyIs K U t ∧ PySem.W.kitOne K t (.type "int") = some false := he
      walk_at "go"
      refine rc_isi false rfl (.ty "int") h1 h2 ?_
      walk_at "go"
      exact rfl
end
end K51
set_option Elab.async false
set_option linter.all false
set_option maxRecDepth 100000
set_option maxHeartbeats 8000000
namespace K51
open PySem L2 Lx DL Fm
/-! ### set(xs), xs a list or a tuple of ints; sorted(set(xs)) -/
namespace LxS
open PySem PySem.Spec PyProof.Rows L2 Lx
section
variable {P : Program} {w : World} {A : Around} {E : Value → Shared → Prop} {s : Shared}
abbrev emptySet (w : World) : Obj := { cls := .type "set", dict := none, data := .set #[] 0 (.fresh 0 0 (!w.params.followText "set-order")) }
theorem set_ints {l : Addr} {vs : Array Value} {ns : List Int} {Q : Value → Shared → Prop} (calm : A.handled = none) (hl : s.heap.IsList l vs) (hi : IntsAre vs.toList ns) (few : ns.length + 1 < scanBound)
    (h : ∀ (h2 : Heap) (tk c : Nat), SetR w h2 s.heap.objs.size (fun j => decide (j ∈ ns)) c → c ≤ ns.length → (∀ b o, s.heap.get? b = some o → h2.get? b = some o) → Q (.ref s.heap.objs.size) { s with heap := h2, toks := tk }) :
    wpAny (model P w) A (call (.type "set") [.ref l]) Q E s := by
  obtain ⟨c, tl, made0⟩ := PySem.F.called_set.mro
  have made1 := PySem.F.called_set.made
  have made2 := PySem.F.called_set.sub
  refine wpAny_call (codeAny_of_tree ?_)
  show wpAny _ _ (callAny (.type "set") _) _ _ _
  refine wpAny_pure ⟨Code.quiet_builtin _ (by decide +kernel), codeAny_builtin PySem.F.entry_type_call ?_⟩
  rw [Around.under_plain (weight_type_call_type "set" [.ref l] []) rfl]
  have made3 := PySem.F.called_set.notType
  have made4 := PySem.F.called_set.canCreate
  have made5 := PySem.F.typeCall_set_1 (.ref l)
  repeat (any_goals (first | assumption | wp_step))
  refine codeAny_mono (code_set_led1 (.ref l) (E := E) (Q₁ := fun v s1 => v = .ref s.heap.objs.size ∧ s1 = { s with heap := s.heap.push (emptySet w) }) ⟨rfl, rfl⟩) fun r s1 hr => ?_
  rcases r with e | (v | _ | _ | _)
  · exact hr
  · exact hr.elim
  · exact hr.elim
  · exact hr.elim
  obtain ⟨rfl, rfl⟩ := hr
  have new : (s.heap.push (emptySet w)).get? s.heap.objs.size = some (emptySet w) := Heap.get?_push_size _ rfl
  have isSet : Shared.TypeIs { s with heap := s.heap.push (emptySet w) } (.ref s.heap.objs.size) "set" := ⟨_, new, rfl⟩
  have made6 := PySem.F.called_set.init.lookup
  have made7 := PySem.F.called_set.init.bind (.ref s.heap.objs.size)
  repeat (any_goals (first | assumption | wp_step))
  refine codeAny_mono (codeAny_call_builtin (R := wants (fun r s2 => r = .none ∧ ∃ h2 tk c, s2 = { s with heap := h2, toks := tk } ∧ SetR w h2 s.heap.objs.size (fun j => decide (j ∈ ns)) c ∧ c ≤ ns.length ∧ ∀ b o, s.heap.get? b = some o → h2.get? b = some o) E) PySem.F.called_set.init.plain PySem.F.entry_set_init (check_set_init_1 isSet ?_)) fun r2 s2 hr2 => ?_
  · obtain ⟨⟨oc, od, oda, osl⟩, ol, hc, nl, hd⟩ := hl
    simp only at hc hd
    subst hc
    subst hd
    have ol' : (s.heap.push (emptySet w)).get? l = some ⟨.type "list", od, .seq vs nl, osl⟩ := Heap.get?_push_of_some _ ol
    have made8 := PySem.F.sub_list_set
    have made9 := PySem.F.sub_list_frozenset
    have made10 : (Value.type "list" == Value.type "dict") = false := by decide
    have il : (s.heap.push (emptySet w)).IsList l vs := ⟨_, ol', rfl, nl, rfl⟩
    unfold Builtin.«set.__init__» noKeywords Builtin.Frozenset.updateFrom
    generalize hPI : pyIter = PI
    wp_walk
    subst hPI
    refine wpAny_pyIter_list il (wpAny_bind (wpAny_runValue ?_))
    have ls : l < s.heap.objs.size := Heap.lt_size ol
    have sz1 : (s.heap.push (emptySet w)).objs.size = s.heap.objs.size + 1 := Heap.size_push ..
    have calm3 : A.in1.in1.in1.handled = none := by simp [calm]
    have ln : l ≠ (s.heap.push (emptySet w)).objs.size := by rw [sz1]; exact Nat.ne_of_lt (Nat.lt_succ_of_lt ls)
    have off : s.heap.objs.size ∉ [(s.heap.push (emptySet w)).objs.size, l] := by
      rw [sz1]
      intro z
      rcases List.mem_cons.mp z with z | z
      · omega
      · exact Nat.ne_of_gt ls (List.mem_singleton.mp z)
    have hsz : vs.size = ns.length := by
      have q := IntsAre.length hi
      rwa [Array.length_toList] at q
    have item : ∀ (i : Nat) (v : Value), vs[i]? = some v → ∃ x t, ns[i]? = some x ∧ v = .int x t := fun i v hv => by
      have il : i < ns.length := by
        rw [← hsz]
        exact (Array.getElem?_eq_some_iff.mp hv).1
      obtain ⟨t, e⟩ := PyProof.Rows.IntsAre.int_at hi i v (by rw [Array.getElem?_toList]; exact hv)
      refine ⟨ns[i], t, List.getElem?_eq_getElem il, ?_⟩
      rw [e, List.getD_eq_getElem?_getD, List.getElem?_eq_getElem il] <;> rfl
    refine set_update_ints ((Walks.list calm3 _ l ln vs).toS) s.heap.objs.size off ns hsz few item vs.size 0 _ (Nat.sub_zero _) (Nat.zero_le _) ⟨⟨_, Heap.get?_push_size _ rfl, rfl, rfl⟩, il.push _⟩ ?first fun s5 c mv le q5 => ?_
    case first => exact ⟨0, Nat.le_refl 0, setR_new_at (Heap.get?_push_of_some _ new)⟩
    · obtain ⟨h5, g5, d5, t5, os5⟩ := s5
      have eg : g5 = s.gens := mv.gens
      have ed : d5 = s.drawn := mv.drawn
      have eo : os5 = s.os := mv.os
      subst eg
      subst ed
      subst eo
      refine wpAny_pure ?_
      show wpAny _ _ (ret Value.none) _ _ _
      refine wpAny_pure ⟨rfl, h5, t5, c, rfl, q5, by rw [← hsz]; exact le, fun b o e => ?_⟩
      have hb := Heap.lt_size e
      refine mv.heap b o (fun z => ?_) (Heap.get?_push_of_some _ (Heap.get?_push_of_some _ e))
      rcases List.mem_cons.mp z with z | z
      · exact absurd z (Nat.ne_of_lt hb)
      · have q := List.mem_singleton.mp z
        rw [sz1] at q
        exact absurd q (Nat.ne_of_lt (Nat.lt_succ_of_lt hb))
  · rcases r2 with e | (v | _ | _ | _)
    · exact hr2
    · exact hr2.elim
    · exact hr2.elim
    · exact hr2.elim
    obtain ⟨rfl, h2, tk, c, rfl, q2, l2, k2⟩ := hr2
    repeat (any_goals (first | assumption | wp_step))
    exact h _ _ _ q2 l2 k2
end
/-- set(xs), the set as it is tracked -/
def rSetI (K : PySem.W.Frag) (w : World) : List V → Hp → VK → Prop := fun xs H Q => ∃ (l : Addr) (ns : List Int), xs = [.ref l] ∧ (SqL K H l (ns.map V.int) ∨ SqT K H l (ns.map V.int)) ∧ ns.length < 64 ∧
  ∀ (p : Addr) (n : Nat), H p = none → n ≤ ns.length → Q (.ref p) (upd H p (SetO w p (fun j => decide (j ∈ ns)) n))
theorem call_setI {X : Cx} (hcalm : X.calm = true) : CallR X (.type "set") (rSetI X.K X.w) := by
  intro pins s σ H xs us Q I r h
  obtain ⟨l, ns, rfl, hq, few, q⟩ := h
  have fin : ∀ (h2 : Heap) (tk c : Nat), SetR X.w h2 s.heap.objs.size (fun j => decide (j ∈ ns)) c → c ≤ ns.length → (∀ b o, s.heap.get? b = some o → h2.get? b = some o) → EP X pins σ Q (.ref s.heap.objs.size) { s with heap := h2, toks := tk } := fun h2 tk c R le k =>
    ⟨.ref _, upd H s.heap.objs.size (SetO X.w s.heap.objs.size (fun j => decide (j ∈ ns)) c), I.laid (t' := tk) k (Nat.le_refl _) (setO_new R), rfl, q _ c (I.hok.fresh (Nat.le_refl _)) le⟩
  have room : ns.length + 1 < scanBound := by
    unfold scanBound
    omega
  match us, r with
  | [_], .cons rx .nil =>
  cases rx
  rcases hq with hq | hq
  · obtain ⟨its, rv, pl, _⟩ := I.list hq
    exact set_ints (I.ok.hd hcalm) pl.isList (by simpa using rv.ints) room fin
  · obtain ⟨its, rv, pl, _⟩ := I.tuple hq
    exact call_set_tupI ns (I.ok.hd hcalm) pl (by simpa using rv.ints) room fin
end LxS
/-- the one list of the members of ns that ascends -/
theorem asc_uniq : ∀ {xs ys : List Int}, xs.Pairwise (· < ·) → ys.Pairwise (· < ·) → (∀ k, k ∈ xs ↔ k ∈ ys) → xs = ys
  | [], [], _, _, _ => rfl
  | [], y :: ys, _, _, h => by have := (h y).mpr (List.mem_cons_self ..); cases this
  | x :: xs, [], _, _, h => by have := (h x).mp (List.mem_cons_self ..); cases this
  | x :: xs, y :: ys, hx, hy, h => by
    obtain ⟨x1, x2⟩ := List.pairwise_cons.mp hx
    obtain ⟨y1, y2⟩ := List.pairwise_cons.mp hy
    have e : x = y := by
      rcases List.mem_cons.mp ((h x).mp (List.mem_cons_self ..)) with e | m
      · exact e
      · rcases List.mem_cons.mp ((h y).mpr (List.mem_cons_self ..)) with e | m'
        · exact e.symm
        · have := y1 x m
          have := x1 y m'
          omega
    subst e
    rw [asc_uniq x2 y2 fun k => ⟨fun m => ?_, fun m => ?_⟩]
    · rcases List.mem_cons.mp ((h k).mp (List.mem_cons_of_mem _ m)) with e | m'
      · have := x1 k m
        omega
      · exact m'
    · rcases List.mem_cons.mp ((h k).mpr (List.mem_cons_of_mem _ m)) with e | m'
      · have := y1 k m
        omega
      · exact m'
def tySI (w : World) (ns : List Int) : Ty := ⟨fun v H => ∃ a n, v = .ref a ∧ H a = some (SetO w a (fun j => decide (j ∈ ns)) n) ∧ n ≤ ns.length, fun s ⟨a, n, e, h, l⟩ => ⟨a, n, e, s _ _ h, l⟩⟩
section
variable {K : PySem.W.Frag} {w : World} {κ : Ty → Prop} {ns : List Int}
theorem rc_setL (h : ns.length < 64) (k : κ (tySI w ns)) : RC (LxS.rSetI K w) [tyL (ns.map tyI)] κ := fun vs B H Q bh t q => by
  obtain ⟨v, rfl, a, xs, rfl, e1, e2⟩ := vals_one t
  rw [ints_map] at e2
  obtain rfl := e2.vals
  exact ⟨a, ns, rfl, .inl (SqL.of (bh _ _ e1)), h, fun p n np le => q _ _ _ _ k (.new bh np) ⟨p, n, rfl, upd_same, le⟩⟩
theorem rc_setT (h : ns.length < 64) (k : κ (tySI w ns)) : RC (LxS.rSetI K w) [tyT K (ns.map tyI)] κ := fun vs B H Q bh t q => by
  obtain ⟨v, rfl, a, xs, rfl, e1, e2⟩ := vals_one t
  rw [ints_map] at e2
  obtain rfl := e2.vals
  exact ⟨a, ns, rfl, .inr (seqT_same bh e1), h, fun p n np le => q _ _ _ _ k (.new bh np) ⟨p, n, rfl, upd_same, le⟩⟩
theorem rc_sortedSI (h : ns.length < 64) (k : ∀ ys : List Int, ys.Pairwise (· < ·) → (∀ j, j ∈ ys ↔ j ∈ ns) → κ (tyL (ys.map tyI))) : RC (rSortedSet w) [tySI w ns] κ := fun vs B H Q bh t q => by
  obtain ⟨v, rfl, a, n, rfl, e1, e2⟩ := vals_one t
  refine ⟨a, _, n, rfl, bh _ _ e1, by omega, fun ys p s m l np => q _ _ _ _ (k ys s fun j => (m j).trans decide_eq_true_iff) (.new bh np) ⟨p, _, rfl, upd_same, by rw [ints_map]; exact .ofVals _⟩⟩
end
end K51
set_option Elab.async false
set_option linter.all false
set_option maxRecDepth 100000
set_option maxHeartbeats 8000000
namespace K51
open PySem L2 Lx DL Fm
/-! ### the law's draws: a bag of three numbers, of which the second counts -/
def Bag3 (k : Nat) (b : Addr) (H : Hp) : Prop := ∃ o, H b = some o ∧ BagOk 3 k o
def spBag (K : PySem.W.Frag) : Sp := fun vs H Q _ => ∃ (s : Addr) (i : Int) (ns : List Int), vs = [.ref s, .int i] ∧ 0 ≤ i ∧ i ≤ 5 ∧ SqL K H s (ns.map V.int) ∧ ∀ (b : Addr) (H' : Hp), H b = none → Same H H' → Bag3 1000000 b H' → Q (.ref b) H'
theorem nthI {ns : List Int} {i : Int} (h0 : 0 ≤ i) (h1 : i < (ns.map V.int).length) : ∃ n, n ∈ ns ∧ atI (ns.map V.int) i = some (.int n) := by
  rw [List.length_map] at h1
  have hlt : i.toNat < ns.length := by omega
  refine ⟨ns[i.toNat], List.getElem_mem hlt, ?_⟩
  have e : (i.toNat : Int) = i := Int.toNat_of_nonneg h0
  have := atI_nat (xs := ns.map V.int) (j := i.toNat) (v := V.int ns[i.toNat]) (by rw [List.getElem?_map, List.getElem?_eq_getElem hlt]; rfl)
  rw [e] at this
  exact this
theorem eff_upd {B H : Hp} {b : Addr} {o o' : HO} (bh : Same B H) (nb : B b = none) (hb : H b = some o) : Eff [b] B H B (upd H b o') where
  bb := fun _ _ h => h
  bh := fun a u h => by
    have ne : a ≠ b := fun z => by rw [z, nb] at h; cases h
    rw [upd_ne ne]
    exact bh a u h
  fr := fun _ _ _ h => h
  ch := fun a u n h => by
    have ne : a ≠ b := fun z => n (List.mem_singleton.mpr z)
    rw [upd_ne ne]
    exact h
  st := fun a u h => by
    by_cases z : a = b
    · rw [z, upd_same]
      exact ⟨_, rfl⟩
    · rw [upd_ne z]
      exact ⟨u, h⟩
theorem log_small {m : Int} (h0 : 0 < m) (h1 : m < 2 ^ 500) : m.natAbs.log2 < 9000 := by
  have n0 : m.natAbs ≠ 0 := by omega
  have n1 : m.natAbs < 2 ^ 500 := by
    have e : ((m.natAbs : Nat) : Int) = m := by omega
    have : ((m.natAbs : Nat) : Int) < ((2 ^ 500 : Nat) : Int) := by
      rw [e]
      exact h1
    exact Int.ofNat_lt.mp this
  exact Nat.lt_trans ((Nat.log2_lt n0).mpr n1) (by decide)
section
variable {P : Program} {w : World} {K : PySem.W.Frag} {mg : Str → Option Value} {base : Heap} {a : Ad}
theorem ok_bag (T : Tx K mg a) : FnOk P w K mg base CX0 1 a.a__law_bag a.d__law_bag ["script", "at"] (spBag K) := by
  refine T.F__law_bag.ok sc__law_bag (fun vs H Q E h => ?_) (fun cdv A outer s H vs Q E hr h => ?_)
  · obtain ⟨_, _, _, rfl, _⟩ := h
    rfl
  · obtain ⟨sc, i, ns, rfl, h0, h4, hs, k⟩ := h
    refine ⟨_, (pss_cons (ps_set (i := 2) sc__law_bag.nd rfl (Or.inl rfl) (pe_ifExp (pt_cmpR op_lt (pv 1) (pe_callB call_len_seq (by rfl) T.z_len (by decide +kernel) (pa_cons (pv 0) pa_nil)) (nomark _)) (pe_ix ix_list (pv 0) (pv 1) (fun _ _ => rfl)) pe_int))
  (pss_cons (ps_set (i := 3) sc__law_bag.nd rfl (Or.inl rfl) (pe_ifExp (pt_cmpR op_ge (pe_callB call_abs (by rfl) T.z_abs (by decide +kernel) (pa_cons (pv 2) pa_nil)) (pe_op op_pow pe_int pe_int) (nomark _)) (pe_callB call_abs (by rfl) T.z_abs (by decide +kernel) (pa_cons (pv 2) pa_nil)) pe_int))
  (pss_one (ps_ret (pe_lst (pa_cons (pv 3) (pa_cons pe_int (pa_cons (pe_op op_add (pe_op op_add (pe_op op_mod (pe_callTy call_int1 (by rfl) T.z_int (by decide +kernel) (pa_cons (pv 2) pa_nil)) pe_int) (pe_op op_mul pe_int (pv 1))) pe_int) pa_nil)))))))), ?_⟩
    refine if_int (c := decide (i < ((ns.map V.int).length : Int))) (fun Q q => ⟨_, rfl, _, rfl, sc, _, rfl, .inl hs, _, _, rfl, rfl, _, rfl, q⟩) (fun hc => ?_) (fun _ => ⟨0, fun Q q => q⟩) (fun cell => ?_)
    · obtain ⟨n, _, hn⟩ := nthI (ns := ns) h0 (dec_true hc)
      exact ⟨n, fun Q q => ⟨_, rfl, _, rfl, sc, _, _, _, rfl, rfl, hs, hn, q⟩⟩
    dsimp only [gName, tSeq, tAsg]
    refine if_int (c := _) (fun Q q => ⟨_, rfl, _, rfl, _, _, rfl, rfl, ⟨by decide, by decide, by decide⟩, _, _, rfl, rfl, _, rfl, q⟩) (fun _ => ⟨_, fun Q q => ⟨_, rfl, _, rfl, q⟩⟩) (fun _ => ⟨0, fun Q q => q⟩) (fun g => ?_)
    have e1 : 0 ≤ cell % 2305843009213693951 := Int.emod_nonneg _ (by decide)
    have e2 : cell % 2305843009213693951 < 2305843009213693951 := Int.emod_lt_of_pos _ (by decide)
    exact ⟨_, rfl, _, rfl, .inl ⟨_, rfl, _, _, rfl, rfl, (by show (0 : Int) < _; decide), _, rfl, _, _, rfl, rfl, .inl ⟨by decide, by decide⟩, _, _, rfl, rfl, _, _, rfl, rfl, (by show 3 ≤ sizeLine; decide), fun b nb => k b _ nb (Lx.Same.new nb) ⟨_, upd_same, _, _, _, rfl, ⟨by decide, by decide⟩, by show 0 ≤ cell % _ + _ + _; omega, by show cell % _ + _ + _ < _; omega⟩⟩⟩
def cDraw : Int → Cs := fun m => { args := [tyI m], pre := 0 < m ∧ m < 2 ^ 500, out := fun o => ∃ r : Int, 0 ≤ r ∧ r < m ∧ o = .ret (tyI r) }
theorem ok_draw (T : Tx K mg a) : FnOk P w K mg base CX0 1 a.a__law_draw a.d__law_draw ["bag", "many"] (spB 3 1 cDraw) := by
  refine T.F__law_draw.ok sc__law_draw (fun vs H Q E h => ?_) (fun cdv A outer s H vs Q E hr h => ?_)
  · obtain ⟨x, B, b, us, k, o, rfl, _, _, _, _, t, _⟩ := h
    show us.length + 1 = 2
    rw [t.length]
    rfl
  · obtain ⟨m, B, b, us, k, o, rfl, bh, hb, nb, ⟨g, x, y, rfl, ⟨x0, xk⟩, y0, y1⟩, ta, ⟨h0, hm⟩, ho⟩ := h
    obtain rfl : us = [V.int m] := TyAll.vals (xs := [V.int m]) ta
    have xk : x + ((k + 1 : Nat) : Int) ≤ 2 ^ 30 := xk
    have q : ∀ (r : Int) (o' : HO), 0 ≤ r → r < m → BagOk 3 k o' → Q (.int r) (upd H b o') := fun r o' h1 h2 hg => ho (.ret (tyI r)) ⟨r, h1, h2, rfl⟩ (.int r) B _ o' (eff_upd bh nb hb) upd_same hg rfl
    refine ⟨_, (pss_cons (ps_if (pt_cmpR op_gt (pe_ix ix_list (pv 0) pe_int (fun _ _ => rfl)) pe_int (nomark _))
  (pss_cons (ps_set (i := 2) sc__law_draw.nd rfl (Or.inl rfl) (pe_op op_mod (pe_callTy call_int1 (by rfl) T.z_int (by decide +kernel) (pa_cons (pe_ix ix_list (pv 0) pe_int (fun _ _ => rfl)) pa_nil)) (pv 1)))
  (pss_cons (ps_asg (pe_op op_fdivW (pe_ix ix_list (pv 0) pe_int (fun _ _ => rfl)) (pv 1)) (pg_sub (pv 0) pe_int set_list))
  (pss_one (ps_ret (pv 2)))))
  pss_nil)
  (pss_cons (ps_asg (pe_op op_add (pe_ix ix_list (pv 0) pe_int (fun _ _ => rfl)) pe_int) (pg_sub (pv 0) pe_int set_list))
  (pss_cons (ps_set (i := 3) sc__law_draw.nd rfl (Or.inl rfl) (pe_op op_mod (pe_callTy call_int1 (by rfl) T.z_int (by decide +kernel) (pa_cons (pe_op op_pow (pe_op op_add (pe_ix ix_list (pv 0) pe_int (fun _ _ => rfl)) (pe_op op_mul pe_int (pe_ix ix_list (pv 0) pe_int (fun _ _ => rfl)))) pe_int) pa_nil)) pe_int))
  (pss_cons (ps_set (i := 3) sc__law_draw.nd rfl (Or.inl rfl) (pe_op op_mod (pe_callTy call_int1 (by rfl) T.z_int (by decide +kernel) (pa_cons (pe_op op_pow (pe_op op_add (pv 3) (pe_op op_mul pe_int (pe_ix ix_list (pv 0) pe_int (fun _ _ => rfl)))) pe_int) pa_nil)) pe_int))
  (pss_one (ps_ret (pe_op op_mod (pe_callTy call_int1 (by rfl) T.z_int (by decide +kernel) (pa_cons (pe_op op_fdiv (pv 3) pe_int) pa_nil)) (pv 1)))))))), ?_⟩
    have i0 : ∀ u v w : Int, atI [V.int u, V.int v, V.int w] 0 = some (.int u) := fun _ _ _ => rfl
    have i1 : ∀ u v w : Int, atI [V.int u, V.int v, V.int w] 1 = some (.int v) := fun _ _ _ => rfl
    have i2 : ∀ u v w : Int, atI [V.int u, V.int v, V.int w] 2 = some (.int w) := fun _ _ _ => rfl
    refine ⟨_, rfl, b, _, _, _, rfl, rfl, SqL.of hb, i0 g x y, _, _, rfl, rfl, _, rfl, ?_⟩
    refine ite2 (fun hg => ?_) (fun hg => ?_)
    · refine ⟨_, rfl, b, _, _, _, rfl, rfl, SqL.of hb, i0 g x y, .inl ⟨_, rfl, _, rfl, _, _, rfl, rfl, h0, ?_⟩⟩
      refine ⟨_, rfl, b, _, _, _, rfl, rfl, SqL.of hb, i0 g x y, _, rfl, _, _, rfl, rfl, ⟨h0, log_small h0 hm⟩, _, rfl, b, _, _, 0, rfl, rfl, hb, rfl, ?_⟩
      exact ⟨_, rfl, q _ _ (Int.emod_nonneg _ (by omega)) (Int.emod_lt_of_pos _ h0) ⟨_, _, _, rfl, ⟨x0, by omega⟩, y0, y1⟩⟩
    · refine ⟨_, rfl, b, _, _, _, rfl, rfl, SqL.of hb, i1 g x y, _, _, rfl, rfl, _, rfl, b, _, _, 1, rfl, rfl, hb, rfl, ?_⟩
      have hb2 : upd H b (.lst [.int g, .int (x + 1), .int y]) b = some (.lst [.int g, .int (x + 1), .int y]) := upd_same
      refine ⟨_, rfl, b, _, _, _, rfl, rfl, SqL.of hb2, i2 _ _ _, _, rfl, b, _, _, _, rfl, rfl, SqL.of hb2, i1 _ _ _, _, _, rfl, rfl, .inl ⟨by decide, by decide⟩, _, _, rfl, rfl, _, _, rfl, rfl, ⟨by decide, by decide, by show (y + 15485863 * (x + 1)).natAbs < _; omega⟩, .inl ⟨_, rfl, _, _, rfl, rfl, (by show (0 : Int) < _; decide), ?_⟩⟩
      have e1 : ∀ z : Int, 0 ≤ z % 2305843009213693921 := fun z => Int.emod_nonneg _ (by decide)
      have e2 : ∀ z : Int, z % 2305843009213693921 < 2305843009213693921 := fun z => Int.emod_lt_of_pos _ (by decide)
      refine ⟨_, rfl, _, rfl, b, _, _, _, rfl, rfl, SqL.of hb2, i1 _ _ _, _, _, rfl, rfl, .inl ⟨by decide, by decide⟩, _, _, rfl, rfl, _, _, rfl, rfl, ⟨by decide, by decide, ?_⟩, .inl ⟨_, rfl, _, _, rfl, rfl, (by show (0 : Int) < _; decide), ?_⟩⟩
      · have a1 := e1 ((y + 15485863 * (x + 1)) ^ Int.toNat 3)
        have a2 := e2 ((y + 15485863 * (x + 1)) ^ Int.toNat 3)
        obtain ⟨z, hz⟩ : ∃ z, (y + 15485863 * (x + 1)) ^ Int.toNat 3 % 2305843009213693921 = z := ⟨_, rfl⟩
        show ((y + 15485863 * (x + 1)) ^ Int.toNat 3 % 2305843009213693921 + 49979687 * (x + 1)).natAbs < 2 ^ 64
        rw [hz] at a1 a2 ⊢
        omega
      · exact ⟨_, rfl, _, _, rfl, rfl, ⟨by decide, by decide⟩, .inl ⟨_, rfl, _, rfl, _, _, rfl, rfl, h0, q _ _ (Int.emod_nonneg _ (by omega)) (Int.emod_lt_of_pos _ h0) ⟨_, _, _, rfl, ⟨by show 0 ≤ x + 1; omega, by show x + 1 + _ ≤ _; omega⟩, y0, y1⟩⟩⟩
def cOne : List Int → Cs := fun ns => { args := [tyL (ns.map tyI)], pre := 0 < ns.length ∧ ns.length < 1000, out := fun o => ∃ n, n ∈ ns ∧ o = .ret (tyI n) }
theorem ok_one (T : Tx K mg a) : FnOk P w K mg base CX0 2 a.a__law_one a.d__law_one ["bag", "some"] (spB 3 1 cOne) := by
  have G__law_draw := ok_draw (P := P) (w := w) (base := base) T
  refine T.F__law_one.ok sc__law_one (fun vs H Q E h => ?_) (fun cdv A outer s H vs Q E hr h => ?_)
  · obtain ⟨x, B, b, us, k, o, rfl, _, _, _, _, t, _⟩ := h
    show us.length + 1 = 2
    rw [t.length]
    rfl
  · refine ⟨_, (pss_one (ps_ret (pe_ix ix_list (pv 1) (pe_call G__law_draw (hr.mono (by decide)) (by rfl) T.mg__law_draw T.kp__law_draw T.b__law_draw .nil pass0 (pa_cons (pv 0) (pa_cons (pe_callB call_len_seq (by rfl) T.z_len (by decide +kernel) (pa_cons (pv 1) pa_nil)) pa_nil))) (fun _ _ => rfl)))), ?_⟩
    refine run_B (fun _ => of_decide_eq_true rfl) h fun ns k ⟨h0, h1⟩ => ?_
    try dsimp only [L2.cxOf, L2.Cx.wish]
    refine WS.ret (WE.op (WE.var rfl (WE.callB0 rfl ?_)))
    walk_at "go"
    rw [List.length_map]
    refine ⟨by omega, (ns.length : Int), rfl, ⟨by omega, by omega⟩, ?_⟩
    rintro o ⟨r, r0, r1, rfl⟩
    refine ⟨_, rfl, ?_⟩
    obtain ⟨U, u1, u2⟩ := atI_lt (ts := ns.map tyI) r0 (by rw [List.length_map]; exact r1)
    obtain ⟨n, hn, rfl⟩ := List.mem_map.mp (List.mem_of_getElem? u2)
    exact r2_ixL _ u1 ⟨⟨_, rfl, by omega⟩, n, hn, rfl⟩
end
end K51
set_option Elab.async false
set_option linter.all false
set_option maxRecDepth 100000
set_option maxHeartbeats 8000000
namespace K51
open PySem L2 Lx DL Fm
/-! ### mends -/
def insI (x : Int) : List Int → List Int
  | [] => [x]
  | y :: r => if x < y then x :: y :: r else if x = y then y :: r else y :: insI x r
def srtI (ns : List Int) : List Int := ns.foldr insI []
theorem mem_insI {x k : Int} : ∀ {l : List Int}, k ∈ insI x l ↔ k = x ∨ k ∈ l
  | [] => by unfold insI; simp
  | y :: r => by
    unfold insI
    split
    · simp
    · split
      · rename_i h
        subst h
        simp
      · rw [List.mem_cons, mem_insI (l := r), List.mem_cons]
        constructor
        · rintro (h | h | h)
          · exact .inr (.inl h)
          · exact .inl h
          · exact .inr (.inr h)
        · rintro (h | h | h)
          · exact .inr (.inl h)
          · exact .inl h
          · exact .inr (.inr h)
theorem pw_insI {x : Int} : ∀ {l : List Int}, l.Pairwise (· < ·) → (insI x l).Pairwise (· < ·)
  | [], _ => by unfold insI; simp
  | y :: r, h => by
    obtain ⟨h1, h2⟩ := List.pairwise_cons.mp h
    unfold insI
    split
    · rename_i q
      refine List.pairwise_cons.mpr ⟨fun z hz => ?_, h⟩
      rcases List.mem_cons.mp hz with rfl | hz
      · exact q
      · have := h1 z hz
        omega
    · split
      · exact h
      · refine List.pairwise_cons.mpr ⟨fun z hz => ?_, pw_insI h2⟩
        rcases mem_insI.mp hz with rfl | hz
        · omega
        · exact h1 z hz
theorem mem_srtI {k : Int} : ∀ {l : List Int}, k ∈ srtI l ↔ k ∈ l
  | [] => Iff.rfl
  | x :: r => by
    show k ∈ insI x (srtI r) ↔ _
    rw [mem_insI, mem_srtI (l := r), List.mem_cons]
theorem pw_srtI : ∀ l : List Int, (srtI l).Pairwise (· < ·)
  | [] => .nil
  | x :: r => pw_insI (pw_srtI r)
theorem srtI_of {xs l : List Int} (h : xs.Pairwise (· < ·)) (m : ∀ k, k ∈ xs ↔ k ∈ l) : xs = srtI l := asc_uniq h (pw_srtI l) fun k => (m k).trans mem_srtI.symm
theorem srtI_len : ∀ l : List Int, (srtI l).length ≤ l.length
  | [] => Nat.le_refl _
  | x :: r => by
    have ins : ∀ l : List Int, (insI x l).length ≤ l.length + 1 := fun l => by
      induction l with
      | nil => exact Nat.le_refl _
      | cons y r ih =>
        unfold insI
        split
        · exact Nat.le_refl _
        · split
          · exact Nat.le_succ _
          · exact Nat.succ_le_succ ih
    exact Nat.le_trans (ins _) (Nat.succ_le_succ (srtI_len r))
abbrev mendT (K : PySem.W.Frag) (c : Addr) (ns : List Int) : Ty := tyO c [("rows", tyT K (ns.map tyI))]
def cMInit (K : PySem.W.Frag) (c : Addr) : List Int → Cs := fun ns => { args := [tyT K (ns.map tyI)], pre := ns.length < 64, out := fun o => o = .ret (mendT K c (srtI ns)) }
section
variable {P : Program} {w : World} {K : PySem.W.Frag} {mg : Str → Option Value} {base : Heap} {a : Ad}
theorem minit_body (T : Tx K mg a) (cdv : Value) (A : Around) (outer : List Env) (s : Shared) (H : Hp) (vs : List V) (Q : VK) (E : XK) (hr : Room 1 (A.deeper (PyProof.Rows.envOfC "Mend.__init__" (defScope s_MendU_initU) s.heap.objs.size a.a_MendU_initU cdv))) (h : spNew a.c_Mend (cMInit K a.c_Mend) vs H Q E) :
    ∃ t, PSs (cxOf CX0 P w K mg base ["self", "rows"] "Mend.__init__" (defScope s_MendU_initU) a.a_MendU_initU cdv A outer s H E) (defBody s_MendU_initU) t ∧ t { nx := fun _ H' => Q .non H', rt := Q } (L2.start ["self", "rows"] vs) H := by
  refine ⟨_, (pss_one (ps_fld (pv 0) (pe_callTy call_tuple_of (by rfl) T.z_tuple (by decide +kernel) (pa_cons (pe_callB (cr_sortedSet rfl) (by rfl) T.z_sorted (by decide +kernel) (pa_cons (pe_callTy (LxS.call_setI rfl) (by rfl) T.z_set (by decide +kernel) (pa_cons (pv 1) pa_nil)) pa_nil)) pa_nil)) rfl)), ?_⟩
  refine run_newS (fun _ => of_decide_eq_true rfl) h fun ns hn => ?_
  have hn : ns.length < 64 := hn
  try dsimp only [L2.cxOf, L2.Cx.wish]
  refine WS.setFldM T.cl_Mend T.na_Mend_rows (WE.cb (WA.cons (WE.cb (WA.cons (WE.cb (WA.cons (WE.var rfl (WA.nil (rc_setT hn (WA.nil (rc_sortedSI hn fun ys h1 h2 => WA.nil (rc_tupL ⟨_, rfl, Nat.le_of_ble_eq_true rfl, ?_⟩))))))))))))
  obtain rfl := srtI_of h1 h2
  exact ⟨_, rfl, rfl⟩
abbrev spStar (C : Addr) (c : List Int → Cs) : Sp := fun vs H Q E => ∃ ws rest, vs = ws ++ rest ∧ ws.length = (["self"] : List Str).length ∧ rest.length ≤ sizeLine ∧ ∀ p, H p = Option.none → spNew C c (ws ++ [V.ref p]) (upd H p (.tup rest)) Q E
theorem gr_minit (T : Tx K mg a) : FnR P w K mg base CX0 2 a.a_MendU_initU (spStar a.c_Mend (cMInit K a.c_Mend)) := by
  obtain ⟨oc, od, kV, doc, pm, an, cdv, ct, osl, e, lk, hcd⟩ := T.F_MendU_initU.ex
  rw [e] at lk
  exact StX.fn_star (ps := ["self"]) (pv := "rows") lk hcd sc_MendU_initU StX.cxUp_none (StX.bind_star1 (B := fun l => bindArgs (PySem.W.fnOf "__init__" "Mend.__init__" (defArgs s_MendU_initU) (defBody s_MendU_initU) (defScope s_MendU_initU) .none kV doc pm an cdv ct) ⟨l, []⟩) (p1 := "self") (pv := "rows") (fun a => rfl) (fun a r rs => rfl)) fun A outer s H vs Q E hr h => minit_body T cdv A outer s H vs Q E hr h
end
section
variable {X : Xn} {Γ : List DL.Slot} {κ : Ty → List DL.Slot → Prop} {K : PySem.W.Frag} {C : Addr} {c : List Int → Cs} {E : XK}
theorem star_new {σ : L2.St} {B H : Hp} {x dx : Addr} {vs : List V} {Ts : List Ty} {Q : VK} (s : Sat σ B H Γ) (nx : H x = none) (nd : H dx = none) (ne : dx ≠ x) (tr : TyAll Ts vs B)
    (hm : Meets c [tyT K Ts] fun o => ∃ T, o = .ret T ∧ κ T Γ) (q : ∀ (v : V) (B' H' : Hp) (T : Ty), κ T Γ → Sat σ B' H' Γ → Go σ Γ B H σ Γ B' H' → T.ok v B' → Q v H') :
    ∀ p, upd (upd H dx (.own x)) x (.ins C dx []) p = none → spNew C c ([.ref x] ++ [V.ref p]) (upd (upd (upd H dx (.own x)) x (.ins C dx [])) p (.tup vs)) (fun v H3 => v = .non ∧ Q (.ref x) H3) E := fun p hp => by
  have d1 : p ≠ x := fun z => by rw [z, upd_same] at hp; cases hp
  rw [upd_ne d1] at hp
  have d2 : p ≠ dx := fun z => by rw [z, upd_same] at hp; cases hp
  rw [upd_ne d2] at hp
  have ef : Eff [] B H (upd B p (.tup vs)) (upd H p (.tup vs)) := .new s.bh hp
  have comm : upd (upd (upd H dx (.own x)) x (.ins C dx [])) p (.tup vs) = upd (upd (upd H p (.tup vs)) dx (.own x)) x (.ins C dx []) := by
    funext y
    by_cases y1 : y = p
    · rw [y1, upd_same, upd_ne d1, upd_ne d2, upd_same]
    · rw [upd_ne y1]
      by_cases y2 : y = x
      · rw [y2, upd_same, upd_same]
      · rw [upd_ne y2, upd_ne y2]
        by_cases y3 : y = dx
        · rw [y3, upd_same, upd_same]
        · rw [upd_ne y3, upd_ne y3, upd_ne y1]
  rw [comm]
  have kd : (tyT K Ts).ok (.ref p) (upd B p (.tup vs)) := ⟨p, vs, rfl, SqT.of upd_same, tr.mono ef.bb⟩
  obtain ⟨z, e1, e2, e3⟩ := hm
  exact apply_new (X := ⟨fun _ => E, fun _ _ _ _ => False⟩) (s.step ef) (fun _ _ _ _ _ _ _ _ _ z => z.elim) (vs := [.ref p]) (Ts := [tyT K Ts]) ⟨kd, trivial⟩ ⟨z, e1, e2, fun o ho => by
    obtain ⟨T, rfl, k⟩ := e3 o ho
    exact k⟩ (by rw [upd_ne (Ne.symm d1)]; exact nx) (by rw [upd_ne (Ne.symm d2)]; exact nd) ne fun v B' H' T k s' g' ok => q v B' H' T k s' (ef.go.trans g') ok
/-- C(e, ..), C's __init__ with *rows alone; it raises nothing -/
theorem WE.makeR0 {t : TA} (h : DL.WA X t Γ fun Ts Γ1 => Ts.length ≤ sizeLine ∧ Meets c [tyT K Ts] fun o => ∃ T, o = .ret T ∧ κ T Γ1) : DL.WE X (StX.tMakeR C (spStar C c) E t) Γ κ := fun σ B H s xo Q q =>
  h σ B H s xo _ fun vs B1 H1 Ts Γ1 k1 s1 b1 t1 x dx nx nd ne => by
    refine ⟨[.ref x], vs, rfl, rfl, by rw [t1.length]; exact k1.1, ?_⟩
    exact star_new s1 nx nd ne t1 k1.2 fun v B' H' T k s' g' ok => q v B' H' T Γ1 k s' (b1.trans g') ok
end
/-! C(*x), C(*x, *y) -/
namespace LxS
open PySem PySem.Spec PyProof.Rows PySem.Calls L2
theorem evalArgs_two {M : Model} {A : Around} {E : Value → Shared → Prop} {s : Shared} {f : Value} {x y : Sem Value} {b : Bool} {rest : List (Bool × Sem Value)} {Q : Args → Shared → Prop}
    (h : wpAny M A (spliced ((true, x) :: (b, y) :: rest)) (fun vs s1 => Q ⟨vs, []⟩ s1) E s) : wpAny M A (evalArgs f true ((true, x) :: (b, y) :: rest) []) Q E s := by
  unfold evalArgs
  dsimp only
  generalize spliced ((true, x) :: (b, y) :: rest) = S at h ⊢
  refine wpAny_bind (wpAny_mono h (fun vs s1 h1 => wpAny_bind (wpAny_pure (wpAny_holding ?_))) fun _ _ z => z)
  exact wpAny_bind (wpAny_pure (wpAny_bind (wpAny_pure (wpAny_pure h1))))
def tMakeS1 (K : PySem.W.Frag) (C : Addr) (sp : Sp) (E : XK) (te : TE) : TE := fun σ H Q => te σ H fun y H1 => ∃ a xs, y = V.ref a ∧ (SqT K H1 a xs ∨ SqL K H1 a xs) ∧ ∀ x dx, H1 x = Option.none → H1 dx = Option.none → dx ≠ x →
  sp (V.ref x :: xs) (upd (upd H1 dx (.own x)) x (.ins C dx [])) (fun v H2 => v = .non ∧ Q (.ref x) H2) E
section
variable {X : Cx} {CX : CXT} {k : Nat} {f C : Addr} {sp : Sp} {E : XK} {x : Str} {e e2 : Expr} {te : TE} {t : TA} {p p1 p2 pos : Pos}
theorem pe_makeS1 (M : Mk X.K C f) (F : FnR X.prog X.w X.K X.mg X.base CX k f sp) (hr : Room (k + 1) X.A) (hg : Gl X x) (hm : X.mg x = some (.ref C)) (hx : Passes CX X E) (he : PE X e te) (hd : (x == ("__debug__" : Str)) = false := by decide)
    (hst : starEach [.Starred e p1] X.env = [(true, eval e X.env)] := by rfl) : PE X (.Call (.Name x p) [.Starred e p1] [] pos) (tMakeS1 X.K C sp E te) := by
  refine ⟨fun pins s σ H Q I h => ?_⟩
  refine wpAny_Call_Name_kw (ld_glob I hg hm ?_ hd)
  refine PySem.W.callWith_S (h₀ := X.base) I.ok.mod.kin M.kp (thn (he.run pins s σ H _ I h) fun v s1 ⟨y, H1, I1, ry, a, xs, ey, hxs, q⟩ => ?_) hst
  subst ey
  obtain rfl : v = Value.ref a := ry
  exact StX.star_any I1 hxs fun us s2 I2 rv => ⟨I2.kIn, StX.run_makeR M F hr hx I2 rv q⟩
theorem pe_makeS2 (M : Mk X.K C f) (F : FnR X.prog X.w X.K X.mg X.base CX k f sp) (hr : Room (k + 1) X.A) (hg : Gl X x) (hm : X.mg x = some (.ref C)) (hx : Passes CX X E) (ha : PA X [.Starred e p1, .Starred e2 p2] t) (hd : (x == ("__debug__" : Str)) = false := by decide)
    (hst : starEach [.Starred e p1, .Starred e2 p2] X.env = [(true, eval e X.env), (true, eval e2 X.env)] := by rfl) : PE X (.Call (.Name x p) [.Starred e p1, .Starred e2 p2] [] pos) (StX.tMakeR C sp E t) := by
  refine ⟨fun pins s σ H Q I h => ?_⟩
  refine wpAny_Call_Name_kw (ld_glob I hg hm ?_ hd)
  have hr2 := ha.run pos pins s σ H _ I h
  rw [hst] at hr2
  show wpAny _ _ (callWith pos (.ref C) [] (backTo pos (starEach [.Starred e p1, .Starred e2 p2] X.env)) []) _ _ _
  rw [hst]
  refine PySem.W.ks_call (P := X.K.In) rfl (PySem.W.keeps_K M.kp) (evalArgs_two (thn hr2 fun us s1 hq => ?_))
  obtain ⟨vs, H1, I1, r, q⟩ := hq
  exact ⟨I1.kIn, StX.run_makeR M F hr hx I1 r q⟩
/-- C() -/
theorem pe_makeR00 (M : Mk X.K C f) (F : FnR X.prog X.w X.K X.mg X.base CX k f sp) (hr : Room (k + 1) X.A) (hg : Gl X x) (hm : X.mg x = some (.ref C)) (hx : Passes CX X E) (hdb : (x == ("__debug__" : Str)) = false := by decide) : PE X (.Call (.Name x p) [] [] pos) (StX.tMakeR C sp E tNil) := by
  refine ⟨fun pins s σ H Q I h => ?_⟩
  refine wpAny_Call_Name_kw (ld_glob I hg hm ?_ hdb)
  exact PySem.W.callWith_K0 I.kIn M.kp (StX.run_makeR M F hr hx I .nil h)
end
end LxS
end K51
set_option Elab.async false
set_option linter.all false
set_option maxRecDepth 100000
set_option maxHeartbeats 8000000
namespace K51
open PySem L2 Lx DL Fm
/-! ### new mends -/
section
variable {X : Xn} {Γ : List DL.Slot} {κ : Ty → List DL.Slot → Prop} {K : PySem.W.Frag} {C : Addr} {c : List Int → Cs} {E : XK}
theorem _root_.DL.Eff.unf {S : List Addr} {B H B' H' : Hp} {x : Addr} (e : Eff S B H B' H') (s : Same B H) (n : H x = none) : Eff S B H (DL.rem B' x) H' where
  bb := fun a u h => by
    have ne : a ≠ x := fun z => by rw [← z, s a u h] at n; cases n
    rw [rem_ne ne]
    exact e.bb a u h
  bh := fun a u h => e.bh a u (rem_sub a u h)
  fr := fun a o h hb => by
    by_cases z : a = x
    · rw [z, rem_self]
    · rw [rem_ne z]
      exact e.fr a o h hb
  ch := e.ch
  st := e.st
theorem star_newX {B H : Hp} {x dx : Addr} {vs : List V} {Ts : List Ty} {Q : VK} {w : Ty → Prop} (bh : Same B H) (nx : H x = none) (nd : H dx = none) (ne : dx ≠ x) (tr : TyAll Ts vs B)
    (hm : Meets c [tyT K Ts] fun o => ∃ T, o = .ret T ∧ w T) (q : ∀ (B' H' : Hp) (T : Ty), w T → Eff [] B H B' H' → T.ok (.ref x) B' → Q (.ref x) H') :
    ∀ p, upd (upd H dx (.own x)) x (.ins C dx []) p = none → spNew C c ([.ref x] ++ [V.ref p]) (upd (upd (upd H dx (.own x)) x (.ins C dx [])) p (.tup vs)) (fun v H3 => v = .non ∧ Q (.ref x) H3) E := fun p hp => by
  have d1 : p ≠ x := fun z => by rw [z, upd_same] at hp; cases hp
  rw [upd_ne d1] at hp
  have d2 : p ≠ dx := fun z => by rw [z, upd_same] at hp; cases hp
  rw [upd_ne d2] at hp
  have ef : Eff [] B H (upd B p (.tup vs)) (upd H p (.tup vs)) := .new bh hp
  have comm : upd (upd (upd H dx (.own x)) x (.ins C dx [])) p (.tup vs) = upd (upd (upd H p (.tup vs)) dx (.own x)) x (.ins C dx []) := by
    funext y
    by_cases y1 : y = p
    · rw [y1, upd_same, upd_ne d1, upd_ne d2, upd_same]
    · rw [upd_ne y1]
      by_cases y2 : y = x
      · rw [y2, upd_same, upd_same]
      · rw [upd_ne y2, upd_ne y2]
        by_cases y3 : y = dx
        · rw [y3, upd_same, upd_same]
        · rw [upd_ne y3, upd_ne y3, upd_ne y1]
  rw [comm]
  have kd : (tyT K Ts).ok (.ref p) (upd B p (.tup vs)) := ⟨p, vs, rfl, SqT.of upd_same, tr.mono ef.bb⟩
  obtain ⟨z, e1, e2, e3⟩ := hm
  refine ⟨z, upd B p (.tup vs), upd H p (.tup vs), x, dx, [.ref p], rfl, by rw [upd_ne (Ne.symm d1)]; exact nx, by rw [upd_ne (Ne.symm d2)]; exact nd, ne, rfl, ef.bh, by rw [← e1]; exact ⟨kd, trivial⟩, e2, fun o ho => ?_⟩
  obtain ⟨T, rfl, k⟩ := e3 o ho
  exact fun B' H' e ok => ⟨rfl, q B' H' T k (ef.trans e) ok⟩
/-- what stands in its place from its making on, taken out again -/
def Unf (T : Ty) (M : MTy) : Prop := ∀ (x : Addr) (B : Hp), T.ok (.ref x) B → ∃ o, B x = some o ∧ M.ok x o (DL.rem B x)
abbrev mendM (K : PySem.W.Frag) (c : Addr) (ns : List Int) : MTy := mO c [("rows", tyT K (ns.map tyI))]
theorem intsT_to {ns : List Int} {v : V} {B : Hp} (t : (tyT K (ns.map tyI)).ok v B) : (tyT K ((ns.map V.int).map tyV)).ok v B := by
  have e := ints_map ns
  exact e ▸ t
theorem intsT_from {ns : List Int} {v : V} {B : Hp} (t : (tyT K ((ns.map V.int).map tyV)).ok v B) : (tyT K (ns.map tyI)).ok v B := by
  rw [ints_map]
  exact t
theorem mend_rem {p : Addr} {ns : List Int} {B : Hp} {dx : Addr} {us : List (Str × V)} (hp : B p = some (.ins C dx us)) : ∀ {vs : List V}, TyAll [tyT K (ns.map tyI)] vs B → TyAll [tyT K (ns.map tyI)] vs (DL.rem B p)
  | [], t => t.elim
  | [v], t => ⟨intsT_from (tyTV_rem hp (intsT_to t.1)), trivial⟩
  | _ :: _ :: _, t => t.2.elim
theorem unf_mend {ns : List Int} : Unf (mendT K C ns) (mendM K C ns) := fun x B ⟨a, dx, ws, e, h, k, t⟩ => by
  cases e
  exact ⟨_, h, dx, ws, rfl, k, mend_rem h t⟩
theorem avdM_mend {p : Addr} {ms ns : List Int} : AvdM p (mendM K C ms) (mendM K C ns) (mendM K C ns) := fun q o o' B hp ⟨dx, us, e, _, _⟩ _ ⟨dy, ws, e', k, t⟩ => by
  subst e
  exact ⟨dy, ws, e', k, mend_rem hp t⟩
theorem avdM_at {p r : Addr} {ms : List Int} {N N' : MTy} (h : AvdM p (mendM K C ms) N N') : AvdM p (mAt r (mendM K C ms)) N N' := fun q o o' B hp ⟨_, hk⟩ ne hn => h q o o' B hp hk ne hn
theorem avdM_to {p r : Addr} {M N N' : MTy} (h : AvdM p M N N') : AvdM p M (mAt r N) (mAt r N') := fun q o o' B hp hk ne ⟨e, hn⟩ => ⟨e, h q o o' B hp hk ne hn⟩
/-- C(e, ..), a new thing -/
theorem WO.makeR0 {κ : MTy → List DL.Slot → Prop} {t : TA} (h : DL.WA X t Γ fun Ts Γ1 => Ts.length ≤ sizeLine ∧ Meets c [tyT K Ts] fun o => ∃ T, o = .ret T ∧ ∃ M, Unf T M ∧ κ M Γ1) : DL.WO X (StX.tMakeR C (spStar C c) E t) Γ κ := fun σ B H s xo Q q =>
  h σ B H s xo _ fun vs B1 H1 Ts Γ1 k1 s1 b1 t1 x dx nx nd ne => by
    refine ⟨[.ref x], vs, rfl, rfl, by rw [t1.length]; exact k1.1, ?_⟩
    refine star_newX s1.bh nx nd ne t1 k1.2 fun B' H' T ⟨M, un, k⟩ ef ok => ?_
    obtain ⟨o, e1, e2⟩ := un x B' ok
    exact new_own s1 (ef.unf s1.bh nx) nx (ef.bh _ _ e1) rem_self e2 fun p o B' H1 s' g n kk => q p o B' H1 M Γ1 k s' (b1.trans g) n kk
end
end K51
set_option Elab.async false
set_option linter.all false
set_option maxRecDepth 100000
set_option maxHeartbeats 8000000
namespace K51
open PySem L2 Lx DL Fm
section
variable {X : Xn} {Γ : List DL.Slot} {κ : Ty → List DL.Slot → Prop} {K : PySem.W.Frag} {C : Addr} {c : List Int → Cs} {E : XK}
/-- C(*x) -/
theorem WE.makeS0 {te : TE} (h : DL.WE X te Γ fun T Γ1 => ∃ Ts, Sq K T Ts ∧ Ts.length ≤ sizeLine ∧ Meets c [tyT K Ts] fun o => ∃ T, o = .ret T ∧ κ T Γ1) : DL.WE X (LxS.tMakeS1 K C (spStar C c) E te) Γ κ := fun σ B H s xo Q q =>
  h σ B H s xo _ fun v B1 H1 T Γ1 k1 s1 b1 t1 => by
    obtain ⟨Ts, hq, hl, hm⟩ := k1
    have fin : ∀ (a : Addr) (xs : List V), v = .ref a → (SqT K H1 a xs ∨ SqL K H1 a xs) → TyAll Ts xs B1 → ∃ a xs, v = V.ref a ∧ (SqT K H1 a xs ∨ SqL K H1 a xs) ∧ ∀ x dx, H1 x = Option.none → H1 dx = Option.none → dx ≠ x → spStar C c (V.ref x :: xs) (upd (upd H1 dx (.own x)) x (.ins C dx [])) (fun v H2 => v = .non ∧ Q (.ref x) H2) E := fun a xs e hs t => by
      refine ⟨a, xs, e, hs, fun x dx nx nd ne => ⟨[.ref x], xs, rfl, rfl, by rw [t.length]; exact hl, ?_⟩⟩
      exact star_new s1 nx nd ne t hm fun v B' H' T k s' g' ok => q v B' H' T Γ1 k s' (b1.trans g') ok
    rcases hq with rfl | rfl
    · obtain ⟨a, xs, rfl, e1, e2⟩ := t1
      exact fin a xs rfl (.inr (SqL.of (s1.bh _ _ e1))) e2
    · obtain ⟨a, xs, rfl, e1, e2⟩ := t1
      exact fin a xs rfl (.inl (seqT_same s1.bh e1)) e2
/-- C(*x), a new thing -/
theorem WO.makeS0 {κ : MTy → List DL.Slot → Prop} {te : TE} (h : DL.WE X te Γ fun T Γ1 => ∃ Ts, Sq K T Ts ∧ Ts.length ≤ sizeLine ∧ Meets c [tyT K Ts] fun o => ∃ T, o = .ret T ∧ ∃ M, Unf T M ∧ κ M Γ1) : DL.WO X (LxS.tMakeS1 K C (spStar C c) E te) Γ κ := fun σ B H s xo Q q =>
  h σ B H s xo _ fun v B1 H1 T Γ1 k1 s1 b1 t1 => by
    obtain ⟨Ts, hq, hl, hm⟩ := k1
    have fin : ∀ (a : Addr) (xs : List V), v = .ref a → (SqT K H1 a xs ∨ SqL K H1 a xs) → TyAll Ts xs B1 → ∃ a xs, v = V.ref a ∧ (SqT K H1 a xs ∨ SqL K H1 a xs) ∧ ∀ x dx, H1 x = Option.none → H1 dx = Option.none → dx ≠ x → spStar C c (V.ref x :: xs) (upd (upd H1 dx (.own x)) x (.ins C dx [])) (fun v H2 => v = .non ∧ Q (.ref x) H2) E := fun a xs e hs t => by
      refine ⟨a, xs, e, hs, fun x dx nx nd ne => ⟨[.ref x], xs, rfl, rfl, by rw [t.length]; exact hl, ?_⟩⟩
      refine star_newX s1.bh nx nd ne t hm fun B' H' T ⟨M, un, k⟩ ef ok => ?_
      obtain ⟨o, e1, e2⟩ := un x B' ok
      exact new_own s1 (ef.unf s1.bh nx) nx (ef.bh _ _ e1) rem_self e2 fun p o B' H1 s' g n kk => q p o B' H1 M Γ1 k s' (b1.trans g) n kk
    rcases hq with rfl | rfl
    · obtain ⟨a, xs, rfl, e1, e2⟩ := t1
      exact fin a xs rfl (.inr (SqL.of (s1.bh _ _ e1))) e2
    · obtain ⟨a, xs, rfl, e1, e2⟩ := t1
      exact fin a xs rfl (.inl (seqT_same s1.bh e1)) e2
end
def cMOr (K : PySem.W.Frag) (c : Addr) : List Int × List Int → CsN := fun ⟨xs, ys⟩ => { args := [mendT K c xs, mendT K c ys], pre := xs.length + ys.length < 64, out := fun M => M = mendM K c (srtI (xs ++ ys)) }
section
variable {P : Program} {w : World} {K : PySem.W.Frag} {mg : Str → Option Value} {base : Heap} {a : Ad}
theorem ok_mor (T : Tx K mg a) : FnOk P w K mg base CX0 4 a.a_MendU_orU a.d_MendU_orU ["self", "other"] (spN (cMOr K a.c_Mend)) := by
  have GMend := gr_minit (P := P) (w := w) (base := base) T
  refine T.F_MendU_orU.ok sc_MendU_orU (fun vs H Q E h => ?_) (fun cdv A outer s H vs Q E hr h => ?_)
  · obtain ⟨⟨xs, ys⟩, B, _, t, _⟩ := h
    exact t.length
  · refine ⟨_, (pss_one (ps_ret (LxS.pe_makeS2 T.mk_Mend GMend (hr.mono (by decide)) (by rfl) T.mg_Mend pass0 (StX.pa_star (pe_fld (pv 0) rfl) (StX.pa_star (pe_fld (pv 1) rfl) pa_nil))))), ?_⟩
    refine run_N (fun _ => of_decide_eq_true rfl) h fun ⟨xs, ys⟩ hl => ?_
    have hl : xs.length + ys.length < 64 := hl
    try dsimp only [L2.cxOf, L2.Cx.wish]
    refine WS.retO 0 (WO.makeR0 (K := K) (WA.star (WE.fld (WE.var rfl ⟨_, _, _, rfl, T.cl_Mend, T.na_Mend_rows, rfl, _, .inr rfl, WA.star (WE.fld (WE.var rfl ⟨_, _, _, rfl, T.cl_Mend, T.na_Mend_rows, rfl, _, .inr rfl, WA.nil ?_⟩))⟩))))
    rw [List.append_nil]
    refine ⟨by rw [List.length_append, List.length_map, List.length_map, sizeLine_eq]; omega, xs ++ ys, by show _ = [tyT K ((xs ++ ys).map tyI)]; rw [List.map_append], by show (xs ++ ys).length < 64; rw [List.length_append]; exact hl, ?_⟩
    rintro o rfl
    exact ⟨_, rfl, _, unf_mend, of_decide_eq_true rfl, fun p => ⟨p, 0, _, rfl, rfl, rfl⟩⟩
def cMLen (K : PySem.W.Frag) (c : Addr) : List Int → Cs := fun ns => { args := [mendT K c ns], pre := ns.length < 64, out := fun o => o = .ret (tyI (ns.length : Int)) }
theorem ok_mlen (T : Tx K mg a) : FnOk P w K mg base CX0 1 a.a_MendU_lenU a.d_MendU_lenU ["self"] (spP (cMLen K a.c_Mend)) := by
  refine T.F_MendU_lenU.ok sc_MendU_lenU (fun vs H Q E h => ?_) (fun cdv A outer s H vs Q E hr h => ?_)
  · obtain ⟨ns, B, _, t, _⟩ := h
    exact t.length
  · refine ⟨_, (pss_one (ps_ret (pe_callB call_len_seq (by rfl) T.z_len (by decide +kernel) (pa_cons (pe_fld (pv 0) rfl) pa_nil)))), ?_⟩
    refine run_P (fun _ => of_decide_eq_true rfl) h fun ns hl => ?_
    try dsimp only [L2.cxOf, L2.Cx.wish]
    refine WS.ret (WE.cb (WA.cons (WE.fld (WE.var rfl ⟨_, _, _, rfl, T.cl_Mend, T.na_Mend_rows, rfl, WA.nil (rc_lenT ?_)⟩))))
    rw [List.length_map]
    exact rfl
def cMBool (K : PySem.W.Frag) (c : Addr) : List Int → Cs := fun ns => { args := [mendT K c ns], pre := ns.length < 64, out := fun o => o = .ret (tyB (decide (0 < ns.length))) }
theorem ok_mbool (T : Tx K mg a) : FnOk P w K mg base CX0 1 a.a_MendU_boolU a.d_MendU_boolU ["self"] (spP (cMBool K a.c_Mend)) := by
  refine T.F_MendU_boolU.ok sc_MendU_boolU (fun vs H Q E h => ?_) (fun cdv A outer s H vs Q E hr h => ?_)
  · obtain ⟨ns, B, _, t, _⟩ := h
    exact t.length
  · refine ⟨_, (pss_one (ps_ret (pe_cmpR op_gt (pe_callB call_len_seq (by rfl) T.z_len (by decide +kernel) (pa_cons (pe_fld (pv 0) rfl) pa_nil)) pe_int (nomark _)))), ?_⟩
    refine run_P (fun _ => of_decide_eq_true rfl) h fun ns hl => ?_
    try dsimp only [L2.cxOf, L2.Cx.wish]
    refine WS.ret (WE.op (WE.cb (WA.cons (WE.fld (WE.var rfl ⟨_, _, _, rfl, T.cl_Mend, T.na_Mend_rows, rfl, WA.nil (rc_lenT (WE.c (r2_I0 ?_)))⟩)))))
    rw [List.length_map]
    have e : decide ((0 : Int) < (ns.length : Int)) = decide (0 < ns.length) := by rw [Bool.eq_iff_iff]; simp only [decide_eq_true_eq]; omega
    show Out.ret (tyB (decide ((0 : Int) < (ns.length : Int)))) = .ret (tyB (decide (0 < ns.length)))
    rw [e]
theorem inV_ints (x : Int) (ns : List Int) : inV (.int x) (ns.map V.int) = decide (x ∈ ns) := by
  unfold inV
  rw [Bool.eq_iff_iff, decide_eq_true_eq]
  simp [eqV]
def cMAnd (K : PySem.W.Frag) (c : Addr) : List Int × List Int → CsN := fun ⟨xs, ys⟩ => { args := [mendT K c xs, mendT K c ys], pre := xs.length < 64, out := fun M => M = mendM K c (srtI (xs.filter fun x => decide (x ∈ ys))) }
theorem ok_mand (T : Tx K mg a) : FnOk P w K mg base CX0 4 a.a_MendU_andU a.d_MendU_andU ["self", "other"] (spN (cMAnd K a.c_Mend)) := by
  have GMend := gr_minit (P := P) (w := w) (base := base) T
  refine T.F_MendU_andU.ok sc_MendU_andU (fun vs H Q E h => ?_) (fun cdv A outer s H vs Q E hr h => ?_)
  · obtain ⟨⟨xs, ys⟩, B, _, t, _⟩ := h
    exact t.length
  · refine ⟨_, (pss_cons (ps_setLc (i := 2) (own := [("row", 3)]) (g := gName 3) rfl sc_MendU_andU.nd rfl rfl (sw_true rfl rfl rfl (by decide +kernel)) (pi_tup (pe_fld (pv 0) rfl)) (blkOk_by (own := [("row", 3)]) (N := ["self", "other", "both", "row"]) (sc := defScope s_MendU_andU) (by decide +kernel)) (fun _ _ _ _ _ => (pg_name (i := 3) sc_MendU_andU.nd rfl (Or.inl rfl))) (fun _ _ _ _ _ => (pts_one (pt_cmpR (op_in_seqK (K := K) rfl) (pv 3) (pe_fldK (K := K) rfl (pv 1) rfl) (by rfl)))) (fun _ _ _ _ _ => (pv 3)))
  (pss_one (ps_ret (LxS.pe_makeS1 T.mk_Mend GMend (hr.mono (by decide)) (by rfl) T.mg_Mend pass0 (pv 2))))), ?_⟩
    refine run_N (fun _ => of_decide_eq_true rfl) h fun ⟨xs, ys⟩ hl => ?_
    have hl : xs.length < 64 := hl
    try dsimp only [L2.cxOf, L2.Cx.wish]
    have lf : (xs.filter fun x => decide (x ∈ ys)).length ≤ xs.length := List.length_filter_le _ _
    refine WS.seq (WS.asg (WE.lcFil Int (WI.tup (WE.fld (WE.var rfl ⟨_, _, _, rfl, T.cl_Mend, T.na_Mend_rows, rfl, _, rfl, xs, tyI, tyI, fun x => decide (x ∈ ys), rfl, noOwn_of rfl, by rw [sizeLine_eq]; omega, fun x hx => ?_, WG.name ?_⟩)))))
    · refine WC.name (by simp) (WT.val (WE.op (WE.var rfl (WE.fld (WE.var rfl ⟨_, _, _, rfl, T.cl_Mend, T.na_Mend_rows, rfl, ?_⟩)))))
      rw [ints_map]
      refine r2_inT rfl (by rw [List.all_map]; exact List.all_eq_true.mpr fun _ _ => rfl) ?_
      rw [inV_ints]
      exact ⟨_, rfl, rfl, rfl, fun _ => WE.var rfl ⟨rfl, rfl⟩⟩
    refine WS.retO 0 (WO.makeS0 (WE.var rfl ⟨_, .inl rfl, by rw [List.length_map, sizeLine_eq]; omega, xs.filter fun x => decide (x ∈ ys), rfl, by show (xs.filter fun x => decide (x ∈ ys)).length < 64; omega, ?_⟩))
    rintro o rfl
    exact ⟨_, rfl, _, unf_mend, of_decide_eq_true rfl, fun p => ⟨p, 0, _, rfl, rfl, rfl⟩⟩
end
end K51
set_option Elab.async false
set_option linter.all false
set_option maxRecDepth 100000
set_option maxHeartbeats 8000000
namespace K51
open PySem L2 Lx DL Fm
/-! ### ==, in, str, |= of mends -/
def dI (ns : List Int) : List PyData := ns.map PyData.int
theorem dats_ints {K : PySem.W.Frag} (ns : List Int) : DatAll K 0 (ns.map tyI) (dI ns) := dats_map fun _ _ => dat_i
theorem eqv_ints : ∀ xs ys : List Int, PyData.eqvAll (dI xs) (dI ys) = decide (xs = ys)
  | [], [] => rfl
  | [], _ :: _ => rfl
  | _ :: _, [] => rfl
  | x :: xs, y :: ys => by
    show ((x == y) && PyData.eqvAll (dI xs) (dI ys)) = _
    rw [eqv_ints xs ys, Bool.eq_iff_iff]
    simp
inductive MArg where
  | mend (ns : List Int)
  | oth (T : Ty) (t : Value)
def MArg.ty (K : PySem.W.Frag) (c : Addr) : MArg → Ty
  | .mend ns => mendT K c ns
  | .oth T _ => T
def MArg.ok (K : PySem.W.Frag) (c : Addr) : MArg → Prop
  | .mend _ => True
  | .oth T t => TyIs K T t ∧ PySem.W.kitOne K t (.ref c) = some false
def MArg.eq (xs : List Int) : MArg → Bool
  | .mend ys => decide (xs = ys)
  | .oth _ _ => false
def hasI (ns : List Int) : El → Bool
  | .int n => decide (n ∈ ns)
  | _ => false
def numS (n : Int) : Str := toString n
def mendS (ns : List Int) : Str := if ns = [] then "no rows" else "rows " ++ Txt.join ", " (ns.map numS)
/-- the texts of numbers -/
def Small (ns : List Int) : Prop := ns.length < 64 ∧ ∀ n ∈ ns, n.natAbs < 10 ^ 30
theorem numS_len {n : Int} (h : n.natAbs < 10 ^ 30) : (numS n).length ≤ 31 := by
  have e := PySem.int_text_length_le10 (k := 30) (by decide) h
  show (Str.ofString (toString n)).length ≤ 31
  rw [ofString_length]
  exact e
theorem log_30 {n : Int} (h : n.natAbs < 10 ^ 30) : n.natAbs.log2 < 1920 := by
  by_cases z : n.natAbs = 0
  · rw [z]
    decide
  · exact Nat.lt_trans ((Nat.log2_lt z).mpr (Nat.lt_trans h (by decide : 10 ^ 30 < 2 ^ 101))) (by decide)
theorem sum_le : ∀ {l : List Int}, (∀ n ∈ l, n.natAbs < 10 ^ 30) → ((l.map numS).map (·.length)).sum ≤ 31 * l.length
  | [], _ => by simp
  | n :: r, h => by
    have h1 := numS_len (h n (List.mem_cons_self ..))
    have h2 := sum_le (l := r) fun m hm => h m (List.mem_cons_of_mem _ hm)
    simp only [List.map_cons, List.sum_cons, List.length_cons]
    omega
theorem str_len2 (x y : Str) : (x ++ y).length = x.length + y.length := by
  rw [TL.len_tl, TL.tl_append, List.length_append, ← TL.len_tl, ← TL.len_tl]
theorem joinN_cons {y p q : Str} {r : List Str} : Txt.join y (p :: q :: r) = p ++ y ++ Txt.join y (q :: r) := by
  rw [TL.join_eq, TL.join_eq]
  exact TL.ext_tl (by rw [TL.tl_join, TL.tl_append, TL.tl_append, TL.tl_join, List.append_assoc]; rfl)
theorem joinN_one {y p : Str} : Txt.join y [p] = p := by
  rw [TL.join_eq]
  exact TL.ext_tl (by rw [TL.tl_join]; rfl)
theorem join_le (z : Str) : ∀ l : List Str, (Txt.join z l).length ≤ (l.map (·.length)).sum + l.length * z.length
  | [] => Nat.zero_le _
  | [x] => by rw [joinN_one]; simp
  | x :: y :: r => by
    have ih := join_le z (y :: r)
    rw [joinN_cons, str_len2, str_len2]
    simp only [List.map_cons, List.sum_cons, List.length_cons] at ih ⊢
    rw [Nat.succ_mul]
    omega
theorem join_few {ns : List Int} (h : Small ns) : (Txt.join ", " (ns.map numS)).length ≤ 3000 := by
  have h1 := join_le ", " (ns.map numS)
  have h2 := sum_le h.2
  have h3 := h.1
  rw [List.length_map] at h1
  have e : ((", " : Str)).length = 2 := rfl
  rw [e] at h1
  omega
section
variable {X : Xn} {Γ : List DL.Slot} {κ : Ty → List DL.Slot → Prop}
theorem rc_strI {κ : Ty → Prop} {n : Int} (h : n.natAbs.log2 < 1920) (k : κ (tyS (numS n))) : RC (fun xs H Q => ∃ i : Int, xs = [.int i] ∧ i.natAbs.log2 < 1920 ∧ Q (.str (toString i)) H) [tyI n] κ := fun vs B H Q bh t q => by
  obtain ⟨v, rfl, rfl⟩ := vals_one t
  exact ⟨n, rfl, h, q _ B H _ k (.refl bh) rfl⟩
theorem WE.fstr2 {a : Str} {te : TE} (ha : a.length ≤ sizeLine) (ea : Str.empty ++ a = a) (h : DL.WE X te Γ fun T Γ1 => ∃ z, T = tyS z ∧ z.length ≤ sizeLine ∧ (a ++ z).length ≤ sizeLine ∧ κ (tyS (a ++ z)) Γ1) : DL.WE X (fun σ H Q => tJs [tC (.str a), tFmt te] Str.empty σ H fun out H1 => Q (.str out) H1) Γ κ := fun σ B H s xo Q q => by
  refine ⟨a, rfl, by rw [ea]; exact ha, ?_⟩
  rw [ea]
  refine h σ B H s xo _ fun v B1 H1 T Γ1 k1 s1 b1 t1 => ?_
  obtain ⟨z, rfl, hz, hl, k⟩ := k1
  cases t1
  exact .inl ⟨z, rfl, hz, z, rfl, hl, q _ B1 H1 _ Γ1 k s1 b1 rfl⟩
end
section
variable {P : Program} {w : World} {K : PySem.W.Frag} {mg : Str → Option Value} {base : Heap} {a : Ad}
theorem tyis_mend (T : Tx K mg a) (ns : List Int) : TyIs K (mendT K a.c_Mend ns) (.ref a.c_Mend) := fun v H h => by
  obtain ⟨b, dx, ws, rfl, e, _⟩ := h
  exact .base (.ins e T.cl_Mend T.ci_at T.ci_get T.ci_tk T.nec.mro)
def cMEq (K : PySem.W.Frag) (c : Addr) : List Int × MArg → Cs := fun ⟨xs, y⟩ => { args := [mendT K c xs, y.ty K c], pre := y.ok K c, out := fun o => o = .ret (tyB (y.eq xs)) }
theorem ok_meq (T : Tx K mg a) : FnOk P w K mg base CX0 1 a.a_MendU_eqU a.d_MendU_eqU ["self", "other"] (spP (cMEq K a.c_Mend)) := by
  refine T.F_MendU_eqU.ok sc_MendU_eqU (fun vs H Q E h => ?_) (fun cdv A outer s H vs Q E hr h => ?_)
  · obtain ⟨⟨xs, y⟩, B, _, t, _⟩ := h
    exact t.length
  · refine ⟨_, (pss_one (ps_ret (pe_and (pe_callB call_isi (by rfl) T.z_isinstance (by decide +kernel) (pa_cons (pv 1) (pa_cons (pe_glob (v := .ref a.c_Mend) (by rfl) T.mg_Mend rfl) pa_nil))) (pe_one (pe_cmpR (op_eqD hr.units) (pe_fld (pv 0) rfl) (pe_fld (pv 1) rfl) (nomark _)))))), ?_⟩
    refine run_P (fun _ => of_decide_eq_true rfl) h fun ⟨xs, y⟩ hy => ?_
    have hy : y.ok K a.c_Mend := hy
    try dsimp only [L2.cxOf, L2.Cx.wish]
    walk_at "go"
    cases y with
    | oth U t =>
      refine rc_isi false rfl (.own _) hy.1 hy.2 ?_
      walk_at "go"
      exact rfl
    | mend ys =>
      refine rc_isi true rfl (.own _) (tyis_mend T ys) T.ki_B ?_
      walk_at "go"
      refine ⟨_, _, _, rfl, T.cl_Mend, T.na_Mend_rows, rfl, ?_⟩
      walk_at "go"
      refine ⟨_, _, _, rfl, T.cl_Mend, T.na_Mend_rows, rfl, ?_⟩
      refine r2_eqA (dat_t (n := 0) (dats_ints xs)) (dat_t (n := 0) (dats_ints ys)) ?_
      exact congrArg Out.ret (congrArg tyB (eqv_ints xs ys))
def cMHas (K : PySem.W.Frag) (c : Addr) : List Int × El → Cs := fun ⟨ns, e⟩ => { args := [mendT K c ns, e.ty], pre := e.ok K, out := fun o => o = .ret (tyB (hasI ns e)) }
theorem ok_mhas (T : Tx K mg a) : FnOk P w K mg base CX0 2 a.a_MendU_containsU a.d_MendU_containsU ["self", "thing"] (spP (cMHas K a.c_Mend)) := by
  have G_is_integer := ok_int (P := P) (w := w) (base := base) T
  refine T.F_MendU_containsU.ok sc_MendU_containsU (fun vs H Q E h => ?_) (fun cdv A outer s H vs Q E hr h => ?_)
  · obtain ⟨⟨ns, e⟩, B, _, t, _⟩ := h
    exact t.length
  · refine ⟨_, (pss_one (ps_ret (pe_and (pe_call G_is_integer (hr.mono (by decide)) (by rfl) T.mg_is_integer T.kp_is_integer T.b_is_integer .nil pass0 (pa_cons (pv 1) pa_nil)) (pe_one (pe_cmpR op_in_seq (pv 1) (pe_fld (pv 0) rfl) (by rfl)))))), ?_⟩
    refine run_P (fun _ => of_decide_eq_true rfl) h fun ⟨ns, e⟩ he => ?_
    have he : e.ok K := he
    try dsimp only [L2.cxOf, L2.Cx.wish]
    walk_at "go"
    refine ⟨e, rfl, he, fun o ho => ⟨_, ho, ?_⟩⟩
    cases e with
    | int n =>
      walk_at "go"
      refine ⟨_, _, _, rfl, T.cl_Mend, T.na_Mend_rows, rfl, ?_⟩
      rw [ints_map]
      refine r2_inT rfl (by rw [List.all_map]; exact List.all_eq_true.mpr fun _ _ => rfl) ?_
      rw [inV_ints]
      exact rfl
    | bool b =>
      walk_at "go"
      exact rfl
    | oth U t =>
      walk_at "go"
      exact rfl
def cMStr (K : PySem.W.Frag) (c : Addr) : List Int → Cs := fun ns => { args := [mendT K c ns], pre := Small ns, out := fun o => o = .ret (tyS (mendS ns)) }
theorem ok_mstr (T : Tx K mg a) : FnOk P w K mg base CX0 1 a.a_MendU_strU a.d_MendU_strU ["self"] (spP (cMStr K a.c_Mend)) := by
  refine T.F_MendU_strU.ok sc_MendU_strU (fun vs H Q E h => ?_) (fun cdv A outer s H vs Q E hr h => ?_)
  · obtain ⟨ns, B, _, t, _⟩ := h
    exact t.length
  · refine ⟨_, (pss_cons (ps_if (pt_cmpR (op_eqD hr.units) (pe_fld (pv 0) rfl) (pe_tup pa_nil) (nomark _))
  (pss_one (ps_ret pe_str))
  pss_nil)
  (pss_one (ps_ret (pe_joined (.cons pe_str (.cons (pe_fmt (pe_join pe_str (pe_lc (own := [("row", 1)]) (g := gName 1) rfl sc_MendU_strU.nd (pi_tup (pe_fld (pv 0) rfl)) (blkOk_by (own := [("row", 1)]) (N := ["self", "row"]) (sc := defScope s_MendU_strU) (by decide +kernel)) (fun _ _ _ _ _ => (pg_name (i := 1) sc_MendU_strU.nd rfl (Or.inl rfl))) (fun _ _ _ _ _ => pts_nil) (fun _ _ _ _ _ => (pe_callTy call_str_int (by rfl) T.z_str (by decide +kernel) (pa_cons (pv 1) pa_nil)))))) .nil)))))), ?_⟩
    refine run_P (fun _ => of_decide_eq_true rfl) h fun ns hn => ?_
    have hn : Small ns := hn
    try dsimp only [L2.cxOf, L2.Cx.wish]
    walk_at "go"
    refine ⟨_, _, _, rfl, T.cl_Mend, T.na_Mend_rows, rfl, ?_⟩
    walk_at "go"
    refine r2_eqA (dat_t (n := 0) (dats_ints ns)) (dat_t (n := 0) (dats_ints [])) ?_
    have e0 : PyData.eqv (.tuple (dI ns)) (.tuple (dI [])) = decide (ns = []) := eqv_ints ns []
    rw [e0]
    cases hb : decide (ns = []) with
    | true =>
      have hn0 : ns = [] := of_decide_eq_true hb
      walk_at "go"
      show Out.ret (tyS "no rows") = .ret (tyS (mendS ns))
      unfold mendS
      rw [if_pos hn0]
    | false =>
      have hn0 : ns ≠ [] := of_decide_eq_false hb
      walk_at "go"
      refine WE.fstr2 (by rw [sizeLine_eq]; decide) rfl ?_
      walk_at "go"
      refine WE.lcMap Int (WI.tup (WE.fld (WE.var rfl ⟨_, _, _, rfl, T.cl_Mend, T.na_Mend_rows, rfl, _, rfl, ns, tyI, fun n => tyS (numS n), rfl, noOwn_of rfl, by have := hn.1; rw [sizeLine_eq]; omega, fun n hm => ?_, ?_⟩)))
      · refine WC.name (by simp) (WE.cb (WA.cons (WE.var rfl (WA.nil (rc_strI (log_30 (hn.2 n hm)) ⟨rfl, rfl⟩)))))
      show DL.RC _ [DL.tyV (V.str (", ")), tyL (ns.map fun n => tyS (numS n))] _
      have em : (ns.map fun n => tyS (numS n)) = (ns.map numS).map tyS := by rw [List.map_map]; rfl
      rw [em]
      have f1 := join_few hn
      have f2 := sum_le hn.2
      have f3 := hn.1
      refine rm_joinL ?_ ⟨_, rfl, by rw [sizeLine_eq]; omega, ?_, ?_⟩
      · rw [List.length_map]
        have e2 : ((", " : Str)).length = 2 := rfl
        rw [e2]
        omega
      · rw [str_len2, sizeLine_eq]
        have e2 : (("rows " : Str)).length = 5 := rfl
        omega
      · show Out.ret (tyS ("rows " ++ Txt.join ", " (ns.map numS))) = .ret (tyS (mendS ns))
        unfold mendS
        rw [if_neg hn0]
def cMIor (K : PySem.W.Frag) (c : Addr) : List Int × List Int → CsM := fun ⟨xs, ys⟩ => { me := mendM K c xs, args := [mendT K c ys], pre := xs.length + ys.length < 64, out := fun o => ∃ p, o = .ret (tyV (.ref p)) (mAt p (mendM K c (srtI (xs ++ ys)))) }
theorem ok_mior (T : Tx K mg a) : FnOk P w K mg base CX0 1 a.a_MendU_iorU a.d_MendU_iorU ["self", "other"] (spMe (cMIor K a.c_Mend)) := by
  refine T.F_MendU_iorU.ok sc_MendU_iorU (fun vs H Q E h => ?_) (fun cdv A outer s H vs Q E hr h => ?_)
  · obtain ⟨⟨xs, ys⟩, B, b, us, o, rfl, _, _, _, _, t, _⟩ := h
    show us.length + 1 = 2
    rw [t.length]
    rfl
  · refine ⟨_, (pss_cons (ps_fld (pv 0) (pe_callTy call_tuple_of (by rfl) T.z_tuple (by decide +kernel) (pa_cons (pe_callB (cr_sortedSet rfl) (by rfl) T.z_sorted (by decide +kernel) (pa_cons (pe_callTy (LxS.call_setI rfl) (by rfl) T.z_set (by decide +kernel) (pa_cons (pe_op op_catA (pe_fld (pv 0) rfl) (pe_fld (pv 1) rfl)) pa_nil)) pa_nil)) pa_nil)) rfl)
  (pss_one (ps_ret (pv 0)))), ?_⟩
    refine run_Me (fun _ => of_decide_eq_true rfl) h fun ⟨xs, ys⟩ hl => ?_
    have hl : xs.length + ys.length < 64 := hl
    try dsimp only [L2.cxOf, L2.Cx.wish]
    have hl2 : (xs ++ ys).length < 64 := by rw [List.length_append]; exact hl
    refine WS.seq (WS.setFldM T.cl_Mend T.na_Mend_rows (WE.cb (WA.cons (WE.cb (WA.cons (WE.cb (WA.cons (WE.op (WE.fldM rfl T.cl_Mend T.na_Mend_rows rfl (WE.fld (WE.var rfl ⟨_, _, _, rfl, T.cl_Mend, T.na_Mend_rows, rfl, r2_catA (by rw [List.length_map, List.length_map, sizeLine_eq]; omega) ?_⟩)))))))))))
    rw [← List.map_append]
    refine WA.nil (rc_setT hl2 (WA.nil (rc_sortedSI hl2 fun zs h1 h2 => WA.nil (rc_tupL ⟨_, rfl, Nat.le_of_ble_eq_true rfl, ?_⟩))))
    obtain rfl := srtI_of h1 h2
    refine WS.nameO (i := 0) (S := .me _) rfl (.inr rfl) fun p => WS.ret (WE.varAt (S := .me _) rfl (.inr rfl) ⟨_, rfl, p, rfl⟩)
end
end K51
set_option Elab.async false
set_option linter.all false
set_option maxRecDepth 100000
set_option maxHeartbeats 8000000
namespace K51
open PySem L2 Lx DL Fm
def cMade (K : PySem.W.Frag) (c : Addr) : List Int → CsN := fun ns => { args := [tyL (ns.map tyI)], pre := ns.length ≤ 6, out := fun M => M = mendM K c (srtI ns) }
section
variable {P : Program} {w : World} {K : PySem.W.Frag} {mg : Str → Option Value} {base : Heap} {a : Ad}
theorem ok_made (T : Tx K mg a) : FnOk P w K mg base CX0 4 a.a__law_made a.d__law_made ["some"] (spN (cMade K a.c_Mend)) := by
  have GMend := gr_minit (P := P) (w := w) (base := base) T
  refine T.F__law_made.ok sc__law_made (fun vs H Q E h => ?_) (fun cdv A outer s H vs Q E hr h => ?_)
  · obtain ⟨ns, B, _, t, _⟩ := h
    exact t.length
  · refine ⟨_, (pss_cons (ps_if (pt_cmpR op_eq (pe_callB call_len_seq (by rfl) T.z_len (by decide +kernel) (pa_cons (pv 0) pa_nil)) pe_int (nomark _))
  (pss_one (ps_ret (LxS.pe_makeR00 T.mk_Mend GMend (hr.mono (by decide)) (by rfl) T.mg_Mend pass0)))
  pss_nil)
  (pss_cons (ps_if (pt_cmpR op_eq (pe_callB call_len_seq (by rfl) T.z_len (by decide +kernel) (pa_cons (pv 0) pa_nil)) pe_int (nomark _))
  (pss_one (ps_ret (StX.pe_makeR T.mk_Mend GMend (hr.mono (by decide)) (by rfl) T.mg_Mend pass0 (pa_cons (pe_ix ix_list (pv 0) pe_int (fun _ _ => rfl)) pa_nil))))
  pss_nil)
  (pss_cons (ps_if (pt_cmpR op_eq (pe_callB call_len_seq (by rfl) T.z_len (by decide +kernel) (pa_cons (pv 0) pa_nil)) pe_int (nomark _))
  (pss_one (ps_ret (StX.pe_makeR T.mk_Mend GMend (hr.mono (by decide)) (by rfl) T.mg_Mend pass0 (pa_cons (pe_ix ix_list (pv 0) pe_int (fun _ _ => rfl)) (pa_cons (pe_ix ix_list (pv 0) pe_int (fun _ _ => rfl)) pa_nil)))))
  pss_nil)
  (pss_cons (ps_if (pt_cmpR op_eq (pe_callB call_len_seq (by rfl) T.z_len (by decide +kernel) (pa_cons (pv 0) pa_nil)) pe_int (nomark _))
  (pss_one (ps_ret (StX.pe_makeR T.mk_Mend GMend (hr.mono (by decide)) (by rfl) T.mg_Mend pass0 (pa_cons (pe_ix ix_list (pv 0) pe_int (fun _ _ => rfl)) (pa_cons (pe_ix ix_list (pv 0) pe_int (fun _ _ => rfl)) (pa_cons (pe_ix ix_list (pv 0) pe_int (fun _ _ => rfl)) pa_nil))))))
  pss_nil)
  (pss_one (ps_ret (StX.pe_makeR T.mk_Mend GMend (hr.mono (by decide)) (by rfl) T.mg_Mend pass0 (pa_cons (pe_ix ix_list (pv 0) pe_int (fun _ _ => rfl)) (pa_cons (pe_ix ix_list (pv 0) pe_int (fun _ _ => rfl)) (pa_cons (pe_ix ix_list (pv 0) pe_int (fun _ _ => rfl)) (pa_cons (pe_ix ix_list (pv 0) pe_int (fun _ _ => rfl)) (pa_cons (pe_ix ix_list (pv 0) (pe_un un_neg pe_int) (fun _ _ => rfl)) (pa_cons (pe_ix ix_list (pv 0) (pe_un un_neg pe_int) (fun _ _ => rfl)) pa_nil))))))))))))), ?_⟩
    refine run_N (fun _ => of_decide_eq_true rfl) h fun ns hl => ?_
    have hl : ns.length ≤ 6 := hl
    try dsimp only [L2.cxOf, L2.Cx.wish]
    have mk : ∀ {Γ : List DL.Slot} (ms : List Int), 0 < Γ.length → ms.length < 64 → (∀ k, k ∈ ms ↔ k ∈ ns) → Meets (cMInit K a.c_Mend) [tyT K (ms.map tyI)] fun o => ∃ T, o = .ret T ∧ ∃ M, Unf T M ∧ 0 < Γ.length ∧ ∀ p, ∃ (p' : Addr) (g : Nat) (M' : MTy), tyV (V.ref p) = tyV (V.ref p') ∧ (Γ.set 0 (DL.Slot.own (mAt p M)))[g]? = some (DL.Slot.own (mAt p' M')) ∧ (cMade K a.c_Mend ns).out M' := fun {Γ} ms h0 h1 h2 => ⟨ms, rfl, h1, fun o ho => ⟨_, ho, _, unf_mend, h0, fun p => ⟨p, 0, _, rfl, List.getElem?_set_self h0, by
      show mendM K a.c_Mend (srtI ms) = mendM K a.c_Mend (srtI ns)
      rw [srtI_of (pw_srtI ms) fun k => mem_srtI.trans (h2 k)]⟩⟩⟩
    have test : ∀ {X : Xn} {κs : En} {t u : TS} (j : Int), ((ns.length : Int) = j → DL.WS X t [.is (tyL (ns.map tyI))] { κs with nx := fun Γ1 => DL.WS X u Γ1 κs }) → ((ns.length : Int) ≠ j → DL.WS X u [.is (tyL (ns.map tyI))] κs) →
        DL.WS X (tSeq (tIfS (tTest (tOp rEq (tCB (rLenQ K) (tCons (tVar 0) tNil)) (tC (V.int j)))) t tNext) u) [.is (tyL (ns.map tyI))] κs := fun {X κs t u} j h1 h2 => by
      refine WS.seq (WS.ifS (WT.val (WE.op (WE.cb (WA.cons (WE.var rfl (WA.nil (rc_lenL (WE.c (r2_eq rfl ⟨decide ((ns.length : Int) = j), ?_, fun h => h1 (of_decide_eq_true h), fun h => WS.next (h2 (of_decide_eq_false h))⟩))))))))))
      rw [List.length_map]
      refine congrArg tyB ?_
      rw [Bool.eq_iff_iff]
      simp
    have ix : ∀ {X : Xn} {κ : Ty → List DL.Slot → Prop} (j : Nat) (n : Int), ns[j]? = some n → κ (tyI n) [.is (tyL (ns.map tyI))] → DL.WE X (tOp (rIxL K) (tVar 0) (tC (V.int (j : Int)))) [.is (tyL (ns.map tyI))] κ := fun {X κ} j n e k =>
      WE.op (WE.var rfl (WE.c (r2_ixL (tyI n) (atI_nat (j := j) (by rw [List.getElem?_map, e]; rfl)) k)))
    refine test 0 (fun e => ?_) fun n0 => test 1 (fun e => ?_) fun n1 => test 2 (fun e => ?_) fun n2 => test 3 (fun e => ?_) fun n3 => ?_
    · refine WS.retO 0 (WO.makeR0 (K := K) (WA.nil ⟨Nat.zero_le _, mk (Γ := [.is (tyL (List.map tyI _))]) [] Nat.zero_lt_one (by decide) fun k => ?_⟩))
      have : ns = [] := List.length_eq_zero_iff.mp (by omega)
      rw [this]
    · obtain ⟨x, rfl⟩ : ∃ x, ns = [x] := by
        match ns, e with
        | [x], _ => exact ⟨x, rfl⟩
      exact WS.retO 0 (WO.makeR0 (K := K) (WA.cons (ix 0 x rfl (WA.nil ⟨Nat.le_of_ble_eq_true rfl, mk (Γ := [.is (tyL (List.map tyI _))]) [x] Nat.zero_lt_one (Nat.le_of_ble_eq_true rfl) fun k => Iff.rfl⟩))))
    · obtain ⟨x, y, rfl⟩ : ∃ x y, ns = [x, y] := by
        match ns, e with
        | [x, y], _ => exact ⟨x, y, rfl⟩
      exact WS.retO 0 (WO.makeR0 (K := K) (WA.cons (ix 0 x rfl (WA.cons (ix 1 y rfl (WA.nil ⟨Nat.le_of_ble_eq_true rfl, mk (Γ := [.is (tyL (List.map tyI _))]) [x, y] Nat.zero_lt_one (Nat.le_of_ble_eq_true rfl) fun k => Iff.rfl⟩))))))
    · obtain ⟨x, y, z, rfl⟩ : ∃ x y z, ns = [x, y, z] := by
        match ns, e with
        | [x, y, z], _ => exact ⟨x, y, z, rfl⟩
      exact WS.retO 0 (WO.makeR0 (K := K) (WA.cons (ix 0 x rfl (WA.cons (ix 1 y rfl (WA.cons (ix 2 z rfl (WA.nil ⟨Nat.le_of_ble_eq_true rfl, mk (Γ := [.is (tyL (List.map tyI _))]) [x, y, z] Nat.zero_lt_one (Nat.le_of_ble_eq_true rfl) fun k => Iff.rfl⟩))))))))
    have neg : ∀ {X : Xn} {κ : Ty → List DL.Slot → Prop} (j n : Int), atI (ns.map tyI) (-j) = some (tyI n) → κ (tyI n) [.is (tyL (ns.map tyI))] → DL.WE X (tOp (rIxL K) (tVar 0) (tUn (rU fun i => V.int (-i)) (tC (V.int j)))) [.is (tyL (ns.map tyI))] κ := fun {X κ} j n e k =>
      WE.op (WE.var rfl (WE.unI (WE.c ⟨j, rfl, r2_ixL (tyI n) e k⟩)))
    have six : ∀ x y z v p q : Int, ns[0]? = some x → ns[1]? = some y → ns[2]? = some z → ns[3]? = some v → atI (ns.map tyI) (-2) = some (tyI p) → atI (ns.map tyI) (-1) = some (tyI q) → (∀ k, k ∈ ([x, y, z, v, p, q] : List Int) ↔ k ∈ ns) →
        DL.WO ⟨fun _ => E, fun _ _ _ _ => False⟩ (StX.tMakeR a.c_Mend (spStar a.c_Mend (cMInit K a.c_Mend)) E0 (tCons (tOp (rIxL K) (tVar 0) (tC (V.int 0))) (tCons (tOp (rIxL K) (tVar 0) (tC (V.int 1))) (tCons (tOp (rIxL K) (tVar 0) (tC (V.int 2))) (tCons (tOp (rIxL K) (tVar 0) (tC (V.int 3))) (tCons (tOp (rIxL K) (tVar 0) (tUn (rU fun i => V.int (-i)) (tC (V.int 2)))) (tCons (tOp (rIxL K) (tVar 0) (tUn (rU fun i => V.int (-i)) (tC (V.int 1)))) tNil))))))) [.is (tyL (ns.map tyI))] fun M Γ1 => 0 < Γ1.length ∧ ∀ p, ∃ (p' : Addr) (g : Nat) (M' : MTy), tyV (V.ref p) = tyV (V.ref p') ∧ (Γ1.set 0 (DL.Slot.own (mAt p M)))[g]? = some (DL.Slot.own (mAt p' M')) ∧ (cMade K a.c_Mend ns).out M' := fun x y z v p q e0 e1 e2 e3 e4 e5 hm =>
      WO.makeR0 (K := K) (WA.cons (ix 0 x e0 (WA.cons (ix 1 y e1 (WA.cons (ix 2 z e2 (WA.cons (ix 3 v e3 (WA.cons (neg 2 p e4 (WA.cons (neg 1 q e5 (WA.nil ⟨Nat.le_of_ble_eq_true rfl, mk (Γ := [.is (tyL (List.map tyI _))]) [x, y, z, v, p, q] Nat.zero_lt_one (Nat.le_of_ble_eq_true rfl) hm⟩)))))))))))))
    refine WS.retO 0 ?_
    match ns, hl, n0, n1, n2, n3, six with
    | [x, y, z, v], _, _, _, _, _, six => exact six x y z v z v rfl rfl rfl rfl rfl rfl fun k => by simp only [List.mem_cons, List.not_mem_nil, or_false]; omega
    | [x, y, z, v, p], _, _, _, _, _, six => exact six x y z v v p rfl rfl rfl rfl rfl rfl fun k => by simp only [List.mem_cons, List.not_mem_nil, or_false]; omega
    | [x, y, z, v, p, q], _, _, _, _, _, six => exact six x y z v p q rfl rfl rfl rfl rfl rfl fun k => Iff.rfl
end
end K51
set_option Elab.async false
set_option linter.all false
set_option maxRecDepth 100000
set_option maxHeartbeats 8000000
namespace K51
open PySem L2 Lx DL Fm
/-! ### what the law asks of one mend -/
def In21 (ns : List Int) : Prop := ns.length < 64 ∧ ∀ n ∈ ns, 0 ≤ n ∧ n < 10 ^ 21
theorem In21.small {ns : List Int} (h : In21 ns) : Small ns := ⟨h.1, fun n hn => by
  have := h.2 n hn
  omega⟩
section
variable {P : Program} {w : World} {K : PySem.W.Frag} {mg : Str → Option Value} {base : Heap} {a : Ad}
def cIs (K : PySem.W.Frag) (c : Addr) : List Int → Cs := fun ns => { args := [mendT K c ns, tyL (ns.map tyI)], pre := In21 ns, out := fun o => o = .ret (tyB true) }
theorem ok_is (T : Tx K mg a) : FnOk P w K mg base CX0 5 a.a__law_is a.d__law_is ["mend", "due"] (spP (cIs K a.c_Mend)) := by
  have GRmlen : FnR P w K mg base CX0 1 a.a_MendU_lenU (spP (cMLen K a.c_Mend)) := by
    have h := (ok_mlen (P := P) (w := w) (base := base) T).raw T.b_MendU_lenU .nil
    simpa only [List.append_nil] using h
  have GRmbool : FnR P w K mg base CX0 1 a.a_MendU_boolU (spP (cMBool K a.c_Mend)) := by
    have h := (ok_mbool (P := P) (w := w) (base := base) T).raw T.b_MendU_boolU .nil
    simpa only [List.append_nil] using h
  have GRmstr : FnR P w K mg base CX0 1 a.a_MendU_strU (spP (cMStr K a.c_Mend)) := by
    have h := (ok_mstr (P := P) (w := w) (base := base) T).raw T.b_MendU_strU .nil
    simpa only [List.append_nil] using h
  have GRmhas : FnR P w K mg base CX0 2 a.a_MendU_containsU (spP (cMHas K a.c_Mend)) := by
    have h := (ok_mhas (P := P) (w := w) (base := base) T).raw T.b_MendU_containsU .nil
    simpa only [List.append_nil] using h
  refine T.F__law_is.ok sc__law_is (fun vs H Q E h => ?_) (fun cdv A outer s H vs Q E hr h => ?_)
  · obtain ⟨ns, B, _, t, _⟩ := h
    exact t.length
  · refine ⟨_, (pss_cons (ps_if (PW.pt (pw_or (pt_not (pt_val (pe_callB call_isi (by rfl) T.z_isinstance (by decide +kernel) (pa_cons (pe_fld (pv 0) rfl) (pa_cons (pe_bltn (v := .ty "tuple") (u := .type "tuple") (by rfl) T.z_tuple (by decide +kernel) rfl) pa_nil))))) (pw_or (pt_cmpR (op_neD hr.units) (pe_callTy call_list_of (by rfl) T.z_list (by decide +kernel) (pa_cons (pe_fld (pv 0) rfl) pa_nil)) (pv 1) (nomark _)) (pw_or1 (pt_cmpR op_ne (pe_callB (call_lenO ⟨T.at_MendU_lenU, T.fn_MendU_lenU⟩ GRmlen (hr.mono (by decide)) pass0) (by rfl) T.z_len (by decide +kernel) (pa_cons (pv 0) pa_nil)) (pe_callB call_len_seq (by rfl) T.z_len (by decide +kernel) (pa_cons (pv 1) pa_nil)) (nomark _))))))
  (pss_one (ps_ret pe_bl))
  pss_nil)
  (pss_cons (ps_if (PW.pt (pw_or (pt_cmpR (op_neD hr.units) (pe_lc (own := [("row", 2)]) (g := gName 2) rfl sc__law_is.nd (pi_tup (pe_fld (pv 0) rfl)) (blkOk_by (own := [("row", 2)]) (N := ["mend", "due", "row"]) (sc := defScope s__law_is) (by decide +kernel)) (fun _ _ _ _ _ => (pg_name (i := 2) sc__law_is.nd rfl (Or.inl rfl))) (fun _ _ _ _ _ => (pts_one (pt_val (pe_callB (call_isiK (K := K) rfl) (by rfl) T.z_isinstance (by decide +kernel) (pa_cons (pv 2) (pa_cons (pe_bltn (v := .ty "bool") (u := .type "bool") (by rfl) T.z_bool (by decide +kernel) rfl) pa_nil)))))) (fun _ _ _ _ _ => (pv 2))) (pe_lst pa_nil) (nomark _)) (pw_or1 (pt_cmpR op_ne (pe_callTy (call_boolO ⟨T.at_MendU_boolU, T.fn_MendU_boolU⟩ GRmbool (hr.mono (by decide)) pass0) (by rfl) T.z_bool (by decide +kernel) (pa_cons (pv 0) pa_nil)) (pe_cmpR (op_neD hr.units) (pv 1) (pe_lst pa_nil) (nomark _)) (nomark _)))))
  (pss_one (ps_ret pe_bl))
  pss_nil)
  (pss_cons (ps_if (pt_cmpR op_ne (pe_callTy (call_strO ⟨T.at_MendU_strU, T.fn_MendU_strU⟩ GRmstr (hr.mono (by decide)) pass0) (by rfl) T.z_str (by decide +kernel) (pa_cons (pv 0) pa_nil)) (pe_ifExp (pt_cmpR (op_neD hr.units) (pv 1) (pe_lst pa_nil) (nomark _)) (pe_op op_add_str pe_str (pe_join pe_str (pe_lc (own := [("row", 2)]) (g := gName 2) rfl sc__law_is.nd (pi_list (pv 1)) (blkOk_by (own := [("row", 2)]) (N := ["mend", "due", "row"]) (sc := defScope s__law_is) (by decide +kernel)) (fun _ _ _ _ _ => (pg_name (i := 2) sc__law_is.nd rfl (Or.inl rfl))) (fun _ _ _ _ _ => pts_nil) (fun _ _ _ _ _ => (pe_callTy call_str_int (by rfl) T.z_str (by decide +kernel) (pa_cons (pv 2) pa_nil)))))) pe_str) (nomark _))
  (pss_one (ps_ret pe_bl))
  pss_nil)
  (pss_cons (ps_for PassesOwn.never rfl (pi_list (pv 1)) (pg_name (i := 2) sc__law_is.nd rfl (Or.inl rfl))
  (pss_one (ps_if (PW.pt (pw_or (pt_cmpR (op_notInO ⟨T.at_MendU_containsU, T.fn_MendU_containsU⟩ GRmhas (hr.mono (by decide)) pass0) (pv 2) (pv 0) (by rfl)) (pw_or (pt_cmpR (op_inO ⟨T.at_MendU_containsU, T.fn_MendU_containsU⟩ GRmhas (hr.mono (by decide)) pass0) (pe_op op_add (pv 2) (pe_op op_pow pe_int pe_int)) (pv 0) (by rfl)) (pw_or (pt_cmpR (op_inO ⟨T.at_MendU_containsU, T.fn_MendU_containsU⟩ GRmhas (hr.mono (by decide)) pass0) (pe_callTy call_str_int (by rfl) T.z_str (by decide +kernel) (pa_cons (pv 2) pa_nil)) (pv 0) (by rfl)) (pw_or (pt_cmpR (op_inO ⟨T.at_MendU_containsU, T.fn_MendU_containsU⟩ GRmhas (hr.mono (by decide)) pass0) (pe_tup (pa_cons (pv 2) pa_nil)) (pv 0) (by rfl)) (pw_or1 (pt_cmpR (op_inO ⟨T.at_MendU_containsU, T.fn_MendU_containsU⟩ GRmhas (hr.mono (by decide)) pass0) (pe_lst (pa_cons (pv 2) pa_nil)) (pv 0) (by rfl))))))))
  (pss_one (ps_ret pe_bl))
  pss_nil)))
  (pss_one (ps_ret (pe_and (pe_cmpR (op_notInO ⟨T.at_MendU_containsU, T.fn_MendU_containsU⟩ GRmhas (hr.mono (by decide)) pass0) pe_bl (pv 0) (by rfl)) (pe_and (pe_cmpR (op_notInO ⟨T.at_MendU_containsU, T.fn_MendU_containsU⟩ GRmhas (hr.mono (by decide)) pass0) pe_bl (pv 0) (by rfl)) (pe_and (pe_cmpR (op_notInO ⟨T.at_MendU_containsU, T.fn_MendU_containsU⟩ GRmhas (hr.mono (by decide)) pass0) pe_non (pv 0) (by rfl)) (pe_one (pe_cmpR (op_notInO ⟨T.at_MendU_containsU, T.fn_MendU_containsU⟩ GRmhas (hr.mono (by decide)) pass0) (pe_un un_neg pe_int) (pv 0) (by rfl)))))))))))), ?_⟩
    refine run_P (fun _ => of_decide_eq_true rfl) h fun ns hn => ?_
    have hn : In21 ns := hn
    have h63 := hn.1
    try dsimp only [L2.cxOf, L2.Cx.wish]
    walk_at "go"
    refine ⟨_, _, _, rfl, T.cl_Mend, T.na_Mend_rows, rfl, ?_⟩
    walk_at "go"
    refine rc_isi true rfl (.ty "tuple") (tyis_tup _) rfl ?_
    walk_at "go"
    refine ⟨_, _, _, rfl, T.cl_Mend, T.na_Mend_rows, rfl, ?_⟩
    walk_at "go"
    refine r2_neSelf (dat_l (n := 0) (dats_ints ns)) (dat_l (n := 0) (dats_ints ns)) ?_
    walk_at "go"
    refine rc_lenO ⟨ns, rfl, h63, fun o ho => ⟨_, ho, _, rfl, by omega, by omega, ?_⟩⟩
    walk_at "go"
    refine no_of (by rw [List.length_map]; simp) (WS.next ?_)
    walk_at "go"
    refine WE.lcFil Int (WI.tup (WE.fld (WE.var rfl ⟨_, _, _, rfl, T.cl_Mend, T.na_Mend_rows, rfl, _, rfl, ns, tyI, tyI, fun _ => false, rfl, noOwn_of rfl, by rw [sizeLine_eq]; omega, fun n hm => ?_, ?_⟩)))
    · refine WC.name (by simp) (WT.valB (WE.cb (WA.cons (WE.var rfl (WA.cons (WE.c (WA.nil (rc_isi false rfl (.ty "bool") (tyis_int n) rfl ⟨_, rfl, rfl, rfl, nofun⟩))))))))
    rw [List.filter_eq_nil_iff.mpr (fun _ _ => Bool.false_ne_true)]
    walk_at "go"
    refine r2_neSelf (dat_l (n := 0) (dats_ints [])) (dat_l (n := 0) (dats_ints [])) ?_
    walk_at "go"
    refine rc_boolO ⟨ns, rfl, h63, fun o ho => ⟨_, ho, _, rfl, ?_⟩⟩
    walk_at "go"
    refine r2_neA (dat_l (n := 0) (dats_ints ns)) (dat_l (n := 0) (dats_ints [])) ?_
    have e0 : PyData.eqv (.list (dI ns)) (.list (dI [])) = decide (ns = []) := eqv_ints ns []
    rw [e0]
    walk_at "go"
    refine no_of ?_ (WS.next ?_)
    · show (!decide (V.bl (decide (0 < ns.length)) = V.bl (!decide (ns = [])))) = false
      have : decide (0 < ns.length) = !decide (ns = []) := by cases ns <;> simp
      rw [this]
      simp
    walk_at "go"
    refine rc_strO ⟨ns, rfl, hn.small, fun o ho => ⟨_, ho, _, rfl, ?_⟩⟩
    refine WE.ifGood (fun U => U = tyS (mendS ns)) ?_ fun U hU => ?_
    · walk_at "go"
      refine r2_neA (dat_l (n := 0) (dats_ints ns)) (dat_l (n := 0) (dats_ints [])) ?_
      rw [e0]
      refine ⟨_, rfl, fun hb => ?_, fun hb => WE.c ⟨?_, rfl⟩⟩
      · have hn0 : ns ≠ [] := fun z => by simp [z] at hb
        walk_at "go"
        refine WE.lcMap Int (WI.list (WE.var rfl ⟨_, rfl, ns, tyI, fun n => tyS (numS n), rfl, noOwn_of rfl, by rw [sizeLine_eq]; omega, fun n hm => ?_, ?_⟩))
        · refine WC.name (by simp) (WE.cb (WA.cons (WE.var rfl (WA.nil (rc_strI (log_30 (hn.small.2 n hm)) ⟨rfl, rfl⟩)))))
        show DL.RC _ [DL.tyV (V.str (", ")), tyL (ns.map fun n => tyS (numS n))] _
        have em : (ns.map fun n => tyS (numS n)) = (ns.map numS).map tyS := by rw [List.map_map]; rfl
        rw [em]
        have f1 := join_few hn.small
        have f2 := sum_le hn.small.2
        refine rm_joinL ?_ (r2_addS ?_ ⟨?_, rfl⟩)
        · rw [List.length_map]
          have e2 : ((", " : Str)).length = 2 := rfl
          rw [e2]
          omega
        · rw [sizeLine_eq]
          have e2 : (("rows " : Str)).length = 5 := rfl
          omega
        · unfold mendS
          rw [if_neg hn0]
      · have hn0 : ns = [] := by simpa using hb
        unfold mendS
        rw [if_pos hn0]
    subst hU
    refine r2_ne rfl ?_
    refine ⟨_, rfl, no_of (by simp) (WS.next ?_)⟩
    have has : ∀ {n : Int}, n ∈ ns → hasI ns (.int n) = true := fun {n} h => decide_eq_true h
    have hasN : ∀ {n : Int}, n ∉ ns → hasI ns (.int n) = false := fun {n} h => decide_eq_false h
    refine WS.seq (WS.forI (WI.list (WE.var rfl ⟨_, rfl, fun i Γi => ∃ s, Γi = [.is (mendT K a.c_Mend ns), .is (tyL (ns.map tyI)), s], ⟨_, rfl⟩, fun i T0 Γi hT hI => ?_, fun Γn hI => ?_⟩)))
    · obtain ⟨s0, rfl⟩ := hI
      rw [List.getElem?_map] at hT
      obtain ⟨n, e1, rfl⟩ := Option.map_eq_some_iff.mp hT
      have hm : n ∈ ns := List.mem_of_getElem? e1
      have hb := hn.2 n hm
      refine WG.name (WS.ifS (WT.good false ?_ (no_of rfl (WS.next ⟨_, rfl⟩))))
      walk_at "go"
      refine r2_inO ⟨(ns, .int n), rfl, trivial, fun o ho => ⟨_, ho, _, rfl, ?_⟩⟩
      rw [has hm]
      walk_at "go"
      refine r2_I ⟨by decide, by decide⟩ ?_
      have p21 : (10 : Int) ^ Int.toNat 21 = 10 ^ 21 := rfl
      rw [p21]
      have far : n + 10 ^ 21 ∉ ns := fun z => by
        have := (hn.2 _ z).2
        omega
      walk_at "go"
      refine r2_inO ⟨(ns, .int (n + 10 ^ 21)), rfl, trivial, fun o ho => ⟨_, ho, _, rfl, ?_⟩⟩
      rw [hasN far]
      walk_at "go"
      refine rc_strI (log_30 (hn.small.2 n hm)) ?_
      walk_at "go"
      refine r2_inO ⟨(ns, .oth (tyS (numS n)) (.type "str")), rfl, ⟨tyis_str _, rfl⟩, fun o ho => ⟨_, ho, _, rfl, ?_⟩⟩
      refine ⟨_, rfl, no_of rfl ?_⟩
      walk_at "go"
      refine r2_inO ⟨(ns, .oth (tyT K [tyI n]) (.type "tuple")), rfl, ⟨tyis_tup _, rfl⟩, fun o ho => ⟨_, ho, _, rfl, ?_⟩⟩
      refine ⟨_, rfl, no_of rfl ?_⟩
      walk_at "go"
      refine r2_inO ⟨(ns, .oth (tyL [tyI n]) (.type "list")), rfl, ⟨tyis_lst _, rfl⟩, fun o ho => ⟨_, ho, _, rfl, ?_⟩⟩
      exact ⟨_, rfl, rfl, rfl⟩
    · obtain ⟨s0, rfl⟩ := hI
      refine WS.ret ?_
      walk_at "go"
      refine r2_inO ⟨(ns, .bool true), rfl, trivial, fun o ho => ⟨_, ho, _, rfl, ?_⟩⟩
      refine ⟨_, rfl, fun z => absurd (show true = false from z) (by decide), fun _ => ?_⟩
      walk_at "go"
      refine r2_inO ⟨(ns, .bool false), rfl, trivial, fun o ho => ⟨_, ho, _, rfl, ?_⟩⟩
      refine ⟨_, rfl, fun z => absurd (show true = false from z) (by decide), fun _ => ?_⟩
      walk_at "go"
      refine r2_inO ⟨(ns, .oth tyN (.type "NoneType")), rfl, ⟨tyis_non, rfl⟩, fun o ho => ⟨_, ho, _, rfl, ?_⟩⟩
      refine ⟨_, rfl, fun z => absurd (show true = false from z) (by decide), fun _ => ?_⟩
      walk_at "go"
      have neg : (-1 : Int) ∉ ns := fun z => by
        have := (hn.2 _ z).1
        omega
      refine WE.unI (WE.c ⟨1, rfl, WE.var rfl (r2_inO ⟨(ns, .int (-1)), rfl, trivial, fun o ho => ⟨_, ho, _, rfl, ?_⟩⟩)⟩)
      rw [hasN neg]
      exact rfl
end
end K51
set_option Elab.async false
set_option linter.all false
set_option maxRecDepth 100000
set_option maxHeartbeats 8000000
namespace K51
open PySem L2 Lx DL Fm
/-! ### more of names and of things lent -/
section
variable {X : Xn} {Γ : List DL.Slot} {κs : En}
theorem WE.to {κ : Ty → List DL.Slot → Prop} {t : TE} (Γ' : List DL.Slot) (G : Ty → Prop) (h : DL.WE X t Γ fun U Γ1 => G U ∧ Γ1 = Γ') (k : ∀ U, G U → κ U Γ') : DL.WE X t Γ κ := h.imp fun U Γ1 hk => by
  obtain ⟨g, rfl⟩ := hk
  exact k U g
def tyP (p : Addr) (T : Ty) : Ty := ⟨fun v B => v = .ref p ∧ T.ok v B, fun s h => ⟨h.1, T.mono s h.2⟩⟩
theorem thw_P {p : Addr} {M : MTy} {T : Ty} (h : Thw M T) : Thw (mAt p M) (tyP p T) := fun a o B n ⟨e, hk⟩ => by
  subst e
  exact ⟨rfl, h a o B n hk⟩
theorem avd_P {p q : Addr} {N : MTy} {T : Ty} : Avd q N (tyP p T) (DL.tyV (.ref p)) := fun v B o _ _ h => h.1
theorem WS.augP {α : Type} {c : α → CsM} {C p : Addr} {E : XK} {te : TE} {k : Nat} {fs0 : List (Str × Ty)} (h0 : Γ[k]? = some (.own (mAt p (mO C fs0))))
    (h : DL.WE X te Γ fun T Γ1 => ∃ fs, Γ1[k]? = some (.own (mAt p (mO C fs))) ∧ MeetsM c (mO C fs) [T] fun o => ∃ p' N, o = .ret (DL.tyV (.ref p')) (mAt p' N) ∧ κs.nx (Γ1.set k (.own (mAt p N)))) : DL.WS X (tAug k te (ipO C (spMe c) E)) Γ κs := fun σ B H s xo D m => by
  obtain ⟨b, o, e1, e2, e3, eb, _⟩ := s.own k _ _ h0 rfl
  subst eb
  refine ⟨.ref b, e1, h σ B H s xo _ fun y B1 H1 T Γ1 k1 s1 b1 t1 => ?_⟩
  obtain ⟨fs, hi, x, hM, hT, hp, ho⟩ := k1
  have hl : k < Γ1.length := (List.getElem?_eq_some_iff.mp hi).1
  obtain ⟨b', o', f1, f2, f3, fe, f4⟩ := s1.own k _ _ hi rfl
  subst fe
  have ch := s1.change (S' := .own (mO C fs)) (N := mO C fs) (o := o') hi rfl rfl f1 f4 nofun
  rw [upd_id f2] at ch
  obtain ⟨dx, ws, rfl, f5, f6⟩ := f4
  refine ⟨b', dx, ws, rfl, f2, ?_⟩
  refine apply_Me (X := ⟨fun _ => E, fun _ _ _ _ => False⟩) (κ := fun T Γ' => ∃ p' N, T = DL.tyV (.ref p') ∧ Γ' = (Γ1.set k (.own (mO C fs))).set k (.own (mAt p' N)) ∧ κs.nx (Γ1.set k (.own (mAt b' N)))) (us := [y]) (Ts := [T]) ch.1 (fun _ _ _ _ _ _ _ _ _ z => z.elim) (List.getElem?_set_self hl) (.inl rfl) f1 ⟨t1, trivial⟩ ⟨x, hM, hT, hp, fun r hr => ?_⟩ fun v B' H' T' Γ' kk s' g' ok => ?_
  · obtain ⟨p', N, rfl, kk⟩ := ho r hr
    exact ⟨p', N, rfl, rfl, kk⟩
  · obtain ⟨p', N, rfl, rfl, kk⟩ := kk
    cases ok
    rw [List.set_set] at s' g'
    obtain ⟨a, u, g1, g2, g3, ⟨ga, g4⟩⟩ := s'.own k _ _ (List.getElem?_set_self hl) rfl
    subst ga
    rw [f1] at g1
    cases g1
    refine ⟨⟨_, rfl⟩, ?_⟩
    have es : σ.set k (some (V.ref b')) = σ := by
      refine List.ext_getElem? fun j => ?_
      by_cases e : k = j
      · subst e
        rw [List.getElem?_set_self (by rw [s1.len]; exact hl), e1]
      · rw [List.getElem?_set_ne e]
    show D.nx (σ.set k (some (V.ref b'))) H'
    rw [es]
    exact m.nx σ B' H' _ kk s' ((b1.trans ch.2).trans g')
end
theorem srtI_self {l : List Int} (h : l.Pairwise (· < ·)) : srtI l = l := (srtI_of h fun _ => Iff.rfl).symm
theorem srtI_congr {l m : List Int} (h : ∀ k, k ∈ l ↔ k ∈ m) : srtI l = srtI m := srtI_of (pw_srtI l) fun k => mem_srtI.trans (h k)
/-! ### the law's draws of integers -/
/-- what the law draws -/
def Dr (ns : List Int) : Prop := ns.length ≤ 6 ∧ ∀ n ∈ ns, 0 ≤ n ∧ n < 10 ^ 20
section
variable {P : Program} {w : World} {K : PySem.W.Frag} {mg : Str → Option Value} {base : Heap} {a : Ad}
def cDrawn : Unit → Cs := fun _ => { args := [], out := fun o => ∃ ns, Dr ns ∧ o = .ret (tyL (ns.map tyI)) }
theorem ok_drawn (T : Tx K mg a) : FnOk P w K mg base CX0 3 a.a__law_drawn a.d__law_drawn ["bag"] (spB 3 8 cDrawn) := by
  have G__law_draw := ok_draw (P := P) (w := w) (base := base) T
  have G__law_one := ok_one (P := P) (w := w) (base := base) T
  refine T.F__law_drawn.ok sc__law_drawn (fun vs H Q E h => ?_) (fun cdv A outer s H vs Q E hr h => ?_)
  · obtain ⟨x, B, b, us, k, o, rfl, _, _, _, _, t, _⟩ := h
    show us.length + 1 = 1
    rw [t.length]
    rfl
  · refine ⟨_, (pss_cons (ps_set (i := 1) sc__law_drawn.nd rfl (Or.inl rfl) (pe_call G__law_one (hr.mono (by decide)) (by rfl) T.mg__law_one T.kp__law_one T.b__law_one .nil pass0 (pa_cons (pv 0) (pa_cons (pe_lst (pa_cons pe_int (pa_cons pe_int (pa_cons pe_int (pa_cons pe_int (pa_cons pe_int (pa_cons pe_int pa_nil))))))) pa_nil))))
  (pss_cons (ps_set (i := 2) sc__law_drawn.nd rfl (Or.inr rfl) (pe_call G__law_draw (hr.mono (by decide)) (by rfl) T.mg__law_draw T.kp__law_draw T.b__law_draw .nil pass0 (pa_cons (pv 0) (pa_cons pe_int pa_nil))))
  (pss_one (ps_ret (pe_lc (own := [("turn", 3)]) (g := gName 3) rfl sc__law_drawn.nd (pi_range1 (by rfl) T.z_range (pa_cons (pv 1) pa_nil)) (blkOk_by (own := [("turn", 3)]) (N := ["bag", "many", "small", "turn"]) (sc := defScope s__law_drawn) (by decide +kernel)) (fun _ _ _ _ _ => (pg_name (i := 3) sc__law_drawn.nd rfl (Or.inl rfl))) (fun _ _ _ _ _ => pts_nil) (fun _ _ _ _ _ => (pe_call G__law_draw (hr.mono (by decide)) (by rfl) T.mg__law_draw T.kp__law_draw T.b__law_draw .nil pass0 (pa_cons (pv 0) (pa_cons (pe_ix (ix_listK (K := K) rfl) (pe_lst (pa_cons pe_int (pa_cons pe_int (pa_cons (pe_op op_pow pe_int pe_int) pa_nil)))) (pv 2) (fun _ _ => rfl)) pa_nil))))))))), ?_⟩
    refine run_B (fun _ => of_decide_eq_true rfl) h fun _ k _ => ?_
    try dsimp only [L2.cxOf, L2.Cx.wish]
    refine WS.seq (WS.asg (WE.callB0 rfl (WA.cons (WE.lst (WA.cons (WE.c (WA.cons (WE.c (WA.cons (WE.c (WA.cons (WE.c (WA.cons (WE.c (WA.cons (WE.c (WA.nil ⟨Nat.le_of_ble_eq_true rfl, WA.nil ⟨k + 8, rfl, by omega, [0, 1, 2, 3, 5, 6], rfl, ⟨by decide, by decide⟩, ?_⟩⟩)))))))))))))))))
    rintro o ⟨many, hm, rfl⟩
    have hm6 : 0 ≤ many ∧ many ≤ 6 := by
      simp only [List.mem_cons, List.not_mem_nil, or_false] at hm
      omega
    refine ⟨_, rfl, WG.name ?_⟩
    refine WS.seq (WS.asg (WE.callB0 rfl (WA.cons (WE.c (WA.nil ⟨k + 8 - 1, rfl, by omega, 3, rfl, ⟨by decide, by decide⟩, ?_⟩)))))
    rintro o ⟨small, s0, s1, rfl⟩
    refine ⟨_, rfl, WG.name ?_⟩
    refine WS.ret (WE.frzO (WO.lc (WI.rng1 (WA.cons (WE.var rfl (WA.nil ⟨many, rfl, by omega, by omega, fun i Γi acc => ∃ ns m, ns.length = i ∧ (∀ n ∈ ns, 0 ≤ n ∧ n < 10 ^ 20) ∧ acc = ns.map tyI ∧ m + i = k + 6 ∧ Γi = [.bag 3 m, .is (tyI many), .is (tyI small), .no], ⟨[], k + 6, rfl, by simp, rfl, rfl, rfl⟩, fun i T0 Γi acc hT hI => ?_, fun Γn acc hI => ?_⟩))))))
    · obtain ⟨ns, m, rfl, hns, rfl, hmi, rfl⟩ := hI
      have hi : ns.length < 6 := by
        have := (List.getElem?_eq_some_iff.mp hT).1
        rw [List.length_map, List.length_range] at this
        omega
      refine ⟨noOwn_of rfl, by rw [List.length_map, sizeLine_eq]; omega, WC.name (by simp) (WT.yes ⟨fun _ => ?_, nofun⟩)⟩
      obtain ⟨j, ej, hj0, hj1⟩ : ∃ j : Int, atI ([4, 60, (10 : Int) ^ Int.toNat 20].map tyI) small = some (tyI j) ∧ 0 < j ∧ j ≤ 10 ^ 20 := by
        have : small = 0 ∨ small = 1 ∨ small = 2 := by omega
        rcases this with rfl | rfl | rfl
        · exact ⟨4, rfl, by decide, by decide⟩
        · exact ⟨60, rfl, by decide, by decide⟩
        · exact ⟨_, rfl, by decide, by decide⟩
      refine WE.callB0 rfl (WA.cons (WE.op (WE.lst (WA.cons (WE.c (WA.cons (WE.c (WA.cons (WE.op (WE.c (WE.c (r2_I ⟨by decide, by decide⟩ (WA.nil ⟨Nat.le_of_ble_eq_true rfl, WE.var rfl (r2_ixL (tyI j) ej (WA.nil ⟨m, rfl, by omega, j, rfl, ⟨hj0, Int.lt_of_le_of_lt hj1 (by decide)⟩, ?_⟩))⟩)))))))))))))
      rintro o ⟨r, r0, r1, rfl⟩
      refine ⟨_, rfl, ns ++ [r], m - 1, by rw [List.length_append]; rfl, fun n hn => ?_, by rw [List.map_append]; rfl, by omega, rfl⟩
      rcases List.mem_append.mp hn with h | h
      · exact hns n h
      · obtain rfl := List.mem_singleton.mp h
        exact ⟨r0, by omega⟩
    · obtain ⟨ns, m, hl, hns, rfl, hmi, rfl⟩ := hI
      rw [List.length_map, List.length_range] at hl hmi
      exact ⟨_, thw_L, ⟨_, rfl, by omega⟩, ns, ⟨by omega, hns⟩, rfl⟩
end
end K51
set_option Elab.async false
set_option linter.all false
set_option maxRecDepth 100000
set_option maxHeartbeats 8000000
namespace K51
open PySem L2 Lx DL Fm
/-! ### what is asked of two mends -/
local macro_rules | `(tactic| walk_at "th") => `(tactic| repeat (first
  | (refine Thaw.own ?_)
  | (refine Thaw.is avd_P ?_)
  | (refine Thaw.is avd_off ?_)
  | (refine Thaw.bag ?_)
  | (refine Thaw.keep avdM_mend ?_)
  | (refine Thaw.keep (avdM_at avdM_mend) ?_)
  | (refine Thaw.keep (avdM_to avdM_mend) ?_)
  | (refine Thaw.no ?_)
  | exact Thaw.nil))
theorem r2_inLI {K : PySem.W.Frag} {κ : Ty → Prop} {neg : Bool} {x : Int} {ns : List Int} (k : κ (tyB (if neg then !decide (x ∈ ns) else decide (x ∈ ns)))) : R2w (rIn K neg) (tyI x) (tyL (ns.map tyI)) κ := by
  rw [ints_map]
  refine r2_in rfl (by rw [List.all_map]; exact List.all_eq_true.mpr fun _ _ => rfl) ?_
  rw [inV_ints]
  exact k
theorem WS.norm {X : Xn} {Γ : List DL.Slot} {κs : En} {t : TS} (Γ' : List DL.Slot) (e : Γ = Γ') (h : DL.WS X t Γ' κs) : DL.WS X t Γ κs := e ▸ h
section
variable {P : Program} {w : World} {K : PySem.W.Frag} {mg : Str → Option Value} {base : Heap} {a : Ad}
theorem in21_of {ns : List Int} (h : ns.length < 64) (h2 : ∀ n ∈ ns, 0 ≤ n ∧ n < 10 ^ 20) : In21 (srtI ns) := ⟨Nat.lt_of_le_of_lt (srtI_len ns) h, fun n hn => by
  have := h2 n (mem_srtI.mp hn)
  omega⟩
def cRight : Unit → Cs := fun _ => { args := [], out := fun o => o = .ret (tyB true) }
theorem ok_right (T : Tx K mg a) : FnOk P w K mg base CX0 8 a.a__law_is_right a.d__law_is_right ["bag"] (spB 3 20 cRight) := by
  have G__law_draw := ok_draw (P := P) (w := w) (base := base) T
  have G__law_drawn := ok_drawn (P := P) (w := w) (base := base) T
  have G__law_made := ok_made (P := P) (w := w) (base := base) T
  have G__law_is := ok_is (P := P) (w := w) (base := base) T
  have GMend := gr_minit (P := P) (w := w) (base := base) T
  have GRmeq : FnR P w K mg base CX0 1 a.a_MendU_eqU (spP (cMEq K a.c_Mend)) := by
    have h := (ok_meq (P := P) (w := w) (base := base) T).raw T.b_MendU_eqU .nil
    simpa only [List.append_nil] using h
  have GRmor : FnR P w K mg base CX0 4 a.a_MendU_orU (spN (cMOr K a.c_Mend)) := by
    have h := (ok_mor (P := P) (w := w) (base := base) T).raw T.b_MendU_orU .nil
    simpa only [List.append_nil] using h
  have GRmand : FnR P w K mg base CX0 4 a.a_MendU_andU (spN (cMAnd K a.c_Mend)) := by
    have h := (ok_mand (P := P) (w := w) (base := base) T).raw T.b_MendU_andU .nil
    simpa only [List.append_nil] using h
  have GRmior : FnR P w K mg base CX0 1 a.a_MendU_iorU (spMe (cMIor K a.c_Mend)) := by
    have h := (ok_mior (P := P) (w := w) (base := base) T).raw T.b_MendU_iorU .nil
    simpa only [List.append_nil] using h
  refine T.F__law_is_right.ok sc__law_is_right (fun vs H Q E h => ?_) (fun cdv A outer s H vs Q E hr h => ?_)
  · obtain ⟨x, B, b, us, k, o, rfl, _, _, _, _, t, _⟩ := h
    show us.length + 1 = 1
    rw [t.length]
    rfl
  · refine ⟨_, (pss_cons (ps_par (i := 1) (j := 2) (by rfl) sc__law_is_right.nd rfl rfl (by decide) rfl rfl (pa_cons (pe_call G__law_drawn (hr.mono (by decide)) (by rfl) T.mg__law_drawn T.kp__law_drawn T.b__law_drawn .nil pass0 (pa_cons (pv 0) pa_nil)) (pa_cons (pe_call G__law_drawn (hr.mono (by decide)) (by rfl) T.mg__law_drawn T.kp__law_drawn T.b__law_drawn .nil pass0 (pa_cons (pv 0) pa_nil)) pa_nil)) (by rfl))
  (pss_cons (ps_set (i := 2) sc__law_is_right.nd rfl (Or.inl rfl) (pe_ifExp (PW.pt (pw_and (pt_cmpR op_eq (pe_call G__law_draw (hr.mono (by decide)) (by rfl) T.mg__law_draw T.kp__law_draw T.b__law_draw .nil pass0 (pa_cons (pv 0) (pa_cons pe_int pa_nil))) pe_int (nomark _)) (pw_and1 (pt_cmpR op_lt (pe_callB call_len_seq (by rfl) T.z_len (by decide +kernel) (pa_cons (pv 2) pa_nil)) pe_int (nomark _))))) (pe_op op_cat (pv 2) (pe_slice sl_list (pv 1) po_none (po_some pe_int))) (pv 2)))
  (pss_cons (ps_set (i := 2) sc__law_is_right.nd rfl (Or.inl rfl) (pe_ifExp (pt_cmpR op_eq (pe_call G__law_draw (hr.mono (by decide)) (by rfl) T.mg__law_draw T.kp__law_draw T.b__law_draw .nil pass0 (pa_cons (pv 0) (pa_cons pe_int pa_nil))) pe_int (nomark _)) (pe_callTy call_list_of (by rfl) T.z_list (by decide +kernel) (pa_cons (pv 1) pa_nil)) (pv 2)))
  (pss_cons (ps_par (i := 3) (j := 4) (by rfl) sc__law_is_right.nd rfl rfl (by decide) rfl rfl (pa_cons (pe_call G__law_made (hr.mono (by decide)) (by rfl) T.mg__law_made T.kp__law_made T.b__law_made .nil pass0 (pa_cons (pv 1) pa_nil)) (pa_cons (pe_call G__law_made (hr.mono (by decide)) (by rfl) T.mg__law_made T.kp__law_made T.b__law_made .nil pass0 (pa_cons (pv 2) pa_nil)) pa_nil)) (by rfl))
  (pss_cons (ps_asg (pe_tup (pa_cons (pe_callB (cr_sortedSet rfl) (by rfl) T.z_sorted (by decide +kernel) (pa_cons (pe_callTy (LxS.call_setI rfl) (by rfl) T.z_set (by decide +kernel) (pa_cons (pv 1) pa_nil)) pa_nil)) (pa_cons (pe_callB (cr_sortedSet rfl) (by rfl) T.z_sorted (by decide +kernel) (pa_cons (pe_callTy (LxS.call_setI rfl) (by rfl) T.z_set (by decide +kernel) (pa_cons (pv 2) pa_nil)) pa_nil)) pa_nil))) (pg_tup (by rfl) (pgs_cons (pg_name (i := 5) sc__law_is_right.nd rfl (Or.inl rfl)) (pgs_cons (pg_name (i := 6) sc__law_is_right.nd rfl (Or.inr rfl)) pgs_nil))))
  (pss_cons (ps_if (PW.pt (pw_or (pt_not (pt_val (pe_call G__law_is (hr.mono (by decide)) (by rfl) T.mg__law_is T.kp__law_is T.b__law_is .nil pass0 (pa_cons (pv 3) (pa_cons (pv 5) pa_nil))))) (pw_or (pt_not (pt_val (pe_call G__law_is (hr.mono (by decide)) (by rfl) T.mg__law_is T.kp__law_is T.b__law_is .nil pass0 (pa_cons (pv 4) (pa_cons (pv 6) pa_nil))))) (pw_or1 (pt_cmpR op_ne (pe_cmpR (op_eqO ⟨T.at_MendU_eqU, T.fn_MendU_eqU⟩ GRmeq (hr.mono (by decide)) pass0) (pv 3) (pv 4) (nomark _)) (pe_cmpR (op_eqD hr.units) (pv 5) (pv 6) (nomark _)) (nomark _))))))
  (pss_one (ps_ret pe_bl))
  pss_nil)
  (pss_cons (ps_par (i := 7) (j := 8) (by rfl) sc__law_is_right.nd rfl rfl (by decide) rfl rfl (pa_cons (pe_callB (cr_sortedSet rfl) (by rfl) T.z_sorted (by decide +kernel) (pa_cons (pe_callTy (LxS.call_setI rfl) (by rfl) T.z_set (by decide +kernel) (pa_cons (pe_op op_cat (pv 1) (pv 2)) pa_nil)) pa_nil)) (pa_cons (pe_lc (own := [("row", 9)]) (g := gName 9) rfl sc__law_is_right.nd (pi_list (pv 5)) (blkOk_by (own := [("row", 9)]) (N := ["bag", "first", "second", "one", "other", "due", "more", "either", "both", "row", "joined", "common", "alias", "kept"]) (sc := defScope s__law_is_right) (by decide +kernel)) (fun _ _ _ _ _ => (pg_name (i := 9) sc__law_is_right.nd rfl (Or.inl rfl))) (fun _ _ _ _ _ => (pts_one (pt_cmpR (op_in_seqK (K := K) rfl) (pv 9) (pv 6) (by rfl)))) (fun _ _ _ _ _ => (pv 9))) pa_nil)) (by rfl))
  (pss_cons (ps_par (i := 10) (j := 11) (by rfl) sc__law_is_right.nd rfl rfl (by decide) rfl rfl (pa_cons (pe_op (op_binO (by rfl) T.sf ⟨T.at_MendU_orU, T.fn_MendU_orU⟩ GRmor (hr.mono (by decide)) pass0) (pv 3) (pv 4)) (pa_cons (pe_op (op_binO (by rfl) T.sf ⟨T.at_MendU_andU, T.fn_MendU_andU⟩ GRmand (hr.mono (by decide)) pass0) (pv 3) (pv 4)) pa_nil)) (by rfl))
  (pss_cons (ps_if (PW.pt (pw_or (pt_not (pt_val (pe_call G__law_is (hr.mono (by decide)) (by rfl) T.mg__law_is T.kp__law_is T.b__law_is .nil pass0 (pa_cons (pv 10) (pa_cons (pv 7) pa_nil))))) (pw_or (pt_not (pt_val (pe_call G__law_is (hr.mono (by decide)) (by rfl) T.mg__law_is T.kp__law_is T.b__law_is .nil pass0 (pa_cons (pv 11) (pa_cons (pv 8) pa_nil))))) (pw_or (pt_not (pt_val (pe_call G__law_is (hr.mono (by decide)) (by rfl) T.mg__law_is T.kp__law_is T.b__law_is .nil pass0 (pa_cons (pv 3) (pa_cons (pv 5) pa_nil))))) (pw_or1 (pt_not (pt_val (pe_call G__law_is (hr.mono (by decide)) (by rfl) T.mg__law_is T.kp__law_is T.b__law_is .nil pass0 (pa_cons (pv 4) (pa_cons (pv 6) pa_nil))))))))))
  (pss_one (ps_ret pe_bl))
  pss_nil)
  (pss_cons (ps_if (PW.pt (pw_or (pt_cmpR (op_eqO ⟨T.at_MendU_eqU, T.fn_MendU_eqU⟩ GRmeq (hr.mono (by decide)) pass0) (pv 3) (pv 5) (nomark _)) (pw_or (pt_cmpR (op_eqO ⟨T.at_MendU_eqU, T.fn_MendU_eqU⟩ GRmeq (hr.mono (by decide)) pass0) (pv 3) (pe_fld (pv 3) rfl) (nomark _)) (pw_or (pt_cmpR (op_neO ⟨T.at_MendU_eqU, T.fn_MendU_eqU⟩ T.nec GRmeq (hr.mono (by decide)) pass0) (pv 3) (pe_call G__law_made (hr.mono (by decide)) (by rfl) T.mg__law_made T.kp__law_made T.b__law_made .nil pass0 (pa_cons (pe_revL (pv 1)) pa_nil)) (nomark _)) (pw_or1 (pt_cmpR (op_neO ⟨T.at_MendU_eqU, T.fn_MendU_eqU⟩ T.nec GRmeq (hr.mono (by decide)) pass0) (pe_op (op_binO (by rfl) T.sf ⟨T.at_MendU_orU, T.fn_MendU_orU⟩ GRmor (hr.mono (by decide)) pass0) (pv 3) (pv 4)) (pe_op (op_binO (by rfl) T.sf ⟨T.at_MendU_orU, T.fn_MendU_orU⟩ GRmor (hr.mono (by decide)) pass0) (pv 4) (pv 3)) (nomark _)))))))
  (pss_one (ps_ret pe_bl))
  pss_nil)
  (pss_cons (ps_par (i := 12) (j := 13) (by rfl) sc__law_is_right.nd rfl rfl (by decide) rfl rfl (pa_cons (pv 3) (pa_cons (pe_op (op_binO (by rfl) T.sf ⟨T.at_MendU_orU, T.fn_MendU_orU⟩ GRmor (hr.mono (by decide)) pass0) (pv 3) (LxS.pe_makeR00 T.mk_Mend GMend (hr.mono (by decide)) (by rfl) T.mg_Mend pass0)) pa_nil)) (by rfl))
  (pss_cons (ps_aug (i := 12) sc__law_is_right.nd rfl (Or.inl rfl) (pv 4) (ip_own (by rfl) T.sf ⟨T.at_MendU_iorU, T.fn_MendU_iorU⟩ GRmior (hr.mono (by decide)) pass0))
  (pss_cons (ps_if (PW.pt (pw_or (pt_not (pt_val (pe_call G__law_is (hr.mono (by decide)) (by rfl) T.mg__law_is T.kp__law_is T.b__law_is .nil pass0 (pa_cons (pv 3) (pa_cons (pv 7) pa_nil))))) (pw_or (pt_not (pt_val (pe_call G__law_is (hr.mono (by decide)) (by rfl) T.mg__law_is T.kp__law_is T.b__law_is .nil pass0 (pa_cons (pv 12) (pa_cons (pv 7) pa_nil))))) (pw_or (pt_not (pt_val (pe_call G__law_is (hr.mono (by decide)) (by rfl) T.mg__law_is T.kp__law_is T.b__law_is .nil pass0 (pa_cons (pv 4) (pa_cons (pv 6) pa_nil))))) (pw_or1 (pt_not (pt_val (pe_call G__law_is (hr.mono (by decide)) (by rfl) T.mg__law_is T.kp__law_is T.b__law_is .nil pass0 (pa_cons (pv 13) (pa_cons (pv 5) pa_nil))))))))))
  (pss_one (ps_ret pe_bl))
  pss_nil)
  (pss_cons (ps_if (PW.pt (pw_or (pt_not (pt_cmpR (op_eqO ⟨T.at_MendU_eqU, T.fn_MendU_eqU⟩ GRmeq (hr.mono (by decide)) pass0) (pv 12) (pv 3) (nomark _))) (pw_or (pt_cmpR (op_neO ⟨T.at_MendU_eqU, T.fn_MendU_eqU⟩ T.nec GRmeq (hr.mono (by decide)) pass0) (pv 12) (pv 10) (nomark _)) (pw_or (pt_not (pt_val (pe_call G__law_is (hr.mono (by decide)) (by rfl) T.mg__law_is T.kp__law_is T.b__law_is .nil pass0 (pa_cons (pv 10) (pa_cons (pv 7) pa_nil))))) (pw_or1 (pt_not (pt_val (pe_call G__law_is (hr.mono (by decide)) (by rfl) T.mg__law_is T.kp__law_is T.b__law_is .nil pass0 (pa_cons (pv 11) (pa_cons (pv 8) pa_nil))))))))))
  (pss_one (ps_ret pe_bl))
  pss_nil)
  (pss_cons (ps_aug (i := 3) sc__law_is_right.nd rfl (Or.inl rfl) (pe_op (op_binO (by rfl) T.sf ⟨T.at_MendU_orU, T.fn_MendU_orU⟩ GRmor (hr.mono (by decide)) pass0) (pv 3) (LxS.pe_makeR00 T.mk_Mend GMend (hr.mono (by decide)) (by rfl) T.mg_Mend pass0)) (ip_own (by rfl) T.sf ⟨T.at_MendU_iorU, T.fn_MendU_iorU⟩ GRmior (hr.mono (by decide)) pass0))
  (pss_cons (ps_aug (i := 10) sc__law_is_right.nd rfl (Or.inl rfl) (StX.pe_makeR T.mk_Mend GMend (hr.mono (by decide)) (by rfl) T.mg_Mend pass0 (pa_cons pe_int pa_nil)) (ip_own (by rfl) T.sf ⟨T.at_MendU_iorU, T.fn_MendU_iorU⟩ GRmior (hr.mono (by decide)) pass0))
  (pss_one (ps_ret (pe_and (pe_call G__law_is (hr.mono (by decide)) (by rfl) T.mg__law_is T.kp__law_is T.b__law_is .nil pass0 (pa_cons (pv 3) (pa_cons (pv 7) pa_nil))) (pe_and (pe_call G__law_is (hr.mono (by decide)) (by rfl) T.mg__law_is T.kp__law_is T.b__law_is .nil pass0 (pa_cons (pv 10) (pa_cons (pe_callB (cr_sortedSet rfl) (by rfl) T.z_sorted (by decide +kernel) (pa_cons (pe_callTy (LxS.call_setI rfl) (by rfl) T.z_set (by decide +kernel) (pa_cons (pe_op op_cat (pv 7) (pe_lst (pa_cons pe_int pa_nil))) pa_nil)) pa_nil)) pa_nil))) (pe_one (pe_call G__law_is (hr.mono (by decide)) (by rfl) T.mg__law_is T.kp__law_is T.b__law_is .nil pass0 (pa_cons (pv 12) (pa_cons (pv 7) pa_nil)))))))))))))))))))))))), ?_⟩
    refine run_B (fun _ => of_decide_eq_true rfl) h fun _ k _ => ?_
    try dsimp only [L2.cxOf, L2.Cx.wish]
    refine WS.seq (WS.par (WA.cons (WE.callB0 rfl (WA.nil ⟨k + 20, rfl, by omega, (), rfl, trivial, ?_⟩))))
    rintro o ⟨xs, ⟨x1, x2⟩, rfl⟩
    refine ⟨_, rfl, WA.cons (WE.callB0 rfl (WA.nil ⟨k + 20 - 8, rfl, by omega, (), rfl, trivial, ?_⟩))⟩
    rintro o ⟨ys, ⟨y1, y2⟩, rfl⟩
    refine ⟨_, rfl, WA.nil ⟨_, _, rfl, ?_⟩⟩
    -- second may have more
    refine WS.seq (WS.asg (WE.to [.bag 3 (k + 20 - 8 - 8 - 1), .is (tyL (xs.map tyI)), .is (tyL (ys.map tyI)), .no, .no, .no, .no, .no, .no, .no, .no, .no, .no, .no] (fun U => ∃ zs, Dr zs ∧ U = tyL (zs.map tyI)) ?_ fun U hU => ?_))
    · refine WE.ifE (WT.and (WT.val (WE.op (WE.callB0 rfl (WA.cons (WE.c (WA.nil ⟨k + 20 - 8 - 8, rfl, by omega, 2, rfl, ⟨by decide, by decide⟩, ?_⟩)))))))
      rintro o ⟨r, r0, r1, rfl⟩
      refine ⟨_, rfl, WE.c (r2_eq rfl ⟨_, rfl, fun _ => ?_, fun _ => ⟨nofun, fun _ => WE.var rfl ⟨⟨ys, ⟨y1, y2⟩, rfl⟩, rfl⟩⟩⟩)⟩
      refine WT.val (WE.op (WE.cb (WA.cons (WE.var rfl (WA.nil (rc_lenL (WE.c (r2_I0 ⟨_, rfl, fun hb => ?_, fun _ => WE.var rfl ⟨⟨ys, ⟨y1, y2⟩, rfl⟩, rfl⟩⟩))))))))
      rw [List.length_map] at hb
      have hl : ys.length < 6 := by
        have := of_decide_eq_true hb
        omega
      refine WE.op (WE.var rfl (WE.slL (WE.var rfl ⟨_, rfl, WP.no (WP.part (WE.c ⟨1, rfl, ?_⟩))⟩)))
      rw [show cutT (xs.map tyI) none (some 1) = (xs.map tyI).take 1 from cutT_to 1, ← List.map_take]
      refine r2_cat (by rw [List.length_map, List.length_map, List.length_take, sizeLine_eq]; omega) ⟨⟨ys ++ xs.take 1, ⟨by rw [List.length_append, List.length_take]; omega, fun n hn => ?_⟩, by rw [List.map_append]⟩, rfl⟩
      rcases List.mem_append.mp hn with h | h
      · exact y2 n h
      · exact x2 n (List.mem_of_mem_take h)
    obtain ⟨zs, ⟨z1, z2⟩, rfl⟩ := hU
    refine WG.name (WS.norm [.bag 3 _, .is (tyL (xs.map tyI)), .is (tyL (zs.map tyI)), .no, .no, .no, .no, .no, .no, .no, .no, .no, .no, .no] rfl ?_)
    refine WS.seq (WS.asg (WE.to [.bag 3 (k + 20 - 8 - 8 - 1 - 1), .is (tyL (xs.map tyI)), .is (tyL (zs.map tyI)), .no, .no, .no, .no, .no, .no, .no, .no, .no, .no, .no] (fun U => ∃ us, Dr us ∧ U = tyL (us.map tyI)) ?_ fun U hU => ?_))
    · refine WE.ifE (WT.val (WE.op (WE.callB0 rfl (WA.cons (WE.c (WA.nil ⟨k + 20 - 8 - 8 - 1, rfl, by omega, 5, rfl, ⟨by decide, by decide⟩, ?_⟩))))))
      rintro o ⟨r, r0, r1, rfl⟩
      exact ⟨_, rfl, WE.c (r2_eq rfl ⟨_, rfl, fun _ => WE.cb (WA.cons (WE.var rfl (WA.nil (rc_listL ⟨⟨xs, ⟨x1, x2⟩, rfl⟩, rfl⟩)))), fun _ => WE.var rfl ⟨⟨zs, ⟨z1, z2⟩, rfl⟩, rfl⟩⟩)⟩
    obtain ⟨us, ⟨u1, u2⟩, rfl⟩ := hU
    refine WG.name (WS.norm [.bag 3 _, .is (tyL (xs.map tyI)), .is (tyL (us.map tyI)), .no, .no, .no, .no, .no, .no, .no, .no, .no, .no, .no] rfl ?_)
    have hx64 : xs.length < 64 := by omega
    have hu64 : us.length < 64 := by omega
    refine WS.seq (WS.parOT (WO.callN (WA.cons (WE.var rfl (WA.nil ⟨xs, rfl, x1, ?_⟩)))))
    rintro _ rfl
    refine WE.frzO (WO.callN (WA.cons (WE.var rfl (WA.nil ⟨us, rfl, u1, ?_⟩))))
    rintro _ rfl
    refine ⟨_, thw_O, of_decide_eq_true rfl, ?_⟩
    refine WS.seq (WS.asg (WE.tup K (WA.cons (WE.cb (WA.cons (WE.cb (WA.cons (WE.var rfl (WA.nil (rc_setL hx64 (WA.nil (rc_sortedSI hx64 fun D d1 d2 => ?_))))))))))))
    obtain rfl := srtI_of d1 d2
    refine WA.cons (WE.cb (WA.cons (WE.cb (WA.cons (WE.var rfl (WA.nil (rc_setL hu64 (WA.nil (rc_sortedSI hu64 fun D e1 e2 => ?_)))))))))
    obtain rfl := srtI_of e1 e2
    refine WA.nil ⟨Nat.le_of_ble_eq_true rfl, WG.tup rfl (WGs.cons (WG.name (WGs.cons (WG.name (WGs.nil ?_)))))⟩
    have dx : In21 (srtI xs) := in21_of (by omega) x2
    have mx : In21 (srtI us) := in21_of (by omega) u2
    have dl : (srtI xs).length ≤ 6 := Nat.le_trans (srtI_len xs) x1
    have ml : (srtI us).length ≤ 6 := Nat.le_trans (srtI_len us) u1
    have dm : ∀ k, k ∈ srtI xs ↔ k ∈ xs := fun k => mem_srtI
    have mm : ∀ k, k ∈ srtI us ↔ k ∈ us := fun k => mem_srtI
    have dr : srtI xs.reverse = srtI xs := srtI_congr fun k => List.mem_reverse
    refine WS.norm [.bag 3 _, .is (tyL (xs.map tyI)), .is (tyL (us.map tyI)), .own (mendM K a.c_Mend (srtI xs)), .is (mendT K a.c_Mend (srtI us)), .is (tyL ((srtI xs).map tyI)), .is (tyL ((srtI us).map tyI)), .no, .no, .no, .no, .no, .no, .no] rfl ?_
    generalize srtI xs = D at *
    generalize srtI us = M at *
    refine WS.seq (WS.ifS (WT.good false (WT.lend (i := 3) rfl fun p => ?_) (no_of rfl (WS.next ?_))))
    · refine WT.or (WT.not (WT.valB (WE.call0 (WA.cons (WE.varW (T := mendT K a.c_Mend D) rfl atT_ins (WA.cons (WE.varW (T := tyL (D.map tyI)) rfl off_weak (WA.nil ⟨D, rfl, dx, fun o ho => ⟨_, ho, _, rfl, no_of rfl ?_⟩⟩))))))))
      refine WT.or (WT.not (WT.valB (WE.call0 (WA.cons (WE.varW (T := mendT K a.c_Mend M) rfl off_weak (WA.cons (WE.varW (T := tyL (M.map tyI)) rfl off_weak (WA.nil ⟨M, rfl, mx, fun o ho => ⟨_, ho, _, rfl, no_of rfl ?_⟩⟩))))))))
      refine WT.val (WE.op (WE.op (WE.varW (T := mendT K a.c_Mend D) rfl atT_ins (WE.varW (T := mendT K a.c_Mend M) rfl off_weak (r2_eqO (tyis_mend T M) T.nf_B ⟨(D, .mend M), rfl, trivial, fun o ho => ⟨_, ho, _, rfl, ?_⟩⟩)))))
      refine WE.op (WE.varW (T := tyL (D.map tyI)) rfl off_weak (WE.varW (T := tyL (M.map tyI)) rfl off_weak (r2_eqA (dat_l (n := 0) (dats_ints D)) (dat_l (n := 0) (dats_ints M)) (r2_ne rfl ⟨_, rfl, mendM K a.c_Mend D, _, ?_, ?_, rfl⟩))))
      · walk_at "th"
      · rw [show PyData.eqv (.list (dI D)) (.list (dI M)) = decide (D = M) from eqv_ints D M]
        show (!decide (V.bl (decide (D = M)) = V.bl (decide (D = M)))) = false
        simp
    have u12 : (xs ++ us).length < 64 := by rw [List.length_append]; omega
    have dlm : D.length + M.length < 64 := by omega
    refine WS.seq (WS.par (WA.cons (WE.cb (WA.cons (WE.cb (WA.cons (WE.op (WE.var rfl (WE.var rfl (r2_cat (by rw [List.length_map, List.length_map, sizeLine_eq]; omega) ?_))))))))))
    rw [← List.map_append]
    refine WA.nil (rc_setL u12 (WA.nil (rc_sortedSI u12 fun Z e1 e2 => ?_)))
    have eZ : Z = srtI (D ++ M) := srtI_of e1 fun q => (e2 q).trans (by rw [List.mem_append, List.mem_append, dm, mm])
    subst eZ
    have pD : D.Pairwise (· < ·) := by assumption
    have pB : (D.filter fun q => decide (q ∈ M)).Pairwise (· < ·) := pD.filter _
    have eB : srtI (D.filter fun q => decide (q ∈ M)) = D.filter fun q => decide (q ∈ M) := srtI_self pB
    have bx : In21 (D.filter fun q => decide (q ∈ M)) := ⟨Nat.lt_of_le_of_lt (List.length_filter_le _ _) dx.1, fun n hn => dx.2 n (List.mem_filter.mp hn).1⟩
    have zx : In21 (srtI (D ++ M)) := by
      refine ⟨Nat.lt_of_le_of_lt (srtI_len _) (by rw [List.length_append]; exact dlm), fun n hn => ?_⟩
      rcases List.mem_append.mp (mem_srtI.mp hn) with h | h
      · exact dx.2 n h
      · exact mx.2 n h
    have zl : (srtI (D ++ M)).length ≤ 12 := Nat.le_trans (srtI_len _) (by rw [List.length_append]; omega)
    have eC : srtI (M ++ D) = srtI (D ++ M) := srtI_congr fun q => by rw [List.mem_append, List.mem_append, or_comm]
    have eN : srtI (D ++ srtI []) = D := by
      show srtI (D ++ []) = D
      rw [List.append_nil]
      exact srtI_self pD
    have zp : (srtI (D ++ M)).Pairwise (· < ·) := pw_srtI _
    refine WA.cons (WE.lcFil Int (WI.list (WE.var rfl ⟨_, rfl, D, tyI, tyI, fun q => decide (q ∈ M), rfl, noOwn_of rfl, by rw [sizeLine_eq]; omega, fun q hq => ?_, ?_⟩)))
    · refine WC.name (by simp) (WT.val (WE.op (WE.var rfl (WE.var rfl (r2_inLI ⟨_, rfl, rfl, rfl, fun _ => WE.var rfl ⟨rfl, rfl⟩⟩)))))
    refine WA.nil ⟨_, _, rfl, ?_⟩
    refine WS.norm [.bag 3 _, .is (tyL (xs.map tyI)), .is (tyL (us.map tyI)), .own (mendM K a.c_Mend D), .is (mendT K a.c_Mend M), .is (tyL (D.map tyI)), .is (tyL (M.map tyI)), .is (tyL ((srtI (D ++ M)).map tyI)), .is (tyL ((D.filter fun q => decide (q ∈ M)).map tyI)), .no, .no, .no, .no, .no] rfl ?_
    generalize hBo : (D.filter fun q => decide (q ∈ M)) = Bo at *
    -- | and &
    refine WS.seq (WS.parOT (WO.lend (i := 3) rfl fun p => WO.binN (WE.varW (T := mendT K a.c_Mend D) rfl atT_ins (WE.varW (T := mendT K a.c_Mend M) rfl off_weak ⟨_, _, rfl, rfl, (D, M), rfl, dlm, ?_⟩))))
    rintro _ rfl
    refine ⟨mendM K a.c_Mend D, [.bag 3 (k + 20 - 8 - 8 - 1 - 1), .is (tyL (xs.map tyI)), .is (tyL (us.map tyI)), .own (mendM K a.c_Mend D), .is (mendT K a.c_Mend M), .is (tyL (D.map tyI)), .is (tyL (M.map tyI)), .is (tyL ((srtI (D ++ M)).map tyI)), .is (tyL (Bo.map tyI)), .no, .no, .no, .no, .no], _, by walk_at "th", avdM_mend, ?_⟩
    refine WE.frzO (WO.lend (i := 3) rfl fun p => WO.binN (WE.varW (T := mendT K a.c_Mend D) rfl atT_ins (WE.varW (T := mendT K a.c_Mend M) rfl off_weak ⟨_, _, rfl, rfl, (D, M), rfl, by show D.length < 64; omega, ?_⟩)))
    rintro _ rfl
    rw [hBo, eB]
    refine ⟨mendM K a.c_Mend D, [.bag 3 (k + 20 - 8 - 8 - 1 - 1), .is (tyL (xs.map tyI)), .is (tyL (us.map tyI)), .own (mendM K a.c_Mend D), .is (mendT K a.c_Mend M), .is (tyL (D.map tyI)), .is (tyL (M.map tyI)), .is (tyL ((srtI (D ++ M)).map tyI)), .is (tyL (Bo.map tyI)), .no, .no, .no, .no, .no], _, by walk_at "th", avdM_mend, _, thw_O, of_decide_eq_true rfl, ?_⟩
    refine WS.norm [.bag 3 _, .is (tyL (xs.map tyI)), .is (tyL (us.map tyI)), .own (mendM K a.c_Mend D), .is (mendT K a.c_Mend M), .is (tyL (D.map tyI)), .is (tyL (M.map tyI)), .is (tyL ((srtI (D ++ M)).map tyI)), .is (tyL (Bo.map tyI)), .no, .own (mendM K a.c_Mend (srtI (D ++ M))), .is (mendT K a.c_Mend Bo), .no, .no] rfl ?_
    generalize hZ : srtI (D ++ M) = Z at *
    -- these
    refine WS.seq (WS.ifS (WT.good false (WT.lend (i := 10) rfl fun p => WT.lend (i := 3) rfl fun q => ?_) (no_of rfl (WS.next ?_))))
    · refine WT.or (WT.not (WT.valB (WE.call0 (WA.cons (WE.varW (T := mendT K a.c_Mend Z) rfl (fun h => atT_ins (off_weak h)) (WA.cons (WE.varW (T := tyL (Z.map tyI)) rfl (fun h => off_weak (off_weak h)) (WA.nil ⟨Z, rfl, zx, fun o ho => ⟨_, ho, _, rfl, no_of rfl ?_⟩⟩))))))))
      refine WT.or (WT.not (WT.valB (WE.call0 (WA.cons (WE.varW (T := mendT K a.c_Mend Bo) rfl (fun h => off_weak (off_weak h)) (WA.cons (WE.varW (T := tyL (Bo.map tyI)) rfl (fun h => off_weak (off_weak h)) (WA.nil ⟨Bo, rfl, bx, fun o ho => ⟨_, ho, _, rfl, no_of rfl ?_⟩⟩))))))))
      refine WT.or (WT.not (WT.valB (WE.call0 (WA.cons (WE.varW (T := mendT K a.c_Mend D) rfl atT_ins (WA.cons (WE.varW (T := tyL (D.map tyI)) rfl (fun h => off_weak (off_weak h)) (WA.nil ⟨D, rfl, dx, fun o ho => ⟨_, ho, _, rfl, no_of rfl ?_⟩⟩))))))))
      refine WT.not (WT.valB (WE.call0 (WA.cons (WE.varW (T := mendT K a.c_Mend M) rfl (fun h => off_weak (off_weak h)) (WA.cons (WE.varW (T := tyL (M.map tyI)) rfl (fun h => off_weak (off_weak h)) (WA.nil ⟨M, rfl, mx, fun o ho => ⟨_, ho, _, rfl, mendM K a.c_Mend D, lent p 10 (mendM K a.c_Mend Z) [.bag 3 (k + 20 - 8 - 8 - 1 - 1), .is (tyL (xs.map tyI)), .is (tyL (us.map tyI)), .own (mendM K a.c_Mend D), .is (mendT K a.c_Mend M), .is (tyL (D.map tyI)), .is (tyL (M.map tyI)), .is (tyL (Z.map tyI)), .is (tyL (Bo.map tyI)), .no, .own (mendM K a.c_Mend Z), .is (mendT K a.c_Mend Bo), .no, .no], ?_, mendM K a.c_Mend Z, _, ?_, rfl, rfl⟩⟩)))))))
      · walk_at "th"
      · walk_at "th"
    -- ==, != beside other values
    refine WS.seq (WS.ifS (WT.good false (WT.lend (i := 3) rfl fun q => ?_) (no_of rfl (WS.next ?_))))
    · refine WT.or (WT.val (WE.op (WE.varW (T := mendT K a.c_Mend D) rfl atT_ins (WE.varW (T := tyL (D.map tyI)) rfl off_weak (r2_eqO (tyis_lst _) T.nf_L ⟨(D, .oth (tyL (D.map tyI)) (.type "list")), rfl, ⟨tyis_lst _, T.ki_L⟩, fun o ho => ⟨_, ho, _, rfl, _, rfl, no_of rfl ?_⟩⟩)))))
      refine WT.or (WT.val (WE.op (WE.varW (T := mendT K a.c_Mend D) rfl atT_ins (WE.fld (WE.varW (T := mendT K a.c_Mend D) rfl atT_ins ⟨_, _, _, rfl, T.cl_Mend, T.na_Mend_rows, rfl, r2_eqO (tyis_tup _) T.nf_U ⟨(D, .oth (tyT K (D.map tyI)) (.type "tuple")), rfl, ⟨tyis_tup _, T.ki_U⟩, fun o ho => ⟨_, ho, _, rfl, _, rfl, no_of rfl ?_⟩⟩⟩)))))
      refine WT.or (WT.val (WE.op (WE.varW (T := mendT K a.c_Mend D) rfl atT_ins (WE.frzO (WO.callN (WA.cons (WE.revL (WE.varW (T := tyL (xs.map tyI)) rfl off_weak ⟨_, rfl, WA.nil ⟨xs.reverse, by show [tyL (xs.map tyI).reverse] = [tyL (xs.reverse.map tyI)]; rw [List.map_reverse], by show xs.reverse.length ≤ 6; rw [List.length_reverse]; exact x1, ?_⟩⟩))))))))
      rintro _ rfl
      rw [dr]
      refine ⟨_, thw_O, r2_eqO (tyis_mend T D) T.nf_B ⟨(D, .mend D), rfl, trivial, fun o ho => ⟨_, ho, _, rfl, _, rfl, no_of (by show (!decide (D = D)) = false; simp) ?_⟩⟩⟩
      refine WT.val (WE.op (WE.frzO (WO.binN (WE.varW (T := mendT K a.c_Mend D) rfl atT_ins (WE.varW (T := mendT K a.c_Mend M) rfl off_weak ⟨_, _, rfl, rfl, (D, M), rfl, dlm, ?_⟩)))))
      rintro _ rfl
      refine ⟨_, thw_O, WE.frzO (WO.binN (WE.varW (T := mendT K a.c_Mend M) rfl off_weak (WE.varW (T := mendT K a.c_Mend D) rfl atT_ins ⟨_, _, rfl, rfl, (M, D), rfl, by show M.length + D.length < 64; omega, ?_⟩)))⟩
      rintro _ rfl
      rw [eC, hZ]
      refine ⟨_, thw_O, r2_eqO (tyis_mend T Z) T.nf_B ⟨(Z, .mend Z), rfl, trivial, fun o ho => ⟨_, ho, _, rfl, _, rfl, mendM K a.c_Mend D, _, ?_, by show (!decide (Z = Z)) = false; simp, rfl⟩⟩⟩
      walk_at "th"
    have eZN : srtI (Z ++ srtI []) = Z := by
      show srtI (Z ++ []) = Z
      rw [List.append_nil]
      exact srtI_self zp
    have eZZ : srtI (Z ++ Z) = Z := (srtI_congr fun q => by rw [List.mem_append, or_self]).trans (srtI_self zp)
    -- another name of one
    refine WS.nameO (i := 3) (S := .own _) rfl (.inl rfl) fun p => ?_
    refine WS.seq (WS.par (WA.cons (WE.varAt (S := .own _) rfl (.inl rfl) (WA.cons (WE.frzO (WO.lend (i := 3) rfl fun q => WO.binN (WE.varW (T := mendT K a.c_Mend D) rfl (fun h => atT_ins (atT_at h).1) (WE.frzO (WO.makeR0 (K := K) (WA.nil ⟨Nat.zero_le _, [], rfl, Nat.le_of_ble_eq_true rfl, fun o ho => ⟨_, ho, _, unf_mend, _, thw_O, _, _, rfl, rfl, (D, srtI []), rfl, by show D.length + 0 < 64; omega, ?_⟩⟩))))))))))
    rintro _ rfl
    rw [eN]
    refine ⟨mAt p (mendM K a.c_Mend D), [.bag 3 (k + 20 - 8 - 8 - 1 - 1), .is (tyL (xs.map tyI)), .is (tyL (us.map tyI)), .own (mAt p (mendM K a.c_Mend D)), .is (mendT K a.c_Mend M), .is (tyL (D.map tyI)), .is (tyL (M.map tyI)), .is (tyL (Z.map tyI)), .is (tyL (Bo.map tyI)), .no, .own (mendM K a.c_Mend Z), .is (mendT K a.c_Mend Bo), .no, .no], _, by walk_at "th", avdM_at avdM_mend, _, thw_O, WA.nil ⟨_, _, rfl, ?_⟩⟩
    refine WS.seq (WS.augA (k := 12) (i := 3) (p := p) rfl rfl (WE.var rfl ⟨_, rfl, rfl, (D, M), rfl, rfl, dlm, ?_⟩))
    rintro o ⟨p', rfl⟩
    refine ⟨p', _, rfl, ?_⟩
    rw [hZ]
    refine WS.norm [.bag 3 (k + 20 - 8 - 8 - 1 - 1), .is (tyL (xs.map tyI)), .is (tyL (us.map tyI)), .own (mAt p (mendM K a.c_Mend Z)), .is (mendT K a.c_Mend M), .is (tyL (D.map tyI)), .is (tyL (M.map tyI)), .is (tyL (Z.map tyI)), .is (tyL (Bo.map tyI)), .no, .own (mendM K a.c_Mend Z), .is (mendT K a.c_Mend Bo), .is (DL.tyV (.ref p)), .is (mendT K a.c_Mend D)] rfl ?_
    have al : ∀ {q : Addr} {v u : V} {B : Hp}, (atT q (mAt p (mendM K a.c_Mend Z))).ok v B → (off q (DL.tyV (.ref p))).ok u B → (tyP p (mendT K a.c_Mend Z)).ok u B := fun {q v u B} h1 h2 => by
      obtain ⟨h, e⟩ := atT_at h1
      subst e
      have hv : v = .ref q := h.1
      have hu : u = .ref q := h2
      refine ⟨hu, ?_⟩
      rw [hu, ← hv]
      exact atT_ins h
    have al2 : ∀ {q r : Addr} {v u : V} {B : Hp}, (atT q (mAt p (mendM K a.c_Mend Z))).ok v B → (off q (off r (DL.tyV (.ref p)))).ok u B → (tyP p (mendT K a.c_Mend Z)).ok u B := fun {q r v u B} h1 h2 => al h1 h2
    refine WS.seq (WS.ifS (WT.good false (WT.lend (i := 3) rfl fun q => WT.also (i := 3) (k := 12) (W := tyP p (mendT K a.c_Mend Z)) rfl rfl al ?_) (no_of rfl (WS.next ?_))))
    · refine WT.or (WT.not (WT.valB (WE.call0 (WA.cons (WE.varW (T := mendT K a.c_Mend Z) rfl (fun h => atT_ins (atT_at h).1) (WA.cons (WE.varW (T := tyL (Z.map tyI)) rfl off_weak (WA.nil ⟨Z, rfl, zx, fun o ho => ⟨_, ho, _, rfl, no_of rfl ?_⟩⟩))))))))
      refine WT.or (WT.not (WT.valB (WE.call0 (WA.cons (WE.varW (T := mendT K a.c_Mend Z) rfl (fun h => h.2) (WA.cons (WE.varW (T := tyL (Z.map tyI)) rfl off_weak (WA.nil ⟨Z, rfl, zx, fun o ho => ⟨_, ho, _, rfl, no_of rfl ?_⟩⟩))))))))
      refine WT.or (WT.not (WT.valB (WE.call0 (WA.cons (WE.varW (T := mendT K a.c_Mend M) rfl off_weak (WA.cons (WE.varW (T := tyL (M.map tyI)) rfl off_weak (WA.nil ⟨M, rfl, mx, fun o ho => ⟨_, ho, _, rfl, no_of rfl ?_⟩⟩))))))))
      refine WT.not (WT.valB (WE.call0 (WA.cons (WE.varW (T := mendT K a.c_Mend D) rfl off_weak (WA.cons (WE.varW (T := tyL (D.map tyI)) rfl off_weak (WA.nil ⟨D, rfl, dx, fun o ho => ⟨_, ho, _, rfl, mAt p (mendM K a.c_Mend Z), _, ?_, rfl, rfl⟩⟩)))))))
      walk_at "th"
    refine WS.seq (WS.ifS (WT.good false (WT.lend (i := 10) rfl fun r => WT.lend (i := 3) rfl fun q => WT.also (i := 3) (k := 12) (W := tyP p (mendT K a.c_Mend Z)) rfl rfl al2 ?_) (no_of rfl (WS.next ?_))))
    · refine WT.or (WT.not (WT.val (WE.op (WE.varW (T := mendT K a.c_Mend Z) rfl (fun h => h.2) (WE.varW (T := mendT K a.c_Mend Z) rfl (fun h => atT_ins (atT_at h).1) (r2_eqO (tyis_mend T Z) T.nf_B ⟨(Z, .mend Z), rfl, trivial, fun o ho => ⟨_, ho, _, rfl, _, rfl, no_of (by show (!decide (Z = Z)) = false; simp) ?_⟩⟩))))))
      refine WT.or (WT.val (WE.op (WE.varW (T := mendT K a.c_Mend Z) rfl (fun h => h.2) (WE.varW (T := mendT K a.c_Mend Z) rfl (fun h => atT_ins (off_weak h)) (r2_eqO (tyis_mend T Z) T.nf_B ⟨(Z, .mend Z), rfl, trivial, fun o ho => ⟨_, ho, _, rfl, _, rfl, no_of (by show (!decide (Z = Z)) = false; simp) ?_⟩⟩)))))
      refine WT.or (WT.not (WT.valB (WE.call0 (WA.cons (WE.varW (T := mendT K a.c_Mend Z) rfl (fun h => atT_ins (off_weak h)) (WA.cons (WE.varW (T := tyL (Z.map tyI)) rfl (fun h => off_weak (off_weak h)) (WA.nil ⟨Z, rfl, zx, fun o ho => ⟨_, ho, _, rfl, no_of rfl ?_⟩⟩))))))))
      refine WT.not (WT.valB (WE.call0 (WA.cons (WE.varW (T := mendT K a.c_Mend Bo) rfl (fun h => off_weak (off_weak h)) (WA.cons (WE.varW (T := tyL (Bo.map tyI)) rfl (fun h => off_weak (off_weak h)) (WA.nil ⟨Bo, rfl, bx, fun o ho => ⟨_, ho, _, rfl, mAt p (mendM K a.c_Mend Z), lent r 10 (mendM K a.c_Mend Z) [.bag 3 (k + 20 - 8 - 8 - 1 - 1), .is (tyL (xs.map tyI)), .is (tyL (us.map tyI)), .own (mAt p (mendM K a.c_Mend Z)), .is (mendT K a.c_Mend M), .is (tyL (D.map tyI)), .is (tyL (M.map tyI)), .is (tyL (Z.map tyI)), .is (tyL (Bo.map tyI)), .no, .own (mendM K a.c_Mend Z), .is (mendT K a.c_Mend Bo), .is (DL.tyV (.ref p)), .is (mendT K a.c_Mend D)], ?_, mendM K a.c_Mend Z, _, ?_, rfl, rfl⟩⟩)))))))
      · walk_at "th"
      · walk_at "th"
    refine WS.seq (WS.augP (k := 3) (p := p) rfl (WE.frzO (WO.lend (i := 3) rfl fun q => WO.binN (WE.varW (T := mendT K a.c_Mend Z) rfl (fun h => atT_ins (atT_at h).1) (WE.frzO (WO.makeR0 (K := K) (WA.nil ⟨Nat.zero_le _, [], rfl, Nat.le_of_ble_eq_true rfl, fun o ho => ⟨_, ho, _, unf_mend, _, thw_O, _, _, rfl, rfl, (Z, srtI []), rfl, by show Z.length + 0 < 64; omega, ?_⟩⟩)))))))
    rintro _ rfl
    rw [eZN]
    refine ⟨mAt p (mendM K a.c_Mend Z), [.bag 3 (k + 20 - 8 - 8 - 1 - 1), .is (tyL (xs.map tyI)), .is (tyL (us.map tyI)), .own (mAt p (mendM K a.c_Mend Z)), .is (mendT K a.c_Mend M), .is (tyL (D.map tyI)), .is (tyL (M.map tyI)), .is (tyL (Z.map tyI)), .is (tyL (Bo.map tyI)), .no, .own (mendM K a.c_Mend Z), .is (mendT K a.c_Mend Bo), .is (DL.tyV (.ref p)), .is (mendT K a.c_Mend D)], _, by walk_at "th", avdM_at avdM_mend, _, thw_O, _, rfl, (Z, Z), rfl, rfl, by show Z.length + Z.length < 64; omega, ?_⟩
    rintro o ⟨p', rfl⟩
    refine ⟨p', _, rfl, ?_⟩
    rw [eZZ]
    refine WS.norm [.bag 3 (k + 20 - 8 - 8 - 1 - 1), .is (tyL (xs.map tyI)), .is (tyL (us.map tyI)), .own (mAt p (mendM K a.c_Mend Z)), .is (mendT K a.c_Mend M), .is (tyL (D.map tyI)), .is (tyL (M.map tyI)), .is (tyL (Z.map tyI)), .is (tyL (Bo.map tyI)), .no, .own (mendM K a.c_Mend Z), .is (mendT K a.c_Mend Bo), .is (DL.tyV (.ref p)), .is (mendT K a.c_Mend D)] rfl ?_
    have z7 : (srtI (Z ++ srtI [7])).length ≤ 13 := Nat.le_trans (srtI_len _) (by
      rw [List.length_append]
      have : (srtI [(7 : Int)]).length = 1 := rfl
      omega)
    have zx7 : In21 (srtI (Z ++ srtI [7])) := by
      refine ⟨by omega, fun n hn => ?_⟩
      rcases List.mem_append.mp (mem_srtI.mp hn) with h | h
      · exact zx.2 n h
      · have := List.mem_singleton.mp (mem_srtI.mp h)
        omega
    refine WS.seq (WS.augO (k := 10) rfl (WE.frzO (WO.makeR0 (K := K) (WA.cons (WE.c (WA.nil ⟨Nat.le_of_ble_eq_true rfl, [7], rfl, Nat.le_of_ble_eq_true rfl, fun o ho => ⟨_, ho, _, unf_mend, _, thw_O, _, rfl, (Z, srtI [7]), rfl, rfl, by show Z.length + 1 < 64; omega, ?_⟩⟩))))))
    rintro o ⟨p', rfl⟩
    refine ⟨p', _, rfl, ?_⟩
    generalize hW : srtI (Z ++ srtI [7]) = W at *
    refine WS.norm [.bag 3 (k + 20 - 8 - 8 - 1 - 1), .is (tyL (xs.map tyI)), .is (tyL (us.map tyI)), .own (mAt p (mendM K a.c_Mend Z)), .is (mendT K a.c_Mend M), .is (tyL (D.map tyI)), .is (tyL (M.map tyI)), .is (tyL (Z.map tyI)), .is (tyL (Bo.map tyI)), .no, .own (mendM K a.c_Mend W), .is (mendT K a.c_Mend Bo), .is (DL.tyV (.ref p)), .is (mendT K a.c_Mend D)] rfl ?_
    refine WS.frzM (i := 3) rfl (thw_P thw_O) ?_
    refine WS.also (i := 3) (k := 12) (W := tyP p (mendT K a.c_Mend Z)) rfl rfl (fun {v u B} h1 h2 => ?_) ?_
    · have hv : v = .ref p := h1.1
      have hu : u = .ref p := h2
      refine ⟨hu, ?_⟩
      rw [hu, ← hv]
      exact h1.2
    refine WS.frzM (i := 10) rfl thw_O ?_
    have zi : (Z ++ [7]).length < 64 := by rw [List.length_append]; show Z.length + 1 < 64; omega
    refine WS.ret (WE.andV (WE.call0 (WA.cons (WE.varW (T := mendT K a.c_Mend Z) rfl (fun h => h.2) (WA.cons (WE.var rfl (WA.nil ⟨Z, rfl, zx, fun o ho => ⟨_, ho, _, rfl, nofun, fun _ => ?_⟩⟩)))))))
    refine WE.andV (WE.call0 (WA.cons (WE.var rfl (WA.cons (WE.cb (WA.cons (WE.cb (WA.cons (WE.op (WE.var rfl (WE.lst (WA.cons (WE.c (WA.nil ⟨Nat.le_of_ble_eq_true rfl, r2_cat ?_ ?_⟩))))))))))))))
    · rw [List.length_map, sizeLine_eq]
      show Z.length + 1 ≤ _
      omega
    rw [show Z.map tyI ++ [DL.tyV (V.int 7)] = (Z ++ [7]).map tyI by rw [List.map_append]; rfl]
    refine WA.nil (rc_setL zi (WA.nil (rc_sortedSI zi fun R r1 r2 => ?_)))
    have eR : R = W := by
      rw [← hW]
      exact srtI_of r1 fun q => (r2 q).trans (by rw [List.mem_append, List.mem_append, mem_srtI])
    subst eR
    refine WA.nil ⟨R, rfl, zx7, fun o ho => ⟨_, ho, _, rfl, nofun, fun _ => ?_⟩⟩
    exact WE.call0 (WA.cons (WE.varW (T := mendT K a.c_Mend Z) rfl (fun h => h.2) (WA.cons (WE.var rfl (WA.nil ⟨Z, rfl, zx, fun o ho => ⟨_, ho, ⟨_, rfl, by omega⟩, rfl⟩⟩)))))
end
end K51
set_option Elab.async false
set_option linter.all false
set_option maxRecDepth 100000
set_option maxHeartbeats 8000000
namespace K51
open PySem L2 Lx DL Fm
/-! ### the law -/
def spLaw (K : PySem.W.Frag) : Sp := fun vs H Q _ => ∃ (s : Addr) (ns : List Int), vs = [.ref s] ∧ SqL K H s (ns.map V.int) ∧ ns.length ≤ 63 ∧ ∀ H', Q (.bl true) H'
section
variable {P : Program} {w : World} {K : PySem.W.Frag} {mg : Str → Option Value} {base : Heap} {a : Ad}
theorem ok_law {f : Addr} {fd : FuncData} (F : Fun K "law" "law" s_law f fd) (T : Tx K mg a) : FnOk P w K mg base CX0 12 f fd ["script"] (spLaw K) := by
  have G__law_bag := ok_bag (P := P) (w := w) (base := base) T
  have G__law_is_right := ok_right (P := P) (w := w) (base := base) T
  refine F.ok sc_law (fun vs H Q E h => ?_) (fun cdv A outer s H vs Q E hr h => ?_)
  · obtain ⟨_, _, rfl, _⟩ := h
    rfl
  · obtain ⟨sc, ns, rfl, hs, hl, k⟩ := h
    refine ⟨_, (pss_cons (ps_for PassesOwn.never rfl (pi_range1 (by rfl) T.z_range (pa_cons (pe_callB (call_max2 rfl) (by rfl) T.z_max (by decide +kernel) (pa_cons pe_int (pa_cons (pe_callB (call_min2 rfl) (by rfl) T.z_min (by decide +kernel) (pa_cons pe_int (pa_cons (pe_callB call_len_seq (by rfl) T.z_len (by decide +kernel) (pa_cons (pv 0) pa_nil)) pa_nil))) pa_nil))) pa_nil)) (pg_name (i := 1) sc_law.nd rfl (Or.inl rfl))
  (pss_one (ps_if (pt_not (pt_val (pe_call G__law_is_right (hr.mono (by decide)) (by rfl) T.mg__law_is_right T.kp__law_is_right T.b__law_is_right .nil pass0 (pa_cons (pe_call G__law_bag (hr.mono (by decide)) (by rfl) T.mg__law_bag T.kp__law_bag T.b__law_bag .nil pass0 (pa_cons (pv 0) (pa_cons (pv 1) pa_nil))) pa_nil))))
  (pss_one (ps_ret pe_bl))
  pss_nil)))
  (pss_one (ps_ret pe_bl))), ?_⟩
    refine ⟨_, rfl, sc, _, rfl, .inl hs, _, _, rfl, _, _, rfl, _, rfl, ?_, ?_, for_it walk_range (fun i σ H' => Same H H' ∧ ∃ v1, σ = [some (.ref sc), v1]) ⟨fun _ _ e => e, _, rfl⟩ (fun _ _ _ _ _ => trivial) ?_ ?_⟩
    · split <;> split <;> omega
    · split <;> split <;> omega
    · rintro i x σ Hi0 Hi hi ⟨si, v1, rfl⟩ ⟨rfl, rfl⟩
      have hi4 : (i : Int) < 3 ∨ (i : Int) < 1 := by
        revert hi
        split <;> split <;> omega
      refine ⟨_, rfl, _, rfl, sc, _, ns, rfl, by omega, by omega, Same.seq si hs, fun b H1 nb s1 hb1 => ?_⟩
      obtain ⟨o, ho, hg⟩ := hb1
      have hg : BagOk 3 (999980 + 20) o := hg
      refine ⟨(), Hi, b, [], 999980, o, rfl, s1, ho, nb, hg, trivial, trivial, fun r hr => ?_⟩
      have hr : r = .ret (tyB true) := hr
      subst hr
      intro v B' H' o' e hb gb ok
      obtain rfl : v = V.bl true := ok
      exact ⟨true, rfl, if_false_of rfl ⟨si.trans (e.bb.trans e.bh), _, rfl⟩⟩
    · rintro σ H1 ⟨_, v1, rfl⟩
      exact k _
end
end K51
set_option Elab.async false
set_option linter.all false
set_option maxRecDepth 100000
set_option maxHeartbeats 16000000
namespace K51
open PySem L2 Lx DL Fm
/-! ### the end -/
theorem all_mk {l : PySem.W.OpenLaw} {w : World} {K : PySem.W.Frag} {h : Heap} {mg : Str → Option Value} {fa c_Mend a_is_integer a_MendU_initU a_MendU_lenU a_MendU_boolU a_MendU_containsU a_MendU_orU a_MendU_iorU a_MendU_andU a_MendU_eqU a_MendU_strU a__law_bag a__law_draw a__law_one a__law_made a__law_drawn a__law_is a__law_is_right a_law : Addr} (X : K.In h) (G : h.Ns mainGlobals mg) (hfa : mg "law" = some (.ref fa))
    {od_is_integer an_is_integer od_MendU_initU an_MendU_initU od_MendU_lenU an_MendU_lenU od_MendU_boolU an_MendU_boolU od_MendU_containsU an_MendU_containsU od_MendU_orU an_MendU_orU od_MendU_iorU an_MendU_iorU od_MendU_andU an_MendU_andU od_MendU_eqU an_MendU_eqU od_MendU_strU an_MendU_strU od__law_bag an__law_bag od__law_draw an__law_draw od__law_one an__law_one od__law_made an__law_made od__law_drawn an__law_drawn od__law_is an__law_is od__law_is_right an__law_is_right od_law an_law : Option Addr} {sl_is_integer sl_MendU_initU sl_MendU_lenU sl_MendU_boolU sl_MendU_containsU sl_MendU_orU sl_MendU_iorU sl_MendU_andU sl_MendU_eqU sl_MendU_strU sl__law_bag sl__law_draw sl__law_one sl__law_made sl__law_drawn sl__law_is sl__law_is_right sl_law : Array (Option Value)} {oc_is_integer kV_is_integer dc_is_integer pm_is_integer cd_is_integer ct_is_integer oc_MendU_initU kV_MendU_initU dc_MendU_initU pm_MendU_initU cd_MendU_initU ct_MendU_initU oc_MendU_lenU kV_MendU_lenU dc_MendU_lenU pm_MendU_lenU cd_MendU_lenU ct_MendU_lenU oc_MendU_boolU kV_MendU_boolU dc_MendU_boolU pm_MendU_boolU cd_MendU_boolU ct_MendU_boolU oc_MendU_containsU kV_MendU_containsU dc_MendU_containsU pm_MendU_containsU cd_MendU_containsU ct_MendU_containsU oc_MendU_orU kV_MendU_orU dc_MendU_orU pm_MendU_orU cd_MendU_orU ct_MendU_orU oc_MendU_iorU kV_MendU_iorU dc_MendU_iorU pm_MendU_iorU cd_MendU_iorU ct_MendU_iorU oc_MendU_andU kV_MendU_andU dc_MendU_andU pm_MendU_andU cd_MendU_andU ct_MendU_andU oc_MendU_eqU kV_MendU_eqU dc_MendU_eqU pm_MendU_eqU cd_MendU_eqU ct_MendU_eqU oc_MendU_strU kV_MendU_strU dc_MendU_strU pm_MendU_strU cd_MendU_strU ct_MendU_strU oc__law_bag kV__law_bag dc__law_bag pm__law_bag cd__law_bag ct__law_bag oc__law_draw kV__law_draw dc__law_draw pm__law_draw cd__law_draw ct__law_draw oc__law_one kV__law_one dc__law_one pm__law_one cd__law_one ct__law_one oc__law_made kV__law_made dc__law_made pm__law_made cd__law_made ct__law_made oc__law_drawn kV__law_drawn dc__law_drawn pm__law_drawn cd__law_drawn ct__law_drawn oc__law_is kV__law_is dc__law_is pm__law_is cd__law_is ct__law_is oc__law_is_right kV__law_is_right dc__law_is_right pm__law_is_right cd__law_is_right ct__law_is_right oc_law kV_law dc_law pm_law cd_law ct_law : Value}
    (g_Mend : PySem.W.nsIn K mainGlobals "Mend" = some (some (.ref c_Mend)))
    (pg_Mend : PySem.W.plainGet K c_Mend Str.empty = true)
    (hd_Mend : PySem.W.hasDictIn K c_Mend = true)
    (po_Mend : PySem.W.plainOver K c_Mend = true)
    (sa_Mend : PySem.W.findIn K (.ref c_Mend) "__setattr__" = some (some (.builtin "object.__setattr__")))
    (ms_Mend : PySem.W.makesIn K c_Mend = true)
    (kc_Mend : PySem.W.keepIn K (.ref c_Mend) = true)
    (na_Mend_rows : PySem.W.findIn K (.ref c_Mend) "rows" = some none)
    (at_is_integer : PySem.W.nsIn K mainGlobals "is_integer" = some (some (.ref a_is_integer)))
    (l_is_integer : K.lookup a_is_integer = some ⟨oc_is_integer, od_is_integer, .func (PySem.W.fnOf "is_integer" "is_integer" (defArgs s_is_integer) (defBody s_is_integer) (defScope s_is_integer) .none kV_is_integer dc_is_integer pm_is_integer an_is_integer cd_is_integer ct_is_integer), sl_is_integer⟩)
    (q_is_integer : PySem.W.codeIn K cd_is_integer "is_integer" = true)
    (k_is_integer : PySem.W.keepIn K (.ref a_is_integer) = true)
    (at_MendU_initU : PySem.W.findIn K (.ref c_Mend) "__init__" = some (some (.ref a_MendU_initU)))
    (fn_MendU_initU : PySem.W.isFn K (.ref a_MendU_initU) = true)
    (l_MendU_initU : K.lookup a_MendU_initU = some ⟨oc_MendU_initU, od_MendU_initU, .func (PySem.W.fnOf "__init__" "Mend.__init__" (defArgs s_MendU_initU) (defBody s_MendU_initU) (defScope s_MendU_initU) .none kV_MendU_initU dc_MendU_initU pm_MendU_initU an_MendU_initU cd_MendU_initU ct_MendU_initU), sl_MendU_initU⟩)
    (q_MendU_initU : PySem.W.codeIn K cd_MendU_initU "Mend.__init__" = true)
    (k_MendU_initU : PySem.W.keepIn K (.ref a_MendU_initU) = true)
    (at_MendU_lenU : PySem.W.findIn K (.ref c_Mend) "__len__" = some (some (.ref a_MendU_lenU)))
    (fn_MendU_lenU : PySem.W.isFn K (.ref a_MendU_lenU) = true)
    (l_MendU_lenU : K.lookup a_MendU_lenU = some ⟨oc_MendU_lenU, od_MendU_lenU, .func (PySem.W.fnOf "__len__" "Mend.__len__" (defArgs s_MendU_lenU) (defBody s_MendU_lenU) (defScope s_MendU_lenU) .none kV_MendU_lenU dc_MendU_lenU pm_MendU_lenU an_MendU_lenU cd_MendU_lenU ct_MendU_lenU), sl_MendU_lenU⟩)
    (q_MendU_lenU : PySem.W.codeIn K cd_MendU_lenU "Mend.__len__" = true)
    (k_MendU_lenU : PySem.W.keepIn K (.ref a_MendU_lenU) = true)
    (at_MendU_boolU : PySem.W.findIn K (.ref c_Mend) "__bool__" = some (some (.ref a_MendU_boolU)))
    (fn_MendU_boolU : PySem.W.isFn K (.ref a_MendU_boolU) = true)
    (l_MendU_boolU : K.lookup a_MendU_boolU = some ⟨oc_MendU_boolU, od_MendU_boolU, .func (PySem.W.fnOf "__bool__" "Mend.__bool__" (defArgs s_MendU_boolU) (defBody s_MendU_boolU) (defScope s_MendU_boolU) .none kV_MendU_boolU dc_MendU_boolU pm_MendU_boolU an_MendU_boolU cd_MendU_boolU ct_MendU_boolU), sl_MendU_boolU⟩)
    (q_MendU_boolU : PySem.W.codeIn K cd_MendU_boolU "Mend.__bool__" = true)
    (k_MendU_boolU : PySem.W.keepIn K (.ref a_MendU_boolU) = true)
    (at_MendU_containsU : PySem.W.findIn K (.ref c_Mend) "__contains__" = some (some (.ref a_MendU_containsU)))
    (fn_MendU_containsU : PySem.W.isFn K (.ref a_MendU_containsU) = true)
    (l_MendU_containsU : K.lookup a_MendU_containsU = some ⟨oc_MendU_containsU, od_MendU_containsU, .func (PySem.W.fnOf "__contains__" "Mend.__contains__" (defArgs s_MendU_containsU) (defBody s_MendU_containsU) (defScope s_MendU_containsU) .none kV_MendU_containsU dc_MendU_containsU pm_MendU_containsU an_MendU_containsU cd_MendU_containsU ct_MendU_containsU), sl_MendU_containsU⟩)
    (q_MendU_containsU : PySem.W.codeIn K cd_MendU_containsU "Mend.__contains__" = true)
    (k_MendU_containsU : PySem.W.keepIn K (.ref a_MendU_containsU) = true)
    (at_MendU_orU : PySem.W.findIn K (.ref c_Mend) "__or__" = some (some (.ref a_MendU_orU)))
    (fn_MendU_orU : PySem.W.isFn K (.ref a_MendU_orU) = true)
    (l_MendU_orU : K.lookup a_MendU_orU = some ⟨oc_MendU_orU, od_MendU_orU, .func (PySem.W.fnOf "__or__" "Mend.__or__" (defArgs s_MendU_orU) (defBody s_MendU_orU) (defScope s_MendU_orU) .none kV_MendU_orU dc_MendU_orU pm_MendU_orU an_MendU_orU cd_MendU_orU ct_MendU_orU), sl_MendU_orU⟩)
    (q_MendU_orU : PySem.W.codeIn K cd_MendU_orU "Mend.__or__" = true)
    (k_MendU_orU : PySem.W.keepIn K (.ref a_MendU_orU) = true)
    (at_MendU_iorU : PySem.W.findIn K (.ref c_Mend) "__ior__" = some (some (.ref a_MendU_iorU)))
    (fn_MendU_iorU : PySem.W.isFn K (.ref a_MendU_iorU) = true)
    (l_MendU_iorU : K.lookup a_MendU_iorU = some ⟨oc_MendU_iorU, od_MendU_iorU, .func (PySem.W.fnOf "__ior__" "Mend.__ior__" (defArgs s_MendU_iorU) (defBody s_MendU_iorU) (defScope s_MendU_iorU) .none kV_MendU_iorU dc_MendU_iorU pm_MendU_iorU an_MendU_iorU cd_MendU_iorU ct_MendU_iorU), sl_MendU_iorU⟩)
    (q_MendU_iorU : PySem.W.codeIn K cd_MendU_iorU "Mend.__ior__" = true)
    (k_MendU_iorU : PySem.W.keepIn K (.ref a_MendU_iorU) = true)
    (at_MendU_andU : PySem.W.findIn K (.ref c_Mend) "__and__" = some (some (.ref a_MendU_andU)))
    (fn_MendU_andU : PySem.W.isFn K (.ref a_MendU_andU) = true)
    (l_MendU_andU : K.lookup a_MendU_andU = some ⟨oc_MendU_andU, od_MendU_andU, .func (PySem.W.fnOf "__and__" "Mend.__and__" (defArgs s_MendU_andU) (defBody s_MendU_andU) (defScope s_MendU_andU) .none kV_MendU_andU dc_MendU_andU pm_MendU_andU an_MendU_andU cd_MendU_andU ct_MendU_andU), sl_MendU_andU⟩)
    (q_MendU_andU : PySem.W.codeIn K cd_MendU_andU "Mend.__and__" = true)
    (k_MendU_andU : PySem.W.keepIn K (.ref a_MendU_andU) = true)
    (at_MendU_eqU : PySem.W.findIn K (.ref c_Mend) "__eq__" = some (some (.ref a_MendU_eqU)))
    (fn_MendU_eqU : PySem.W.isFn K (.ref a_MendU_eqU) = true)
    (l_MendU_eqU : K.lookup a_MendU_eqU = some ⟨oc_MendU_eqU, od_MendU_eqU, .func (PySem.W.fnOf "__eq__" "Mend.__eq__" (defArgs s_MendU_eqU) (defBody s_MendU_eqU) (defScope s_MendU_eqU) .none kV_MendU_eqU dc_MendU_eqU pm_MendU_eqU an_MendU_eqU cd_MendU_eqU ct_MendU_eqU), sl_MendU_eqU⟩)
    (q_MendU_eqU : PySem.W.codeIn K cd_MendU_eqU "Mend.__eq__" = true)
    (k_MendU_eqU : PySem.W.keepIn K (.ref a_MendU_eqU) = true)
    (at_MendU_strU : PySem.W.findIn K (.ref c_Mend) "__str__" = some (some (.ref a_MendU_strU)))
    (fn_MendU_strU : PySem.W.isFn K (.ref a_MendU_strU) = true)
    (l_MendU_strU : K.lookup a_MendU_strU = some ⟨oc_MendU_strU, od_MendU_strU, .func (PySem.W.fnOf "__str__" "Mend.__str__" (defArgs s_MendU_strU) (defBody s_MendU_strU) (defScope s_MendU_strU) .none kV_MendU_strU dc_MendU_strU pm_MendU_strU an_MendU_strU cd_MendU_strU ct_MendU_strU), sl_MendU_strU⟩)
    (q_MendU_strU : PySem.W.codeIn K cd_MendU_strU "Mend.__str__" = true)
    (k_MendU_strU : PySem.W.keepIn K (.ref a_MendU_strU) = true)
    (at__law_bag : PySem.W.nsIn K mainGlobals "_law_bag" = some (some (.ref a__law_bag)))
    (l__law_bag : K.lookup a__law_bag = some ⟨oc__law_bag, od__law_bag, .func (PySem.W.fnOf "_law_bag" "_law_bag" (defArgs s__law_bag) (defBody s__law_bag) (defScope s__law_bag) .none kV__law_bag dc__law_bag pm__law_bag an__law_bag cd__law_bag ct__law_bag), sl__law_bag⟩)
    (q__law_bag : PySem.W.codeIn K cd__law_bag "_law_bag" = true)
    (k__law_bag : PySem.W.keepIn K (.ref a__law_bag) = true)
    (at__law_draw : PySem.W.nsIn K mainGlobals "_law_draw" = some (some (.ref a__law_draw)))
    (l__law_draw : K.lookup a__law_draw = some ⟨oc__law_draw, od__law_draw, .func (PySem.W.fnOf "_law_draw" "_law_draw" (defArgs s__law_draw) (defBody s__law_draw) (defScope s__law_draw) .none kV__law_draw dc__law_draw pm__law_draw an__law_draw cd__law_draw ct__law_draw), sl__law_draw⟩)
    (q__law_draw : PySem.W.codeIn K cd__law_draw "_law_draw" = true)
    (k__law_draw : PySem.W.keepIn K (.ref a__law_draw) = true)
    (at__law_one : PySem.W.nsIn K mainGlobals "_law_one" = some (some (.ref a__law_one)))
    (l__law_one : K.lookup a__law_one = some ⟨oc__law_one, od__law_one, .func (PySem.W.fnOf "_law_one" "_law_one" (defArgs s__law_one) (defBody s__law_one) (defScope s__law_one) .none kV__law_one dc__law_one pm__law_one an__law_one cd__law_one ct__law_one), sl__law_one⟩)
    (q__law_one : PySem.W.codeIn K cd__law_one "_law_one" = true)
    (k__law_one : PySem.W.keepIn K (.ref a__law_one) = true)
    (at__law_made : PySem.W.nsIn K mainGlobals "_law_made" = some (some (.ref a__law_made)))
    (l__law_made : K.lookup a__law_made = some ⟨oc__law_made, od__law_made, .func (PySem.W.fnOf "_law_made" "_law_made" (defArgs s__law_made) (defBody s__law_made) (defScope s__law_made) .none kV__law_made dc__law_made pm__law_made an__law_made cd__law_made ct__law_made), sl__law_made⟩)
    (q__law_made : PySem.W.codeIn K cd__law_made "_law_made" = true)
    (k__law_made : PySem.W.keepIn K (.ref a__law_made) = true)
    (at__law_drawn : PySem.W.nsIn K mainGlobals "_law_drawn" = some (some (.ref a__law_drawn)))
    (l__law_drawn : K.lookup a__law_drawn = some ⟨oc__law_drawn, od__law_drawn, .func (PySem.W.fnOf "_law_drawn" "_law_drawn" (defArgs s__law_drawn) (defBody s__law_drawn) (defScope s__law_drawn) .none kV__law_drawn dc__law_drawn pm__law_drawn an__law_drawn cd__law_drawn ct__law_drawn), sl__law_drawn⟩)
    (q__law_drawn : PySem.W.codeIn K cd__law_drawn "_law_drawn" = true)
    (k__law_drawn : PySem.W.keepIn K (.ref a__law_drawn) = true)
    (at__law_is : PySem.W.nsIn K mainGlobals "_law_is" = some (some (.ref a__law_is)))
    (l__law_is : K.lookup a__law_is = some ⟨oc__law_is, od__law_is, .func (PySem.W.fnOf "_law_is" "_law_is" (defArgs s__law_is) (defBody s__law_is) (defScope s__law_is) .none kV__law_is dc__law_is pm__law_is an__law_is cd__law_is ct__law_is), sl__law_is⟩)
    (q__law_is : PySem.W.codeIn K cd__law_is "_law_is" = true)
    (k__law_is : PySem.W.keepIn K (.ref a__law_is) = true)
    (at__law_is_right : PySem.W.nsIn K mainGlobals "_law_is_right" = some (some (.ref a__law_is_right)))
    (l__law_is_right : K.lookup a__law_is_right = some ⟨oc__law_is_right, od__law_is_right, .func (PySem.W.fnOf "_law_is_right" "_law_is_right" (defArgs s__law_is_right) (defBody s__law_is_right) (defScope s__law_is_right) .none kV__law_is_right dc__law_is_right pm__law_is_right an__law_is_right cd__law_is_right ct__law_is_right), sl__law_is_right⟩)
    (q__law_is_right : PySem.W.codeIn K cd__law_is_right "_law_is_right" = true)
    (k__law_is_right : PySem.W.keepIn K (.ref a__law_is_right) = true)
    (at_law : PySem.W.nsIn K mainGlobals "law" = some (some (.ref a_law)))
    (l_law : K.lookup a_law = some ⟨oc_law, od_law, .func (PySem.W.fnOf "law" "law" (defArgs s_law) (defBody s_law) (defScope s_law) .none kV_law dc_law pm_law an_law cd_law ct_law), sl_law⟩)
    (q_law : PySem.W.codeIn K cd_law "law" = true)
    (k_law : PySem.W.keepIn K (.ref a_law) = true)
    (z_abs : PySem.W.nsIn K mainGlobals "abs" = some none)
    (z_bool : PySem.W.nsIn K mainGlobals "bool" = some none)
    (z_int : PySem.W.nsIn K mainGlobals "int" = some none)
    (z_isinstance : PySem.W.nsIn K mainGlobals "isinstance" = some none)
    (z_len : PySem.W.nsIn K mainGlobals "len" = some none)
    (z_list : PySem.W.nsIn K mainGlobals "list" = some none)
    (z_max : PySem.W.nsIn K mainGlobals "max" = some none)
    (z_min : PySem.W.nsIn K mainGlobals "min" = some none)
    (z_range : PySem.W.nsIn K mainGlobals "range" = some none)
    (z_set : PySem.W.nsIn K mainGlobals "set" = some none)
    (z_sorted : PySem.W.nsIn K mainGlobals "sorted" = some none)
    (z_str : PySem.W.nsIn K mainGlobals "str" = some none)
    (z_tuple : PySem.W.nsIn K mainGlobals "tuple" = some none)
    (pf : PFile l.prog "/claim/cut.py")
    (h_ne1 : PySem.W.findIn K (.ref c_Mend) "__ne__" = some (some (.builtin "object.__ne__")))
    (h_ne2 : PySem.W.mroIn K c_Mend (.type "object") = some true)
    (h_sf : PySem.W.selfFirst K c_Mend = true)
    (h_ci_at : PySem.W.findIn K (.ref c_Mend) "__class__" = some (some (.builtin "object.__class__")))
    (h_ci_get : PySem.W.specialIn K (.builtin "object.__class__") "__get__" = some (some (.builtin "getset_descriptor.__get__")))
    (h_ci_tk : PySem.W.takesIn K (.builtin "object.__class__") = some true)
    (h_nf_B : PySem.W.notFirst K c_Mend (.ref c_Mend) = true)
    (h_nf_L : PySem.W.notFirst K c_Mend (.type "list") = true)
    (h_nf_U : PySem.W.notFirst K c_Mend (.type "tuple") = true)
    (h_ki_B : PySem.W.kitOne K (.ref c_Mend) (.ref c_Mend) = some true)
    (h_ki_L : PySem.W.kitOne K (.type "list") (.ref c_Mend) = some false)
    (h_ki_U : PySem.W.kitOne K (.type "tuple") (.ref c_Mend) = some false) :
    ∃ fd : FuncData, (∀ (s : Shared) (v : Value), BindsTo s fd ⟨[v], []⟩ [("script", v)]) ∧ ∀ base : Heap, K.In base → base.Ns mainGlobals mg → FnOk l.prog w K mg base CX0 12 fa fd ["script"] (spLaw K) := by
  have e := hfa.symm.trans (PySem.W.mg_of X G at_law)
  cases e
  have T : Tx K mg ⟨c_Mend, a_is_integer, a_MendU_initU, a_MendU_lenU, a_MendU_boolU, a_MendU_containsU, a_MendU_orU, a_MendU_iorU, a_MendU_andU, a_MendU_eqU, a_MendU_strU, a__law_bag, a__law_draw, a__law_one, a__law_made, a__law_drawn, a__law_is, a__law_is_right, _, _, _, _, _, _, _, _, _, _, _, _, _, _, _, _, _⟩ := {
    mg_Mend := PySem.W.mg_of X G g_Mend,
    cl_Mend := ⟨pg_Mend, hd_Mend, po_Mend, sa_Mend⟩,
    mk_Mend := ⟨ms_Mend, at_MendU_initU, fn_MendU_initU, kc_Mend⟩,
    na_Mend_rows := na_Mend_rows,
    mg_is_integer := PySem.W.mg_of X G at_is_integer,
    F_is_integer := fun_mk (st := s_is_integer) l_is_integer q_is_integer k_is_integer,
    at_MendU_initU := at_MendU_initU,
    fn_MendU_initU := fn_MendU_initU,
    F_MendU_initU := fun_mk (st := s_MendU_initU) l_MendU_initU q_MendU_initU k_MendU_initU,
    at_MendU_lenU := at_MendU_lenU,
    fn_MendU_lenU := fn_MendU_lenU,
    F_MendU_lenU := fun_mk (st := s_MendU_lenU) l_MendU_lenU q_MendU_lenU k_MendU_lenU,
    at_MendU_boolU := at_MendU_boolU,
    fn_MendU_boolU := fn_MendU_boolU,
    F_MendU_boolU := fun_mk (st := s_MendU_boolU) l_MendU_boolU q_MendU_boolU k_MendU_boolU,
    at_MendU_containsU := at_MendU_containsU,
    fn_MendU_containsU := fn_MendU_containsU,
    F_MendU_containsU := fun_mk (st := s_MendU_containsU) l_MendU_containsU q_MendU_containsU k_MendU_containsU,
    at_MendU_orU := at_MendU_orU,
    fn_MendU_orU := fn_MendU_orU,
    F_MendU_orU := fun_mk (st := s_MendU_orU) l_MendU_orU q_MendU_orU k_MendU_orU,
    at_MendU_iorU := at_MendU_iorU,
    fn_MendU_iorU := fn_MendU_iorU,
    F_MendU_iorU := fun_mk (st := s_MendU_iorU) l_MendU_iorU q_MendU_iorU k_MendU_iorU,
    at_MendU_andU := at_MendU_andU,
    fn_MendU_andU := fn_MendU_andU,
    F_MendU_andU := fun_mk (st := s_MendU_andU) l_MendU_andU q_MendU_andU k_MendU_andU,
    at_MendU_eqU := at_MendU_eqU,
    fn_MendU_eqU := fn_MendU_eqU,
    F_MendU_eqU := fun_mk (st := s_MendU_eqU) l_MendU_eqU q_MendU_eqU k_MendU_eqU,
    at_MendU_strU := at_MendU_strU,
    fn_MendU_strU := fn_MendU_strU,
    F_MendU_strU := fun_mk (st := s_MendU_strU) l_MendU_strU q_MendU_strU k_MendU_strU,
    mg__law_bag := PySem.W.mg_of X G at__law_bag,
    F__law_bag := fun_mk (st := s__law_bag) l__law_bag q__law_bag k__law_bag,
    mg__law_draw := PySem.W.mg_of X G at__law_draw,
    F__law_draw := fun_mk (st := s__law_draw) l__law_draw q__law_draw k__law_draw,
    mg__law_one := PySem.W.mg_of X G at__law_one,
    F__law_one := fun_mk (st := s__law_one) l__law_one q__law_one k__law_one,
    mg__law_made := PySem.W.mg_of X G at__law_made,
    F__law_made := fun_mk (st := s__law_made) l__law_made q__law_made k__law_made,
    mg__law_drawn := PySem.W.mg_of X G at__law_drawn,
    F__law_drawn := fun_mk (st := s__law_drawn) l__law_drawn q__law_drawn k__law_drawn,
    mg__law_is := PySem.W.mg_of X G at__law_is,
    F__law_is := fun_mk (st := s__law_is) l__law_is q__law_is k__law_is,
    mg__law_is_right := PySem.W.mg_of X G at__law_is_right,
    F__law_is_right := fun_mk (st := s__law_is_right) l__law_is_right q__law_is_right k__law_is_right,
    z_abs := PySem.W.mg_none_of X G z_abs,
    z_bool := PySem.W.mg_none_of X G z_bool,
    z_int := PySem.W.mg_none_of X G z_int,
    z_isinstance := PySem.W.mg_none_of X G z_isinstance,
    z_len := PySem.W.mg_none_of X G z_len,
    z_list := PySem.W.mg_none_of X G z_list,
    z_max := PySem.W.mg_none_of X G z_max,
    z_min := PySem.W.mg_none_of X G z_min,
    z_range := PySem.W.mg_none_of X G z_range,
    z_set := PySem.W.mg_none_of X G z_set,
    z_sorted := PySem.W.mg_none_of X G z_sorted,
    z_str := PySem.W.mg_none_of X G z_str,
    z_tuple := PySem.W.mg_none_of X G z_tuple,
    nec := ⟨h_ne1, h_ne2⟩,
    sf := h_sf,
    ci_at := h_ci_at,
    ci_get := h_ci_get,
    ci_tk := h_ci_tk,
    nf_B := h_nf_B,
    nf_L := h_nf_L,
    nf_U := h_nf_U,
    ki_B := h_ki_B,
    ki_L := h_ki_L,
    ki_U := h_ki_U }
  exact ⟨PySem.W.fnOf "law" "law" (defArgs s_law) (defBody s_law) (defScope s_law) .none kV_law dc_law pm_law an_law cd_law ct_law, fun s v => .of_eq rfl, fun base _ _ =>
    ok_law (fun_mk (st := s_law) l_law q_law k_law) T⟩
theorem walk {l : PySem.W.OpenLaw} {q : Program} {loose : List Str} {XP : (Str → Option Value) → Heap → Prop} {YP : World → Heap → Prop} {d : DefRec} {K : Params → PySem.W.Frag} (hn : l.most = some 63) (hdf : d.params.defaults = [])
    (hY : ∀ (w : World) (h : Heap), YP w h → (K w.params).In h)
    (F : ∀ (w : World) (mg : Str → Option Value) (fa : Addr) (h : Heap), (K w.params).In h → h.Ns mainGlobals mg → mg d.name = some (.ref fa) →
      ∃ fd : FuncData, (∀ (s : Shared) (u : Value), BindsTo s fd ⟨[u], []⟩ [("script", u)]) ∧ ∀ base : Heap, (K w.params).In base → base.Ns mainGlobals mg → FnOk l.prog w (K w.params) mg base CX0 12 fa fd ["script"] (spLaw (K w.params))) :
    PySem.W.WalkO q loose XP YP l.row.toRowW d [] (fun f vs => PySem.call f vs) :=
  L2.walk_of (n := 63) (k := 12) (x := "script") (CX := fun _ => CX0) (sp := fun w => spLaw (K w.params)) hn (by decide) hdf ⟨rfl, by decide, by decide⟩ hY F (fun _ _ a ns hl _ hS => ⟨a, ns, rfl, hS, hl, fun _ => rfl⟩) fun _ _ _ _ _ z => z
end K51

open PySem PySem.W PyProof.Rows in
set_option maxRecDepth 100000 in
set_option maxHeartbeats 0 in
theorem PySem.Challenge.cw_latequestions_k51_mends_as_sets_holds : PySem.Challenge.rw_latequestions_k51_mends_as_sets.Holds := by
  w_on; o_law; k_head; (case hw => w_witness2)
  k_fill
  refine K51.walk (l := PySem.Challenge.rw_latequestions_k51_mends_as_sets) rfl rfl (fun w h Y => PySem.W.kIn_of Y) ?F
  case F =>
    intro w mg fa h KX G hmg
    refine' K51.all_mk KX G hmg ?g_Mend ?pg_Mend ?hd_Mend ?po_Mend ?sa_Mend ?ms_Mend ?kc_Mend ?na_Mend_rows ?at_is_integer ?l_is_integer ?q_is_integer ?k_is_integer ?at_MendU_initU ?fn_MendU_initU ?l_MendU_initU ?q_MendU_initU ?k_MendU_initU ?at_MendU_lenU ?fn_MendU_lenU ?l_MendU_lenU ?q_MendU_lenU ?k_MendU_lenU ?at_MendU_boolU ?fn_MendU_boolU ?l_MendU_boolU ?q_MendU_boolU ?k_MendU_boolU ?at_MendU_containsU ?fn_MendU_containsU ?l_MendU_containsU ?q_MendU_containsU ?k_MendU_containsU ?at_MendU_orU ?fn_MendU_orU ?l_MendU_orU ?q_MendU_orU ?k_MendU_orU ?at_MendU_iorU ?fn_MendU_iorU ?l_MendU_iorU ?q_MendU_iorU ?k_MendU_iorU ?at_MendU_andU ?fn_MendU_andU ?l_MendU_andU ?q_MendU_andU ?k_MendU_andU ?at_MendU_eqU ?fn_MendU_eqU ?l_MendU_eqU ?q_MendU_eqU ?k_MendU_eqU ?at_MendU_strU ?fn_MendU_strU ?l_MendU_strU ?q_MendU_strU ?k_MendU_strU ?at__law_bag ?l__law_bag ?q__law_bag ?k__law_bag ?at__law_draw ?l__law_draw ?q__law_draw ?k__law_draw ?at__law_one ?l__law_one ?q__law_one ?k__law_one ?at__law_made ?l__law_made ?q__law_made ?k__law_made ?at__law_drawn ?l__law_drawn ?q__law_drawn ?k__law_drawn ?at__law_is ?l__law_is ?q__law_is ?k__law_is ?at__law_is_right ?l__law_is_right ?q__law_is_right ?k__law_is_right ?at_law ?l_law ?q_law ?k_law ?z_abs ?z_bool ?z_int ?z_isinstance ?z_len ?z_list ?z_max ?z_min ?z_range ?z_set ?z_sorted ?z_str ?z_tuple ?pf ?h_ne1 ?h_ne2 ?h_sf ?h_ci_at ?h_ci_get ?h_ci_tk ?h_nf_B ?h_nf_L ?h_nf_U ?h_ki_B ?h_ki_L ?h_ki_U
    (case g_Mend => k_is)
    (case pg_Mend => k_is)
    (case hd_Mend => k_is)
    (case po_Mend => k_is)
    (case sa_Mend => k_is)
    (case ms_Mend => k_is)
    (case kc_Mend => k_is)
    (case na_Mend_rows => k_is)
    (case at_is_integer => k_is)
    (case l_is_integer => k_is)
    (case q_is_integer => k_is)
    (case k_is_integer => k_is)
    (case at_MendU_initU => k_is)
    (case fn_MendU_initU => k_is)
    (case l_MendU_initU => k_is)
    (case q_MendU_initU => k_is)
    (case k_MendU_initU => k_is)
    (case at_MendU_lenU => k_is)
    (case fn_MendU_lenU => k_is)
    (case l_MendU_lenU => k_is)
    (case q_MendU_lenU => k_is)
    (case k_MendU_lenU => k_is)
    (case at_MendU_boolU => k_is)
    (case fn_MendU_boolU => k_is)
    (case l_MendU_boolU => k_is)
    (case q_MendU_boolU => k_is)
    (case k_MendU_boolU => k_is)
    (case at_MendU_containsU => k_is)
    (case fn_MendU_containsU => k_is)
    (case l_MendU_containsU => k_is)
    (case q_MendU_containsU => k_is)
    (case k_MendU_containsU => k_is)
    (case at_MendU_orU => k_is)
    (case fn_MendU_orU => k_is)
    (case l_MendU_orU => k_is)
    (case q_MendU_orU => k_is)
    (case k_MendU_orU => k_is)
    (case at_MendU_iorU => k_is)
    (case fn_MendU_iorU => k_is)
    (case l_MendU_iorU => k_is)
    (case q_MendU_iorU => k_is)
    (case k_MendU_iorU => k_is)
    (case at_MendU_andU => k_is)
    (case fn_MendU_andU => k_is)
    (case l_MendU_andU => k_is)
    (case q_MendU_andU => k_is)
    (case k_MendU_andU => k_is)
    (case at_MendU_eqU => k_is)
    (case fn_MendU_eqU => k_is)
    (case l_MendU_eqU => k_is)
    (case q_MendU_eqU => k_is)
    (case k_MendU_eqU => k_is)
    (case at_MendU_strU => k_is)
    (case fn_MendU_strU => k_is)
    (case l_MendU_strU => k_is)
    (case q_MendU_strU => k_is)
    (case k_MendU_strU => k_is)
    (case at__law_bag => k_is)
    (case l__law_bag => k_is)
    (case q__law_bag => k_is)
    (case k__law_bag => k_is)
    (case at__law_draw => k_is)
    (case l__law_draw => k_is)
    (case q__law_draw => k_is)
    (case k__law_draw => k_is)
    (case at__law_one => k_is)
    (case l__law_one => k_is)
    (case q__law_one => k_is)
    (case k__law_one => k_is)
    (case at__law_made => k_is)
    (case l__law_made => k_is)
    (case q__law_made => k_is)
    (case k__law_made => k_is)
    (case at__law_drawn => k_is)
    (case l__law_drawn => k_is)
    (case q__law_drawn => k_is)
    (case k__law_drawn => k_is)
    (case at__law_is => k_is)
    (case l__law_is => k_is)
    (case q__law_is => k_is)
    (case k__law_is => k_is)
    (case at__law_is_right => k_is)
    (case l__law_is_right => k_is)
    (case q__law_is_right => k_is)
    (case k__law_is_right => k_is)
    (case at_law => k_is)
    (case l_law => k_is)
    (case q_law => k_is)
    (case k_law => k_is)
    (case z_abs => k_is)
    (case z_bool => k_is)
    (case z_int => k_is)
    (case z_isinstance => k_is)
    (case z_len => k_is)
    (case z_list => k_is)
    (case z_max => k_is)
    (case z_min => k_is)
    (case z_range => k_is)
    (case z_set => k_is)
    (case z_sorted => k_is)
    (case z_str => k_is)
    (case z_tuple => k_is)
    (case pf => exact ⟨by first | rfl | decide +kernel | kernel_rfl, by first | rfl | decide +kernel | kernel_rfl⟩)
    (case h_ne1 => first | k_is | kernel_rfl | rfl | decide +kernel)
    (case h_ne2 => first | k_is | kernel_rfl | rfl | decide +kernel)
    (case h_sf => first | k_is | kernel_rfl | rfl | decide +kernel)
    (case h_ci_at => first | k_is | kernel_rfl | rfl | decide +kernel)
    (case h_ci_get => first | k_is | kernel_rfl | rfl | decide +kernel)
    (case h_ci_tk => first | k_is | kernel_rfl | rfl | decide +kernel)
    (case h_nf_B => first | k_is | kernel_rfl | rfl | decide +kernel)
    (case h_nf_L => first | k_is | kernel_rfl | rfl | decide +kernel)
    (case h_nf_U => first | k_is | kernel_rfl | rfl | decide +kernel)
    (case h_ki_B => first | k_is | kernel_rfl | rfl | decide +kernel)
    (case h_ki_L => first | k_is | kernel_rfl | rfl | decide +kernel)
    (case h_ki_U => first | k_is | kernel_rfl | rfl | decide +kernel)
#print axioms PySem.Challenge.cw_latequestions_k51_mends_as_sets_holds
