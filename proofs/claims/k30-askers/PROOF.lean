import PyProof.Rows.All
import Wide.All
import OpenK.AllK
import Wide.FinOn
import KE.KStateDown
import HandS.ForMost
import HandS.Exc
import HandS.TryOnly
import HandS.TryMany
import HandS.ExcOwn
import HandS.ExcIs
import HandS.ExcValue
import HandS.WordsExc
import HandS.More
import HandS.Defaults
import HandS.Conv
import HandS.SortOrd
import HandS.SortRule
import HandS.Flow
import HandS.HeadHook2
import HandS.Walk
import HandS.Steps
import KE.DataEq
import KE.SortCalls
import KE.DataMinMax
import HandS.SetFor
import HandS.Head0
import HandS.Head1
import HandS.Head2
import HandS.HeadEnd
import HandS.HeadHook1
import HandS.HeadHook3
import HandS.HeadHook4
import PyProof.StrBlock2
import HandS.Codes
import KE.DataFind
import HandS.Dict
import KE.KDictSum
import KE.SortData
import HandS.SetTxt0
import HandS.Strs
import HandS.TupSets
import HandS.IsInst
import HandS.Text
import HandS.RaiseMore
import HandS.Style
import PySem.Challenge.RW_typeasks_k30_whole_askers
set_option Elab.async false
set_option linter.all false
set_option maxRecDepth 100000
set_option maxHeartbeats 0
set_option linter.all false
set_option maxHeartbeats 1000000
/-! What a heap holds: what never changes (I), what may change (M). -/
namespace TA
open PySem L2
/-- H holds these, each at a place of its own -/
def Has (H : Hp) : List (Addr × HO) → Prop
  | [] => True
  | (a, o) :: r => H a = some o ∧ Has H r
def Sub (I H : Hp) : Prop := ∀ b o, I b = some o → H b = some o
structure W (I H : Hp) (M : List (Addr × HO)) : Prop where
  sub : Sub I H
  has : Has H M
  out : ∀ p ∈ M, I p.1 = none
  nd : (M.map (·.1)).Nodup
theorem Sub.refl (H : Hp) : Sub H H := fun _ _ h => h
theorem Sub.trans {A B C : Hp} (x : Sub A B) (y : Sub B C) : Sub A C := fun b o h => y b o (x b o h)
theorem Sub.new {I : Hp} {p : Addr} {o : HO} (h : I p = none) : Sub I (upd I p o) := fun b u q => by
  have : b ≠ p := fun z => by rw [z, h] at q; cases q
  rw [upd_ne this]; exact q
theorem has_mem {H : Hp} : ∀ {M : List (Addr × HO)}, Has H M → ∀ p ∈ M, H p.1 = some p.2
  | (a, o) :: r, h, p, hp => by
    rcases List.mem_cons.mp hp with e | hp
    · rw [e]; exact h.1
    · exact has_mem h.2 p hp
theorem has_of {H : Hp} : ∀ {M : List (Addr × HO)}, (∀ p ∈ M, H p.1 = some p.2) → Has H M
  | [], _ => trivial
  | (a, o) :: r, h => ⟨h (a, o) List.mem_cons_self, has_of fun p hp => h p (List.mem_cons_of_mem _ hp)⟩
theorem has_upd {H : Hp} {a : Addr} {o : HO} {M : List (Addr × HO)} (h : Has H M) (n : ∀ p ∈ M, p.1 ≠ a) : Has (upd H a o) M :=
  has_of fun p hp => by rw [upd_ne (n p hp)]; exact has_mem h p hp
section
variable {I H : Hp} {M : List (Addr × HO)} {p : Addr} {o o' : HO}
theorem W.start (H : Hp) : W H H [] := ⟨Sub.refl H, trivial, fun p hp => (by cases hp), List.nodup_nil⟩
theorem W.imm (w : W I H M) (h : I p = some o) : H p = some o := w.sub p o h
theorem W.noI (w : W I H M) (h : H p = none) : I p = none := by
  cases q : I p with
  | none => rfl
  | some o => rw [w.sub p o q] at h; cases h
theorem W.noM (w : W I H M) (h : H p = none) : ∀ x ∈ M, x.1 ≠ p := fun x hx z => by
  have := has_mem w.has x hx
  rw [z, h] at this; cases this
/-- a new object that will not change -/
theorem W.newI (w : W I H M) (h : H p = none) : W (upd I p o) (upd H p o) M where
  sub := fun b u q => by
    by_cases e : b = p
    · subst e; rw [upd_same] at q ⊢; exact q
    · rw [upd_ne e] at q ⊢; exact w.sub b u q
  has := has_upd w.has (w.noM h)
  out := fun x hx => by rw [upd_ne (w.noM h x hx)]; exact w.out x hx
  nd := w.nd
/-- a new object that may change -/
theorem W.newM (w : W I H M) (h : H p = none) : W I (upd H p o) ((p, o) :: M) where
  sub := fun b u q => by
    have := w.sub b u q
    have e : b ≠ p := fun z => by rw [z, h] at this; cases this
    rw [upd_ne e]; exact this
  has := ⟨upd_same, has_upd w.has (w.noM h)⟩
  out := fun x hx => by
    rcases List.mem_cons.mp hx with e | hx
    · rw [e]; exact w.noI h
    · exact w.out x hx
  nd := List.nodup_cons.mpr ⟨fun hm => by
    obtain ⟨x, hx, e⟩ := List.mem_map.mp hm
    exact w.noM h x hx e, w.nd⟩
/-- a new object that nobody asks for -/
theorem W.skip (w : W I H M) (h : H p = none) : W I (upd H p o) M :=
  let v := w.newM (o := o) h
  ⟨v.sub, v.has.2, w.out, w.nd⟩
/-- the first of those that may change is changed -/
theorem W.put (w : W I H ((p, o) :: M)) : W I (upd H p o') ((p, o') :: M) where
  sub := fun b u q => by
    have e : b ≠ p := fun z => by rw [z, w.out (p, o) List.mem_cons_self] at q; cases q
    rw [upd_ne e]; exact w.sub b u q
  has := ⟨upd_same, has_upd w.has.2 fun x hx z => (List.nodup_cons.mp w.nd).1 (List.mem_map.mpr ⟨x, hx, z⟩)⟩
  out := fun x hx => by
    rcases List.mem_cons.mp hx with e | hx
    · rw [e]; exact w.out (p, o) List.mem_cons_self
    · exact w.out x (List.mem_cons_of_mem _ hx)
  nd := w.nd
/-- the first one will not change any more -/
theorem W.freeze (w : W I H ((p, o) :: M)) : W (upd I p o) H M where
  sub := fun b u q => by
    by_cases e : b = p
    · subst e; rw [upd_same] at q; cases q; exact w.has.1
    · rw [upd_ne e] at q; exact w.sub b u q
  has := w.has.2
  out := fun x hx => by
    have : x.1 ≠ p := fun z => (List.nodup_cons.mp w.nd).1 (List.mem_map.mpr ⟨x, hx, z⟩)
    rw [upd_ne this]; exact w.out x (List.mem_cons_of_mem _ hx)
  nd := (List.nodup_cons.mp w.nd).2
theorem W.drop (w : W I H ((p, o) :: M)) : W I H M := ⟨w.sub, w.has.2, fun x hx => w.out x (List.mem_cons_of_mem _ hx), (List.nodup_cons.mp w.nd).2⟩
theorem W.perm {M' : List (Addr × HO)} (w : W I H M) (e : M'.Perm M) : W I H M' :=
  ⟨w.sub, has_of fun x hx => has_mem w.has x (e.mem_iff.mp hx), fun x hx => w.out x (e.mem_iff.mp hx), (e.map _).nodup_iff.mpr w.nd⟩
theorem W.swap {q : Addr} {u : HO} (w : W I H ((p, o) :: (q, u) :: M)) : W I H ((q, u) :: (p, o) :: M) := w.perm (List.Perm.swap _ _ _)
theorem W.rot {q r : Addr} {u v : HO} (w : W I H ((p, o) :: (q, u) :: (r, v) :: M)) : W I H ((r, v) :: (p, o) :: (q, u) :: M) :=
  w.perm ((List.Perm.swap _ _ _).trans (List.Perm.cons _ (List.Perm.swap _ _ _)))
/-- nothing that was there has changed -/
theorem W.same {H' : Hp} (w : W I H M) (s : Same H H') : W I H' M :=
  ⟨fun b o q => s b o (w.sub b o q), has_of fun x hx => s _ _ (has_mem w.has x hx), w.out, w.nd⟩
/-- less is known to stay -/
theorem W.less {J : Hp} (w : W I H M) (s : Sub J I) : W J H M :=
  ⟨s.trans w.sub, w.has, (fun x hx => by
    cases q : J x.1 with
    | none => rfl
    | some o => have := s _ _ q; rw [w.out x hx] at this; cases this), w.nd⟩
end
theorem nodup_ix_any {α : Type} : ∀ {l : List α} {i j : Nat} {x : α}, l.Nodup → l[i]? = some x → l[j]? = some x → i = j
  | [], _, _, _, _, h, _ => by simp at h
  | y :: l, 0, 0, _, _, _, _ => rfl
  | y :: l, 0, j + 1, x, n, h1, h2 => by
    simp at h1; subst h1
    exact absurd (List.mem_of_getElem? (show l[j]? = some y by simpa using h2)) (List.nodup_cons.mp n).1
  | y :: l, i + 1, 0, x, n, h1, h2 => by
    simp at h2; subst h2
    exact absurd (List.mem_of_getElem? (show l[i]? = some y by simpa using h1)) (List.nodup_cons.mp n).1
  | y :: l, i + 1, j + 1, x, n, h1, h2 => by
    rw [nodup_ix_any (List.nodup_cons.mp n).2 (show l[i]? = some x by simpa using h1) (show l[j]? = some x by simpa using h2)]
theorem sel_mem {L : List (Addr × HO)} : ∀ {is : List Nat} {x : Addr × HO}, x ∈ is.filterMap (fun i => L[i]?) → ∃ i, i ∈ is ∧ L[i]? = some x := fun {is x} h => by
  obtain ⟨i, hi, e⟩ := List.mem_filterMap.mp h
  exact ⟨i, hi, e⟩
theorem sel_nodup {L : List (Addr × HO)} (hL : (L.map (·.1)).Nodup) : ∀ {is : List Nat}, is.Nodup → ((is.filterMap fun i => L[i]?).map (·.1)).Nodup
  | [], _ => List.nodup_nil
  | i :: is, h => by
    obtain ⟨h1, h2⟩ := List.nodup_cons.mp h
    have ih := sel_nodup hL h2
    cases e : L[i]? with
    | none => rw [List.filterMap_cons_none e]; exact ih
    | some x =>
      rw [List.filterMap_cons_some e, List.map_cons]
      refine List.nodup_cons.mpr ⟨fun hm => ?_, ih⟩
      obtain ⟨y, hy, ey⟩ := List.mem_map.mp hm
      obtain ⟨j, hj, e2⟩ := sel_mem hy
      have a1 : (L.map (·.1))[i]? = some x.1 := by rw [List.getElem?_map, e]; rfl
      have a2 : (L.map (·.1))[j]? = some x.1 := by rw [List.getElem?_map, e2, ← ey]; rfl
      have := nodup_ix_any hL a1 a2
      exact h1 (this ▸ hj)
/-- some of those that may change, in another order -/
theorem W.sel {I H : Hp} {T : List (Addr × HO)} (L : List (Addr × HO)) (w : W I H (L ++ T)) (is : List Nat) (h : is.Nodup := by decide) : W I H ((is.filterMap fun i => L[i]?) ++ T) where
  sub := w.sub
  has := has_of fun x hx => by
    rcases List.mem_append.mp hx with q | q
    · obtain ⟨i, _, e⟩ := sel_mem q
      exact has_mem w.has x (List.mem_append_left _ (List.mem_of_getElem? e))
    · exact has_mem w.has x (List.mem_append_right _ q)
  out := fun x hx => by
    rcases List.mem_append.mp hx with q | q
    · obtain ⟨i, _, e⟩ := sel_mem q
      exact w.out x (List.mem_append_left _ (List.mem_of_getElem? e))
    · exact w.out x (List.mem_append_right _ q)
  nd := by
    have hn := w.nd
    rw [List.map_append] at hn ⊢
    obtain ⟨n1, n2, n3⟩ := List.nodup_append.mp hn
    refine List.nodup_append.mpr ⟨sel_nodup n1 h, n2, fun a ha b hb => ?_⟩
    obtain ⟨x, hx, rfl⟩ := List.mem_map.mp ha
    obtain ⟨i, _, e⟩ := sel_mem hx
    exact n3 _ (List.mem_map.mpr ⟨x, List.mem_of_getElem? e, rfl⟩) b hb
/-! ### attributes: names and values side by side -/
theorem lookup_zip : ∀ {ns : List Str} {vs : List V} (i : Nat) {a : Str} {v : V}, ns.Nodup → ns[i]? = some a → vs[i]? = some v → (ns.zip vs).lookup a = some v
  | [], _, _, _, _, _, h, _ => by simp at h
  | _ :: _, [], _, _, _, _, _, h => by simp at h
  | n :: ns, w :: vs, 0, a, v, nd, h1, h2 => by
    simp at h1 h2; subst h1; subst h2
    simp [List.zip_cons_cons, List.lookup]
  | n :: ns, w :: vs, i + 1, a, v, nd, h1, h2 => by
    have h1' : ns[i]? = some a := by simpa using h1
    have h2' : vs[i]? = some v := by simpa using h2
    have : (a == n) = false := by
      have hm : a ∈ ns := List.mem_of_getElem? h1'
      have : a ≠ n := fun z => (List.nodup_cons.mp nd).1 (z ▸ hm)
      simpa using this
    rw [List.zip_cons_cons, List.lookup, this]
    exact lookup_zip i (List.nodup_cons.mp nd).2 h1' h2'
theorem lookup_out : ∀ {ns : List Str} {vs : List V} {a : Str}, a ∉ ns → (ns.zip vs).lookup a = none
  | [], _, _, _ => by simp
  | _ :: _, [], _, _ => by simp
  | n :: ns, w :: vs, a, h => by
    have : (a == n) = false := by simpa using fun z : a = n => h (z ▸ List.mem_cons_self)
    rw [List.zip_cons_cons, List.lookup, this]
    exact lookup_out fun hm => h (List.mem_cons_of_mem _ hm)
theorem putF_zip : ∀ {ns : List Str} {vs : List V} (i : Nat) {a : Str} {x : V}, ns.Nodup → ns[i]? = some a → i < vs.length → putF a x (ns.zip vs) = ns.zip (vs.set i x)
  | [], _, _, _, _, _, h, _ => by simp at h
  | _ :: _, [], _, _, _, _, _, h => by simp at h
  | n :: ns, w :: vs, 0, a, x, nd, h1, h2 => by
    simp at h1; subst h1
    simp [List.zip_cons_cons, putF]
  | n :: ns, w :: vs, i + 1, a, x, nd, h1, h2 => by
    have h1' : ns[i]? = some a := by simpa using h1
    have : n ≠ a := by
      have hm : a ∈ ns := List.mem_of_getElem? h1'
      exact fun z => (List.nodup_cons.mp nd).1 (z ▸ hm)
    rw [List.zip_cons_cons, putF, if_neg this, putF_zip i (List.nodup_cons.mp nd).2 h1' (by simpa using h2)]
    rfl
theorem lt_putF {f : Str} {v : V} {fs : List (Str × V)} {m : Nat} (h : fs.length < m) : (putF f v fs).length < m + 1 := by
  have := length_putF f v fs
  omega
theorem lt0 : ([] : List (Str × V)).length < 1 := Nat.zero_lt_one
theorem ite_and2 {p q : Prop} [Decidable p] [Decidable q] {A B : Prop} (h : ¬ (p ∧ q)) (b : B) : if decide p = true then (if decide q = true then A else B) else B := by
  by_cases hp : p
  · rw [if_pos (decide_eq_true hp), if_neg (by rw [decide_eq_false fun hq => h ⟨hp, hq⟩]; decide)]; exact b
  · rw [if_neg (by rw [decide_eq_false hp]; decide)]; exact b
theorem ite_t {p : Prop} [Decidable p] {A B : Prop} (h : p) (a : A) : if decide p = true then A else B := by rw [if_pos (decide_eq_true h)]; exact a
theorem ite_f {p : Prop} [Decidable p] {A B : Prop} (h : ¬ p) (b : B) : if decide p = true then A else B := by rw [if_neg (by rw [decide_eq_false h]; decide)]; exact b
theorem ite_nt {p : Prop} [Decidable p] {A B : Prop} (h : p) (b : B) : if (!decide p) = true then A else B := by rw [if_neg (by rw [decide_eq_true h]; decide)]; exact b
theorem ite_nf {p : Prop} [Decidable p] {A B : Prop} (h : ¬ p) (a : A) : if (!decide p) = true then A else B := by rw [if_pos (by rw [decide_eq_false h]; decide)]; exact a
end TA

set_option linter.all false
set_option maxHeartbeats 2000000
/-! Rules with readings over tracked objects alone. -/
namespace TA
open PySem PySem.Spec L2
section
variable {X : Cx} {e : Expr} {es : List Expr}
theorem PE_imp {t t' : TE} (h : PE X e t) (k : ∀ σ H Q, t' σ H Q → t σ H Q) : PE X e t' := ⟨fun pins s σ H Q I q => h.run pins s σ H Q I (k σ H Q q)⟩
theorem PT_imp {t t' : TT} (h : PT X e t) (k : ∀ σ H Q, t' σ H Q → t σ H Q) : PT X e t' := ⟨fun pins s σ H Q I q => h.run pins s σ H Q I (k σ H Q q)⟩
theorem PS_imp {st : Stmt} {t t' : TS} (h : PS X st t) (k : ∀ D σ H, t' D σ H → t D σ H) : PS X st t' := ⟨fun pins s σ H D I q => h.run pins s σ H D I (k D σ H q)⟩
theorem PI_imp {tg : Expr} {t t' : TI} (h : PI X tg e t) (k : ∀ σ H R, t' σ H R → t σ H R) : PI X tg e t' := ⟨fun pins s σ H R I q => h.run pins s σ H R I (k σ H R q)⟩
theorem PG_imp {t t' : TG} (h : PG X e t) (k : ∀ v σ H Q, t' v σ H Q → t v σ H Q) : PG X e t' := ⟨fun pins s σ H v u Q I r q => h.run pins s σ H v u Q I r (k v σ H Q q)⟩
/-- the monotone closure of a reading -/
def mo (t : TE) : TE := fun σ H Q => ∃ Q1 : VK, t σ H Q1 ∧ ∀ x H', Q1 x H' → Q x H'
theorem PE_mo {t : TE} (h : PE X e t) : PE X e (mo t) := ⟨fun pins s σ H Q I q => by
  obtain ⟨Q1, q1, k⟩ := q
  exact thn (h.run pins s σ H Q1 I q1) fun u s' ⟨v, H', I', r, z⟩ => ⟨v, H', I', r, k v H' z⟩⟩
theorem OpR_imp {f : Value → Value → Sem Value} {r r' : R2} (h : OpR X f r) (k : ∀ x y H Q, r' x y H Q → r x y H Q) : OpR X f r' :=
  fun pins s σ H x y v u Q I rx ry q => h pins s σ H x y v u Q I rx ry (k x y H Q q)
theorem IxR_imp {r r' : R2} (h : IxR X r) (k : ∀ x y H Q, r' x y H Q → r x y H Q) : IxR X r' :=
  fun a b pins s σ H x y v u Q I rx ry q => h a b pins s σ H x y v u Q I rx ry (k x y H Q q)
theorem CallR_imp {f : Value} {r r' : List V → Hp → VK → Prop} (h : CallR X f r) (k : ∀ xs H Q, r' xs H Q → r xs H Q) : CallR X f r' :=
  fun pins s σ H xs us Q I rx q => h pins s σ H xs us Q I rx (k xs H Q q)
theorem MtR_imp {id : String} {r r' : V → List V → Hp → VK → Prop} (h : MtR X id r) (k : ∀ x xs H Q, r' x xs H Q → r x xs H Q) : MtR X id r' :=
  fun pins s σ H x xs v us Q I rx ry q => h pins s σ H x xs v us Q I rx ry (k x xs H Q q)
theorem SlR_imp {r r' : V → Option Int → Option Int → Hp → VK → Prop} (h : SlR X r) (k : ∀ x lo hi H Q, r' x lo hi H Q → r x lo hi H Q) : SlR X r' :=
  fun pins s σ H x v vl vu lo hi sl Q I rx a b c q => h pins s σ H x v vl vu lo hi sl Q I rx a b c (k x lo hi H Q q)
end
/-! ### fields -/
def fFld (C : Addr) (f : Str) (ta : TE) : TE := fun σ H Q => ta σ H fun x H1 => ∃ a dx fs v, x = .ref a ∧ H1 a = some (.ins C dx fs) ∧ fs.lookup f = some v ∧ Q v H1
def fSet (C : Addr) (f : Str) (ta tv : TE) : TS := fun D σ H => tv σ H fun y H1 => ta σ H1 fun x H2 => ∃ a dx fs, x = .ref a ∧ H2 a = some (.ins C dx fs) ∧ fs.length < 1000 ∧ D.nx σ (upd H2 a (.ins C dx (putF f y fs)))
section
variable {X : Cx} {o e value : Expr} {f : Str} {pos pos' : Pos} {ta tv : TE} {C : Addr}
theorem pe_fldC (c : Cls X.K C) (n : NoAttr X.K C f) (he : PE X e ta) (hb : attributeBase e f X.env (eval e X.env) = eval e X.env) : PE X (.Attribute e f pos) (fFld C f ta) :=
  PE_imp (pe_fld (PE_mo he) hb) fun _ _ _ h => ⟨_, h, fun _ _ ⟨a, dx, fs, v, z1, z2, z3, z4⟩ => ⟨a, C, dx, fs, v, z1, z2, c, n, z3, z4⟩⟩
theorem ps_fldC (c : Cls X.K C) (n : NoAttr X.K C f) (ha : PE X o ta) (hv : PE X value tv) (hs : swapsWith value (some (.Attribute o f pos')) pos.line X.env = pure false) : PS X (.Assign [.Attribute o f pos'] value pos) (fSet C f ta tv) :=
  PS_imp (ps_fld (PE_mo ha) (PE_mo hv) hs) fun _ _ _ h => ⟨_, h, fun _ _ h2 => ⟨_, h2, fun _ _ ⟨a, dx, fs, z1, z2, z3, z4⟩ => ⟨a, C, dx, fs, z1, z2, c, n, z3, z4⟩⟩⟩
end
/-! ### subscripts, slices -/
def gIxL : R2 := fun x y H Q => ∃ p xs i v, x = .ref p ∧ y = .int i ∧ H p = some (.lst xs) ∧ atI xs i = some v ∧ Q v H
def gIxT : R2 := fun x y H Q => ∃ p xs i v, x = .ref p ∧ y = .int i ∧ H p = some (.tup xs) ∧ atI xs i = some v ∧ Q v H
def gSlL : V → Option Int → Option Int → Hp → VK → Prop := fun x lo hi H Q => ∃ a xs, x = .ref a ∧ H a = some (.lst xs) ∧ ∀ p, H p = none → Q (.ref p) (upd H p (.lst (cutV xs lo hi)))
section
variable {X : Cx}
theorem ixL : IxR X gIxL := IxR_imp ix_list fun _ _ _ _ ⟨p, xs, i, v, a, b, c, d, e⟩ => ⟨p, xs, i, v, a, b, SqL.of c, d, e⟩
theorem ixT : IxR X gIxT := IxR_imp ix_tup fun _ _ _ _ ⟨p, xs, i, v, a, b, c, d, e⟩ => ⟨p, xs, i, v, a, b, SqT.of c, d, e⟩
theorem slL : SlR X gSlL := SlR_imp sl_list fun _ _ _ _ _ ⟨a, xs, x1, x2, x3⟩ => ⟨a, xs, x1, SqL.of x2, x3⟩
end
/-! ### in, len, list(..), truth -/
def gInL (neg : Bool) : R2 := fun x y H Q => ∃ p xs, y = .ref p ∧ H p = some (.lst xs) ∧ flatV x = true ∧ xs.all flatV = true ∧ Q (.bl (if neg then !inV x xs else inV x xs)) H
def gInT (neg : Bool) : R2 := fun x y H Q => ∃ p xs, y = .ref p ∧ H p = some (.tup xs) ∧ flatV x = true ∧ xs.all flatV = true ∧ Q (.bl (if neg then !inV x xs else inV x xs)) H
def gLenL : List V → Hp → VK → Prop := fun xs H Q => ∃ p ys, xs = [.ref p] ∧ H p = some (.lst ys) ∧ Q (.int ys.length) H
def gLenT : List V → Hp → VK → Prop := fun xs H Q => ∃ p ys, xs = [.ref p] ∧ H p = some (.tup ys) ∧ Q (.int ys.length) H
def gLenS : List V → Hp → VK → Prop := fun xs H Q => ∃ z, xs = [.str z] ∧ z.length ≤ sizeLine ∧ Q (.int z.length) H
def gListL : List V → Hp → VK → Prop := fun xs H Q => ∃ p ys, xs = [.ref p] ∧ H p = some (.lst ys) ∧ ∀ l, H l = none → Q (.ref l) (upd H l (.lst ys))
def gListT : List V → Hp → VK → Prop := fun xs H Q => ∃ p ys, xs = [.ref p] ∧ H p = some (.tup ys) ∧ ∀ l, H l = none → Q (.ref l) (upd H l (.lst ys))
def gTupL : List V → Hp → VK → Prop := fun xs H Q => ∃ p ys, xs = [.ref p] ∧ H p = some (.lst ys) ∧ ∀ l, H l = none → Q (.ref l) (upd H l (.tup ys))
def gAll : List V → Hp → VK → Prop := fun vs H Q => ∃ (a : Addr) (bs : List Bool), vs = [V.ref a] ∧ H a = some (.lst (bs.map V.bl)) ∧ Q (.bl (bs.all id)) H
section
variable {X : Cx}
theorem inL : OpR X (compareOp .In) (gInL false) := OpR_imp op_in_seq fun _ _ _ _ ⟨p, xs, a, b, c, d, e⟩ => ⟨p, xs, a, .inl (SqL.of b), c, d, e⟩
theorem ninL : OpR X (compareOp .NotIn) (gInL true) := OpR_imp op_notIn_seq fun _ _ _ _ ⟨p, xs, a, b, c, d, e⟩ => ⟨p, xs, a, .inl (SqL.of b), c, d, e⟩
theorem inT : OpR X (compareOp .In) (gInT false) := OpR_imp op_in_seq fun _ _ _ _ ⟨p, xs, a, b, c, d, e⟩ => ⟨p, xs, a, .inr (SqT.of b), c, d, e⟩
theorem ninT : OpR X (compareOp .NotIn) (gInT true) := OpR_imp op_notIn_seq fun _ _ _ _ ⟨p, xs, a, b, c, d, e⟩ => ⟨p, xs, a, .inr (SqT.of b), c, d, e⟩
theorem lenL : CallR X (.builtin "len") gLenL := CallR_imp call_len_seq fun _ _ _ ⟨p, ys, a, b, c⟩ => ⟨p, ys, a, .inl (SqL.of b), c⟩
theorem lenT : CallR X (.builtin "len") gLenT := CallR_imp call_len_seq fun _ _ _ ⟨p, ys, a, b, c⟩ => ⟨p, ys, a, .inr (SqT.of b), c⟩
theorem lenS : CallR X (.builtin "len") gLenS := call_len_str
theorem listL : CallR X (.type "list") gListL := CallR_imp call_list_of fun _ _ _ ⟨p, ys, a, b, c⟩ => ⟨p, ys, a, .inl (SqL.of b), c⟩
theorem listT : CallR X (.type "list") gListT := CallR_imp call_list_of fun _ _ _ ⟨p, ys, a, b, c⟩ => ⟨p, ys, a, .inr (SqT.of b), c⟩
theorem tupL : CallR X (.type "tuple") gTupL := CallR_imp call_tuple_of fun _ _ _ ⟨p, ys, a, b, c⟩ => ⟨p, ys, a, .inl ⟨SqL.of b, c⟩⟩
theorem allL (hc : X.calm = true) : CallR X (.builtin "all") gAll := CallR_imp (cr_all hc) fun _ _ _ ⟨a, bs, x, y, z⟩ => ⟨a, bs, x, SqL.of y, z⟩
end
/-- truth -/
def gTru (x : V) (H : Hp) (k : Bool) : Prop := match x with
  | .non => k = false
  | .bl b => k = b
  | .int i => k = (i != 0)
  | .ref p => (∃ xs, H p = some (.lst xs) ∧ k = !xs.isEmpty) ∨ (∃ xs, H p = some (.tup xs) ∧ k = !xs.isEmpty) ∨ ∃ kvs, H p = some (.dK kvs) ∧ k = !kvs.isEmpty
  | _ => False
def fTru (ta : TE) : TT := fun σ H Q => ta σ H fun x H' => ∃ k, gTru x H' k ∧ Q k H'
theorem tru_up {K : PySem.W.Frag} : ∀ {x : V} {H : Hp} {k : Bool}, gTru x H k → TruV K x H k
  | .non, _, _, h => h
  | .bl _, _, _, h => h
  | .int _, _, _, h => h
  | .ref p, _, _, h => by
    rcases h with ⟨xs, a, b⟩ | ⟨xs, a, b⟩ | h
    · exact .inl ⟨xs, SqL.of a, b⟩
    · exact .inr (.inl ⟨xs, SqT.of a, b⟩)
    · exact .inr (.inr h)
theorem pt_tru {X : Cx} {a : Expr} {ta : TE} (ha : PE X a ta) (he : ∀ whole, isTrue a X.env whole = (do let v ← whole; standAt a.pos; holding [v] (truthy v)) := by intro _; rfl) : PT X a (fTru ta) :=
  PT_imp (pt_truth (PE_mo ha) he) fun _ _ _ h => ⟨_, h, fun _ _ ⟨k, z, q⟩ => ⟨k, tru_up z, q⟩⟩
/-! ### methods of built-in types -/
def gTy (T : String) (x : V) (H : Hp) : Prop := match x with
  | .str _ => T = "str"
  | .int _ => T = "int"
  | .ref p => (T = "list" ∧ ∃ xs, H p = some (.lst xs)) ∨ (T = "dict" ∧ ∃ kvs, H p = some (.dK kvs))
  | _ => False
theorem ty_up {K : PySem.W.Frag} {T : String} : ∀ {x : V} {H : Hp}, gTy T x H → tyV K T x H
  | .str _, _, h => h
  | .int _, _, h => h
  | .ref p, _, h => by
    rcases h with ⟨a, xs, b⟩ | ⟨a, xs, b⟩
    · exact .inl ⟨a, xs, SqL.of b⟩
    · exact .inr (.inr (.inl ⟨a, .inl ⟨xs, b⟩⟩))
def fBM0 (T : String) (r : V → List V → Hp → VK → Prop) (to : TE) : TE := fun σ H Q => to σ H fun x H1 => gTy T x H1 ∧ r x [] H1 Q
def fBM (T : String) (r : V → List V → Hp → VK → Prop) (to : TE) (t : TA) : TE := fun σ H Q => to σ H fun x H1 => gTy T x H1 ∧ t σ H1 fun xs H2 => r x xs H2 Q
section
variable {X : Cx} {o e : Expr} {es : List Expr} {to : TE} {t : TA} {name : Str} {apos cpos : Pos} {T id : String} {r : V → List V → Hp → VK → Prop}
theorem pe_bm0C (pa : PlainAttrs T) (slot : Slot T name id) (hty : typeOf (.builtin id) = pure (.type "method_descriptor")) (hm : MtR X id r) (ho : PE X o to)
    (hbase : attributeBase o name X.env (eval o X.env) = eval o X.env := by rfl) (hline : (apos.endLine == cpos.line) = true := by rfl) : PE X (.Call (.Attribute o name apos) [] [] cpos) (fBM0 T r to) :=
  PE_imp (pe_bm0 pa slot hty hm (PE_mo ho) hbase hline) fun _ _ _ h => ⟨_, h, fun _ _ ⟨a, b⟩ => ⟨ty_up a, b⟩⟩
theorem pe_bmC (pa : PlainAttrs T) (slot : Slot T name id) (hty : typeOf (.builtin id) = pure (.type "method_descriptor")) (hm : MtR X id r) (ho : PE X o to) (ha : PA X (e :: es) t)
    (hbase : attributeBase o name X.env (eval o X.env) = eval o X.env := by rfl)
    (hfew : ((backTo cpos (starEach (e :: es) X.env)).all (fun x => !x.1) && (backToKw cpos (keywordEach [] X.env)).all (fun x => x.1.isSome)
      && decide ((e :: es).length + ([] : List Keyword).length + (if ([] : List Keyword).isEmpty then 0 else 1) < 30)) = true := by rfl)
    (hline : (apos.endLine == cpos.line) = true := by rfl) (hs : starEach (e :: es) X.env = (false, eval e X.env) :: starEach es X.env := by rfl) (hplain : (backTo cpos (starEach es X.env)).any (·.1) = false := by rfl) :
    PE X (.Call (.Attribute o name apos) (e :: es) [] cpos) (fBM T r to t) :=
  PE_imp (pe_bm pa slot hty hm (PE_mo ho) ha hbase hfew hline hs hplain) fun _ _ _ h => ⟨_, h, fun _ _ ⟨a, b⟩ => ⟨ty_up a, b⟩⟩
end
/-! ### walks, targets -/
def moA (t : TA) : TA := fun σ H Q => ∃ Q1 : List V → Hp → Prop, t σ H Q1 ∧ ∀ x H', Q1 x H' → Q x H'
theorem PA_mo {X : Cx} {es : List Expr} {t : TA} (h : PA X es t) : PA X es (moA t) := ⟨fun pos pins s σ H Q I q => by
  obtain ⟨Q1, q1, k⟩ := q
  exact thn (h.run pos pins s σ H Q1 I q1) fun u s' ⟨v, H', I', r, z⟩ => ⟨v, H', I', r, k v H' z⟩⟩
/-- what a loop over the list xs at a asks -/
def LoopL (g : TG) (tb : TS) (a : Addr) (xs : List V) (D : Ends) (σ : St) (H : Hp) : Prop :=
  ∃ Pv : Nat → St → Hp → Prop, Pv 0 σ H ∧ (∀ i σ H, i ≤ xs.length → Pv i σ H → H a = some (.lst xs)) ∧
    (∀ i x σ H, xs[i]? = some x → Pv i σ H → g x σ H fun σ2 H2 => tb { D with nx := Pv (i + 1), ct := Pv (i + 1), bk := D.nx } σ2 H2) ∧ ∀ σ H, Pv xs.length σ H → D.nx σ H
def LoopR (g : TG) (tb : TS) (lo : Int) (n : Nat) (D : Ends) (σ : St) (H : Hp) : Prop :=
  ∃ Pv : Nat → St → Hp → Prop, Pv 0 σ H ∧ (∀ (i : Nat) σ H, i < n → Pv i σ H → g (.int (lo + i)) σ H fun σ2 H2 => tb { D with nx := Pv (i + 1), ct := Pv (i + 1), bk := D.nx } σ2 H2) ∧ ∀ σ H, Pv n σ H → D.nx σ H
def fForL (tl : TE) (g : TG) (tb : TS) : TS := fun D σ H => tl σ H fun x H1 => ∃ a xs, x = .ref a ∧ H1 a = some (.lst xs) ∧ LoopL g tb a xs D σ H1
def fForT (tl : TE) (g : TG) (tb : TS) : TS := fun D σ H => tl σ H fun x H1 => ∃ a xs, x = .ref a ∧ H1 a = some (.tup xs) ∧
  ∃ Pv : Nat → St → Hp → Prop, Pv 0 σ H1 ∧ (∀ i σ H, i ≤ xs.length → Pv i σ H → H a = some (.tup xs)) ∧
    (∀ i x σ H, xs[i]? = some x → Pv i σ H → g x σ H fun σ2 H2 => tb { D with nx := Pv (i + 1), ct := Pv (i + 1), bk := D.nx } σ2 H2) ∧ ∀ σ H, Pv xs.length σ H → D.nx σ H
def fForS (tl : TE) (g : TG) (tb : TS) : TS := fun D σ H => tl σ H fun x H1 => ∃ z : Str, x = .str z ∧
  ∃ Pv : Nat → St → Hp → Prop, Pv 0 σ H1 ∧ (∀ (i c : Nat) σ H, z.cps.toList[i]? = some c → Pv i σ H → g (.str ⟨#[c]⟩) σ H fun σ2 H2 => tb { D with nx := Pv (i + 1), ct := Pv (i + 1), bk := D.nx } σ2 H2) ∧ ∀ σ H, Pv z.cps.size σ H → D.nx σ H
def fForR1 (ta : TA) (g : TG) (tb : TS) : TS := fun D σ H => ta σ H fun vs H1 => ∃ j : Int, vs = [.int j] ∧ -(2 ^ 62) ≤ j ∧ j < 2 ^ 62 ∧ LoopR g tb 0 j.toNat D σ H1
def fForR2 (ta : TA) (g : TG) (tb : TS) : TS := fun D σ H => ta σ H fun vs H1 => ∃ i j : Int, vs = [.int i, .int j] ∧ (-(2 ^ 62) ≤ i ∧ i < 2 ^ 62 ∧ -(2 ^ 62) ≤ j ∧ j < 2 ^ 62) ∧ LoopR g tb i (j - i).toNat D σ H1
section
variable {X : Cx} {tg iter a b : Expr} {body : List Stmt} {tl : TE} {ta : TA} {g : TG} {tb : TS} {pos p p2 : Pos}
theorem ps_forL (hp : PassesOwn (model X.prog X.w) X.A X.env X.xe) (hc : X.calm = true) (hl : PE X iter tl) (hg : PG X tg g) (hb : PSs X body tb) (hs : ∀ x, foldedSetIterable iter X.env x = pure x := by intro _; rfl) :
    PS X (.For tg iter body [] pos) (fForL tl g tb) :=
  PS_imp (ps_for hp hc (pi_list (PE_mo hl)) hg hb hs) fun _ _ _ h => ⟨_, h, fun _ _ ⟨a, xs, x1, x2, Pv, h0, hl, hs, hd⟩ => ⟨a, x1, ⟨xs, SqL.of x2⟩, for_list (xs := xs) Pv h0 (fun i σ H hi q => SqL.of (hl i σ H hi q)) hs hd⟩⟩
theorem ps_forT (hp : PassesOwn (model X.prog X.w) X.A X.env X.xe) (hc : X.calm = true) (hl : PE X iter tl) (hg : PG X tg g) (hb : PSs X body tb) (hs : ∀ x, foldedSetIterable iter X.env x = pure x := by intro _; rfl) :
    PS X (.For tg iter body [] pos) (fForT tl g tb) :=
  PS_imp (ps_for hp hc (pi_tup (PE_mo hl)) hg hb hs) fun _ _ _ h => ⟨_, h, fun _ _ ⟨a, xs, x1, x2, Pv, h0, hl, hs, hd⟩ => ⟨a, x1, ⟨xs, SqT.of x2⟩, for_tup (xs := xs) Pv h0 (fun i σ H hi q => SqT.of (hl i σ H hi q)) hs hd⟩⟩
theorem ps_forR1 (hp : PassesOwn (model X.prog X.w) X.A X.env X.xe) (hc : X.calm = true) (hg' : Gl X "range") (hm : X.mg "range" = none) (ha : PA X [a] ta) (hg : PG X tg g) (hb : PSs X body tb) (hs : starEach [a] X.env = [(false, eval a X.env)] := by rfl)
    (hs2 : ∀ x, foldedSetIterable (.Call (.Name "range" p) [a] [] p2) X.env x = pure x := by intro _; rfl) : PS X (.For tg (.Call (.Name "range" p) [a] [] p2) body [] pos) (fForR1 ta g tb) :=
  PS_imp (ps_for hp hc (pi_range1 hg' hm (PA_mo ha) hs) hg hb hs2) fun _ _ _ h => ⟨_, h, fun _ _ ⟨j, x1, x2, x3, Pv, h0, hs, hd⟩ => ⟨j, x1, x2, x3, for_range Pv h0 hs hd⟩⟩
theorem ps_forR2 (hp : PassesOwn (model X.prog X.w) X.A X.env X.xe) (hc : X.calm = true) (hg' : Gl X "range") (hm : X.mg "range" = none) (ha : PA X [a, b] ta) (hg : PG X tg g) (hb : PSs X body tb) (hs : starEach [a, b] X.env = [(false, eval a X.env), (false, eval b X.env)] := by rfl)
    (hs3 : starEach [b] X.env = [(false, eval b X.env)] := by rfl) (hs2 : ∀ x, foldedSetIterable (.Call (.Name "range" p) [a, b] [] p2) X.env x = pure x := by intro _; rfl) : PS X (.For tg (.Call (.Name "range" p) [a, b] [] p2) body [] pos) (fForR2 ta g tb) :=
  PS_imp (ps_for hp hc (pi_range2 hg' hm (PA_mo ha) hs hs3) hg hb hs2) fun _ _ _ h => ⟨_, h, fun _ _ ⟨i, j, x1, x2, Pv, h0, hs, hd⟩ => ⟨i, j, x1, x2, for_range Pv h0 hs hd⟩⟩
theorem ps_forS (hp : PassesOwn (model X.prog X.w) X.A X.env X.xe) (hc : X.calm = true) (hl : PE X iter tl) (hg : PG X tg g) (hb : PSs X body tb) (hs : ∀ x, foldedSetIterable iter X.env x = pure x := by intro _; rfl) :
    PS X (.For tg iter body [] pos) (fForS tl g tb) :=
  PS_imp (ps_for hp hc (pi_str (PE_mo hl)) hg hb hs) fun D σ H h => ⟨_, h, fun _ _ ⟨z, x1, Pv, h0, hs, hd⟩ => ⟨z, x1, for_it walk_str Pv h0 (fun _ _ _ _ _ => trivial) (fun i x σ H H' hi q ⟨e, c, hc, ev⟩ => by subst e ev; exact hs i c σ _ (by simpa using hc) q) hd⟩⟩
end
/-- (a, b) = a tuple -/
def fTup (n : Nat) (t : TGs) : TG := fun v σ H Q => ∃ a xs, v = .ref a ∧ H a = some (.tup xs) ∧ xs.length = n ∧ t xs σ H Q
theorem pg_tupC {X : Cx} {pos : Pos} {es : List Expr} {k : Nat} {t : TGs} {n : Nat} (hc : X.calm = true) (h : PGs X es t)
    (hn : (assignEach es X.env).length = n := by rfl) (hst : (assignEach es X.env).findIdx? (·.1) = none := by rfl) : PG X (.Tuple es k pos) (fTup n t) :=
  PG_imp (pg_tup hc h hn hst) fun _ _ _ _ ⟨a, xs, x1, x2, x3, x4⟩ => ⟨a, xs, x1, SqT.of x2, x3, x4⟩
/-! ### comprehensions -/
def moT (t : TT) : TT := fun σ H Q => ∃ Q1 : Bool → Hp → Prop, t σ H Q1 ∧ ∀ b H', Q1 b H' → Q b H'
def moG (g : TG) : TG := fun v σ H Q => ∃ Q1 : St → Hp → Prop, g v σ H Q1 ∧ ∀ σ' H', Q1 σ' H' → Q σ' H'
theorem PTs_mo {X : Cx} {ifs : List Expr} {t : TT} (h : PTs X ifs t) : PTs X ifs (moT t) := ⟨fun pins s σ H Q I q => by
  obtain ⟨Q1, q1, k⟩ := q
  exact thn (h.run pins s σ H Q1 I q1) fun b s' ⟨H', I', z⟩ => ⟨H', I', k b H' z⟩⟩
theorem PG_mo {X : Cx} {e : Expr} {g : TG} (h : PG X e g) : PG X e (moG g) := ⟨fun pins s σ H v u Q I r q => by
  obtain ⟨Q1, q1, k⟩ := q
  exact thn (h.run pins s σ H v u Q1 I r q1) fun _ s' ⟨σ', H', I', z⟩ => ⟨σ', H', I', k σ' H' z⟩⟩
/-- the word holds again, the new list still at D -/
def Nxt (I' : Hp) (D : Addr) (acc acc' : List V) (H : Hp) (R : Hp → List V → List (Addr × HO) → Prop) : Prop := ∃ I2 M2, Sub I' I2 ∧ W I2 H ((D, .lst acc) :: M2) ∧ R I2 acc' M2
theorem nxt {I' I2 H : Hp} {D : Addr} {acc acc' : List V} {R : Hp → List V → List (Addr × HO) → Prop} {M2 : List (Addr × HO)} (s : Sub I' I2) (w : W I2 H ((D, .lst acc) :: M2)) (r : R I2 acc' M2) : Nxt I' D acc acc' H R := ⟨I2, M2, s, w, r⟩
/-- what a comprehension asks: n turns, the i-th item told by item; src: what is walked stands; R: the word between two turns, of the turn, what does not change, the new list's items, what may change -/
def CompW (src : Hp → Prop) (n : Nat) (item : Nat → V → Prop) (g : TG) (tt : TT) (te : TE) (vs : List Nat) (σ : St) (H1 : Hp) (Q : VK) : Prop :=
  ∃ (I : Hp) (M : List (Addr × HO)) (R : Nat → Hp → List V → List (Addr × HO) → Prop), W I H1 M ∧ n ≤ 1000000 ∧ R 0 I [] M ∧
    (∀ i I' acc M' D H', R i I' acc M' → Sub I I' → W I' H' ((D, .lst acc) :: M') → src H') ∧
    (∀ D i x H' I' acc M', i < n → item i x → Sub I I' → W I' H' ((D, .lst acc) :: M') → R i I' acc M' → acc.length ≤ i → g x (wipe σ vs) H' fun σ2 H2 => wipe σ2 vs = wipe σ vs ∧ tt σ2 H2 fun b H3 =>
      if b = true then te σ2 H3 fun y H4 => Nxt I' D acc (acc ++ [y]) H4 (R (i + 1)) else Nxt I' D acc acc H3 (R (i + 1))) ∧
    ∀ D H' I' acc M', Sub I I' → W I' H' ((D, .lst acc) :: M') → R n I' acc M' → acc.length ≤ n → Q (.ref D) H'
def fLcL (tl : TE) (g : TG) (tt : TT) (te : TE) (vs : List Nat) : TE := fun σ H Q => tl σ H fun x H1 => ∃ a xs, x = .ref a ∧ H1 a = some (.lst xs) ∧ CompW (fun H => H a = some (.lst xs)) xs.length (fun i x => xs[i]? = some x) g tt te vs σ H1 Q
def fLcT (tl : TE) (g : TG) (tt : TT) (te : TE) (vs : List Nat) : TE := fun σ H Q => tl σ H fun x H1 => ∃ a xs, x = .ref a ∧ H1 a = some (.tup xs) ∧ CompW (fun H => H a = some (.tup xs)) xs.length (fun i x => xs[i]? = some x) g tt te vs σ H1 Q
def fLcS (tl : TE) (g : TG) (tt : TT) (te : TE) (vs : List Nat) : TE := fun σ H Q => tl σ H fun x H1 => ∃ z : Str, x = .str z ∧ CompW (fun _ => True) z.cps.size (fun i x => ∃ c, z.cps.toList[i]? = some c ∧ x = .str ⟨#[c]⟩) g tt te vs σ H1 Q
def fLcR1 (ta : TA) (g : TG) (tt : TT) (te : TE) (vs : List Nat) : TE := fun σ H Q => ta σ H fun us H1 => ∃ j : Int, us = [.int j] ∧ -(2 ^ 62) ≤ j ∧ j < 2 ^ 62 ∧ CompW (fun _ => True) j.toNat (fun i x => x = .int (i : Int)) g tt te vs σ H1 Q
theorem line_big : 1000000 < sizeLine := by rw [sizeLine_eq]; decide
section
variable {g : TG} {tt : TT} {te tl : TE} {ta : TA} {vs : List Nat} {σ : St} {H : Hp} {Q : VK} {K : PySem.W.Frag}
theorem comp_up {J : It} {n : Nat} {G : Hp → Prop} {Y : Nat → Hp → V → Hp → Prop} {src : Hp → Prop} {item : Nat → V → Prop} (w : Walk J n G Y) (hG : ∀ H, src H → G H) (hY : ∀ i H x H', i < n → src H → Y i H x H' → H' = H ∧ item i x) (h : CompW src n item g tt te vs σ H Q) : ∀ D, H D = none →
    ∃ W : Nat → Nat → Hp → Prop, (∃ m, W 0 m (upd H D (.lst []))) ∧ ∀ i m H, W i m H →
      (J.stop i H ∧ Q (.ref D) H) ∨ (J.go i H ∧ ∃ Nx : Hp → Prop, (∀ H', Nx H' → ∃ m', m' < m ∧ W (i + 1) m' H') ∧ ∀ x H', J.yld i H x H' → moG g x (wipe σ vs) H' fun σ2 H2 => wipe σ2 vs = wipe σ vs ∧ moT tt σ2 H2 fun b H3 =>
        if b = true then mo te σ2 H3 fun y H4 => ∃ acc, H4 D = some (.lst acc) ∧ acc.length < sizeLine ∧ Nx (upd H4 D (.lst (acc ++ [y]))) else Nx H3) := by
  intro D hD
  obtain ⟨I, M, R, w0, hn, r0, hsrc, hs, hd⟩ := h
  refine lc_it w (fun i H' => ∃ I' acc M', Sub I I' ∧ W I' H' ((D, .lst acc) :: M') ∧ R i I' acc M' ∧ acc.length ≤ i) ⟨I, [], M, Sub.refl I, w0.newM hD, r0, Nat.le_refl _⟩ (fun i H' _ ⟨I', acc, M', s, w1, r, _⟩ => hG _ (hsrc i I' acc M' D H' r s w1)) (fun i x H' H2 hi ⟨I', acc, M', s, w1, r, l⟩ y => ?_) fun H' ⟨I', acc, M', s, w1, r, l⟩ => hd D H' I' acc M' s w1 r l
  obtain ⟨rfl, it⟩ := hY i H' x H2 hi (hsrc i I' acc M' D _ r s w1) y
  refine ⟨_, hs D i x _ I' acc M' hi it s w1 r l, fun σ2 H3 ⟨e, q⟩ => ⟨e, _, q, fun b H4 q => ?_⟩⟩
  cases b with
  | true =>
    rw [if_pos rfl] at q ⊢
    refine ⟨_, q, fun y H5 ⟨I2, M2, s2, w2, r2⟩ => ⟨acc, w2.has.1, ?_, I2, acc ++ [y], M2, s.trans s2, w2.put, r2, ?_⟩⟩
    · have := line_big; omega
    · rw [List.length_append]; exact Nat.succ_le_succ l
  | false =>
    rw [if_neg (by decide)] at q ⊢
    obtain ⟨I2, M2, s2, w2, r2⟩ := q
    exact ⟨I2, acc, M2, s.trans s2, w2, r2, Nat.le_succ_of_le l⟩
theorem lcL_up (h : fLcL tl g tt te vs σ H Q) : tLc (iList K (mo tl)) (moG g) (moT tt) (mo te) vs σ H Q :=
  ⟨_, h, fun _ _ ⟨a, xs, x1, x2, k⟩ => ⟨a, x1, ⟨xs, SqL.of x2⟩, comp_up (walk_list (K := K) (a := a) (xs := xs)) (fun _ h => SqL.of h) (fun i H x H' _ h y => ⟨y.1, y.2⟩) k⟩⟩
theorem lcT_up (h : fLcT tl g tt te vs σ H Q) : tLc (iTup K (mo tl)) (moG g) (moT tt) (mo te) vs σ H Q :=
  ⟨_, h, fun _ _ ⟨a, xs, x1, x2, k⟩ => ⟨a, x1, ⟨xs, SqT.of x2⟩, comp_up (walk_tup (K := K) (a := a) (xs := xs)) (fun _ h => SqT.of h) (fun i H x H' _ h y => ⟨y.1, y.2⟩) k⟩⟩
theorem lcS_up (h : fLcS tl g tt te vs σ H Q) : tLc (iStr (mo tl)) (moG g) (moT tt) (mo te) vs σ H Q :=
  ⟨_, h, fun _ _ ⟨z, x1, k⟩ => ⟨z, x1, comp_up walk_str (fun _ _ => trivial) (fun i H x H' _ _ ⟨e, c, hc, ev⟩ => ⟨e, c, by simpa using hc, ev⟩) k⟩⟩
theorem lcR1_up (h : fLcR1 ta g tt te vs σ H Q) : tLc (iRng1 (moA ta)) (moG g) (moT tt) (mo te) vs σ H Q :=
  ⟨_, h, fun _ _ ⟨j, x1, x2, x3, k⟩ => ⟨j, x1, x2, x3, comp_up walk_range (fun _ _ => trivial) (fun i H x H' _ _ y => ⟨y.1, by rw [y.2]; simp⟩) k⟩⟩
end
section
variable {X : Cx}
abbrev Blk (X : Cx) (scope : Scope) (P : Cx → Prop) : Prop := ∀ (s : Shared) (H : Hp) (C : Addr) (cl : List (Str × Addr)) (fp : List Addr), P (X.blk s H scope (compEnvC scope cl C X.env) fp)
variable {elt tg iter e1 : Expr} {ifs : List Expr} {scope : Scope} {own : List (Str × Nat)} {pos p p2 : Pos} {g : TG} {tt : TT} {te tl : TE} {ta : TA}
theorem pe_lcL (hc : X.calm = true) (hN : X.N.Nodup) (hl : PE X iter tl) (ok : BlkOk X.N X.env.scope scope own) (hg : Blk X scope fun Y => PG Y tg g) (ht : Blk X scope fun Y => PTs Y ifs tt) (he : Blk X scope fun Y => PE Y elt te) (hs : ∀ x, foldedSetIterable iter X.env x = pure x := by intro _; rfl) :
    PE X (.ListComp elt [⟨tg, iter, ifs, 0⟩] scope pos) (fLcL tl g tt te (own.map (·.2))) := PE_imp (pe_lc hc hN (pi_list (PE_mo hl)) ok (fun a b c d e => PG_mo (hg a b c d e)) (fun a b c d e => PTs_mo (ht a b c d e)) (fun a b c d f => PE_mo (he a b c d f)) hs) fun _ _ _ h => lcL_up h
theorem pe_lcT (hc : X.calm = true) (hN : X.N.Nodup) (hl : PE X iter tl) (ok : BlkOk X.N X.env.scope scope own) (hg : Blk X scope fun Y => PG Y tg g) (ht : Blk X scope fun Y => PTs Y ifs tt) (he : Blk X scope fun Y => PE Y elt te) (hs : ∀ x, foldedSetIterable iter X.env x = pure x := by intro _; rfl) :
    PE X (.ListComp elt [⟨tg, iter, ifs, 0⟩] scope pos) (fLcT tl g tt te (own.map (·.2))) := PE_imp (pe_lc hc hN (pi_tup (PE_mo hl)) ok (fun a b c d e => PG_mo (hg a b c d e)) (fun a b c d e => PTs_mo (ht a b c d e)) (fun a b c d f => PE_mo (he a b c d f)) hs) fun _ _ _ h => lcT_up h
theorem pe_lcS (hc : X.calm = true) (hN : X.N.Nodup) (hl : PE X iter tl) (ok : BlkOk X.N X.env.scope scope own) (hg : Blk X scope fun Y => PG Y tg g) (ht : Blk X scope fun Y => PTs Y ifs tt) (he : Blk X scope fun Y => PE Y elt te) (hs : ∀ x, foldedSetIterable iter X.env x = pure x := by intro _; rfl) :
    PE X (.ListComp elt [⟨tg, iter, ifs, 0⟩] scope pos) (fLcS tl g tt te (own.map (·.2))) := PE_imp (pe_lc hc hN (pi_str (PE_mo hl)) ok (fun a b c d e => PG_mo (hg a b c d e)) (fun a b c d e => PTs_mo (ht a b c d e)) (fun a b c d f => PE_mo (he a b c d f)) hs) fun _ _ _ h => lcS_up h
theorem pe_lcR1 (hc : X.calm = true) (hN : X.N.Nodup) (hg' : Gl X "range") (hm : X.mg "range" = none) (ha : PA X [e1] ta) (ok : BlkOk X.N X.env.scope scope own) (hg : Blk X scope fun Y => PG Y tg g) (ht : Blk X scope fun Y => PTs Y ifs tt) (he : Blk X scope fun Y => PE Y elt te)
    (hs0 : starEach [e1] X.env = [(false, eval e1 X.env)] := by rfl) (hs : ∀ x, foldedSetIterable (.Call (.Name "range" p) [e1] [] p2) X.env x = pure x := by intro _; rfl) :
    PE X (.ListComp elt [⟨tg, .Call (.Name "range" p) [e1] [] p2, ifs, 0⟩] scope pos) (fLcR1 ta g tt te (own.map (·.2))) := PE_imp (pe_lc hc hN (pi_range1 hg' hm (PA_mo ha) hs0) ok (fun a b c d e => PG_mo (hg a b c d e)) (fun a b c d e => PTs_mo (ht a b c d e)) (fun a b c d f => PE_mo (he a b c d f)) hs) fun _ _ _ h => lcR1_up h
variable {i : Nat} {y : Str} {py spos : Pos}
theorem ps_lcL (hc : X.calm = true) (hN : X.N.Nodup) (hy : X.N[i]? = some y) (hyl : X.env.scope.names.lookup y = some .local) (hsw : swapsWith (.ListComp elt [⟨tg, iter, ifs, 0⟩] scope pos) (some (.Name y py)) spos.line X.env = pure true)
    (hl : PE X iter tl) (ok : BlkOk X.N X.env.scope scope own) (hg : Blk X scope fun Y => PG Y tg g) (ht : Blk X scope fun Y => PTs Y ifs tt) (he : Blk X scope fun Y => PE Y elt te) (hs : ∀ x, foldedSetIterable iter X.env x = pure x := by intro _; rfl) :
    PS X (.Assign [.Name y py] (.ListComp elt [⟨tg, iter, ifs, 0⟩] scope pos) spos) (tAsg (fLcL tl g tt te (own.map (·.2))) (gName i)) := PS_imp (ps_setLc hc hN hy hyl hsw (pi_list (PE_mo hl)) ok (fun a b c d e => PG_mo (hg a b c d e)) (fun a b c d e => PTs_mo (ht a b c d e)) (fun a b c d f => PE_mo (he a b c d f)) hs) fun _ _ _ h => lcL_up h
theorem ps_lcT (hc : X.calm = true) (hN : X.N.Nodup) (hy : X.N[i]? = some y) (hyl : X.env.scope.names.lookup y = some .local) (hsw : swapsWith (.ListComp elt [⟨tg, iter, ifs, 0⟩] scope pos) (some (.Name y py)) spos.line X.env = pure true)
    (hl : PE X iter tl) (ok : BlkOk X.N X.env.scope scope own) (hg : Blk X scope fun Y => PG Y tg g) (ht : Blk X scope fun Y => PTs Y ifs tt) (he : Blk X scope fun Y => PE Y elt te) (hs : ∀ x, foldedSetIterable iter X.env x = pure x := by intro _; rfl) :
    PS X (.Assign [.Name y py] (.ListComp elt [⟨tg, iter, ifs, 0⟩] scope pos) spos) (tAsg (fLcT tl g tt te (own.map (·.2))) (gName i)) := PS_imp (ps_setLc hc hN hy hyl hsw (pi_tup (PE_mo hl)) ok (fun a b c d e => PG_mo (hg a b c d e)) (fun a b c d e => PTs_mo (ht a b c d e)) (fun a b c d f => PE_mo (he a b c d f)) hs) fun _ _ _ h => lcT_up h
theorem ps_lcS (hc : X.calm = true) (hN : X.N.Nodup) (hy : X.N[i]? = some y) (hyl : X.env.scope.names.lookup y = some .local) (hsw : swapsWith (.ListComp elt [⟨tg, iter, ifs, 0⟩] scope pos) (some (.Name y py)) spos.line X.env = pure true)
    (hl : PE X iter tl) (ok : BlkOk X.N X.env.scope scope own) (hg : Blk X scope fun Y => PG Y tg g) (ht : Blk X scope fun Y => PTs Y ifs tt) (he : Blk X scope fun Y => PE Y elt te) (hs : ∀ x, foldedSetIterable iter X.env x = pure x := by intro _; rfl) :
    PS X (.Assign [.Name y py] (.ListComp elt [⟨tg, iter, ifs, 0⟩] scope pos) spos) (tAsg (fLcS tl g tt te (own.map (·.2))) (gName i)) := PS_imp (ps_setLc hc hN hy hyl hsw (pi_str (PE_mo hl)) ok (fun a b c d e => PG_mo (hg a b c d e)) (fun a b c d e => PTs_mo (ht a b c d e)) (fun a b c d f => PE_mo (he a b c d f)) hs) fun _ _ _ h => lcS_up h
theorem ps_lcR1 (hc : X.calm = true) (hN : X.N.Nodup) (hy : X.N[i]? = some y) (hyl : X.env.scope.names.lookup y = some .local) (hsw : swapsWith (.ListComp elt [⟨tg, .Call (.Name "range" p) [e1] [] p2, ifs, 0⟩] scope pos) (some (.Name y py)) spos.line X.env = pure true)
    (hg' : Gl X "range") (hm : X.mg "range" = none) (ha : PA X [e1] ta) (ok : BlkOk X.N X.env.scope scope own) (hg : Blk X scope fun Y => PG Y tg g) (ht : Blk X scope fun Y => PTs Y ifs tt) (he : Blk X scope fun Y => PE Y elt te)
    (hs0 : starEach [e1] X.env = [(false, eval e1 X.env)] := by rfl) (hs : ∀ x, foldedSetIterable (.Call (.Name "range" p) [e1] [] p2) X.env x = pure x := by intro _; rfl) :
    PS X (.Assign [.Name y py] (.ListComp elt [⟨tg, .Call (.Name "range" p) [e1] [] p2, ifs, 0⟩] scope pos) spos) (tAsg (fLcR1 ta g tt te (own.map (·.2))) (gName i)) := PS_imp (ps_setLc hc hN hy hyl hsw (pi_range1 hg' hm (PA_mo ha) hs0) ok (fun a b c d e => PG_mo (hg a b c d e)) (fun a b c d e => PTs_mo (ht a b c d e)) (fun a b c d f => PE_mo (he a b c d f)) hs) fun _ _ _ h => lcR1_up h
end
theorem sc_ii {i j : Int} : scal (.int i) (.int j) = true := rfl
theorem sc_ss {i j : Str} : scal (.str i) (.str j) = true := rfl
theorem sc_bb {i j : Bool} : scal (.bl i) (.bl j) = true := rfl
theorem sc_in {i : Int} : scal (.int i) .non = true := rfl
theorem sc_ni {i : Int} : scal .non (.int i) = true := rfl
theorem sc_ns {i : Str} : scal .non (.str i) = true := rfl
theorem sc_sn {i : Str} : scal (.str i) .non = true := rfl
theorem sc_nn : scal .non .non = true := rfl
end TA

set_option linter.all false
set_option maxHeartbeats 2000000
/-! Facts of the text by places; calls. -/
namespace TA
open PySem PySem.Spec L2
/-- what the text's errors must say -/
def excB (K : PySem.W.Frag) (D : Addr) : Bool :=
  He.eqO (PySem.W.findIn K (.ref D) "__getattribute__") (some (some (.builtin "BaseException.__getattribute__"))) && (He.eqO (PySem.W.findIn K (.ref D) "__getattr__") (some none) && (decide (PySem.W.subIn K (.ref D) (.type "BaseException") = some true) && (PySem.W.hasDictIn K D &&
    (He.eqO (PySem.W.findIn K (.ref D) "__class__") (some (some (.builtin "object.__class__"))) && (He.eqO (PySem.W.specialIn K (.builtin "object.__class__") "__get__") (some (some (.builtin "getset_descriptor.__get__"))) &&
      (decide (PySem.W.takesIn K (.builtin "object.__class__") = some true) && decide (PySem.W.mroIn K D (.type "object") = some true)))))))
theorem excB_ok {K : PySem.W.Frag} {D : Addr} (h : excB K D = true) : ExcC K D := by
  unfold excB at h
  simp only [Bool.and_eq_true, decide_eq_true_eq] at h
  obtain ⟨a, b, c, d, e, f, g, i⟩ := h
  exact ⟨He.eqO_ok a, He.eqO_ok b, c, d, He.eqO_ok e, He.eqO_ok f, g, i⟩
def kitB (K : PySem.W.Frag) (x y : Str) (b : Bool) : Bool := decide (PySem.W.kitOne K (.ref (He.ga K x)) (.ref (He.ga K y)) = some b)
def kitV (K : PySem.W.Frag) (x : Str) : Bool := decide (PySem.W.kitOne K (.ref (He.ga K x)) (.type "ValueError") = some true)
abbrev errs : List Str := ["BadText", "BadNumber", "BadAsk"]
def askB (K : PySem.W.Frag) (x : Str) : Bool := decide (PySem.W.exmOne K (.ref (He.ga K x)) (.ref (He.ga K "AskError")) = some true)
def isB (K : PySem.W.Frag) : Bool := (errs.all fun x => excB K (He.ga K x) && (kitV K x && errs.all fun y => kitB K x y (decide (x = y)))) && errs.all fun x => askB K x
/-- the text's own errors -/
def errV (K : PySem.W.Frag) : List Value := errs.map fun x => .ref (He.ga K x)
theorem errV_in {K : PySem.W.Frag} {x : Str} (h : x ∈ errs) : Value.ref (He.ga K x) ∈ errV K := List.mem_map.mpr ⟨x, h, rfl⟩
theorem errV_ok {K : PySem.W.Frag} (h : isB K = true) : ∀ v ∈ errV K, PySem.W.exmOne K v (.ref (He.ga K "AskError")) = some true := by
  intro v hv
  obtain ⟨x, hx, rfl⟩ := List.mem_map.mp hv
  unfold isB at h
  rw [Bool.and_eq_true] at h
  exact of_decide_eq_true (List.all_eq_true.mp h.2 x hx)
/-- what the text has written, as the head tells it -/
structure TX (fa : List He.Fa) (K : PySem.W.Frag) (mg : Str → Option Value) (b : PySem.W.Frag → Bool := isB) : Prop where
  hp : ∃ h : Heap, K.In h ∧ h.Ns mainGlobals mg
  ok : ∀ f ∈ fa, f.ok K = true
  is : b K = true
section
variable {fa : List He.Fa} {K : PySem.W.Frag} {mg : Str → Option Value} {b : PySem.W.Frag → Bool}
theorem TX.f (T : TX fa K mg b) (i : Nat) {f : He.Fa} (h : fa[i]? = some f) : f.ok K = true := T.ok f (List.mem_of_getElem? h)
theorem TX.glo (T : TX fa K mg b) (i : Nat) {x : Str} (h : fa[i]? = some (.glo x) := by rfl) : mg x = some (.ref (He.ga K x)) := let ⟨_, X, G⟩ := T.hp; He.glo_ok X G (T.f i h)
theorem TX.free (T : TX fa K mg b) (i : Nat) {x : Str} (h : fa[i]? = some (.free x) := by rfl) : mg x = none := let ⟨_, X, G⟩ := T.hp; He.free_ok X G (T.f i h)
theorem TX.int (T : TX fa K mg b) (j : Nat) {x : Str} {i : Int} (h : fa[j]? = some (.int x i) := by rfl) : ∃ t, mg x = some (.int i t) := let ⟨_, X, G⟩ := T.hp; He.int_ok X G (T.f j h)
theorem TX.str (T : TX fa K mg b) (j : Nat) {x z : Str} (h : fa[j]? = some (.str x z) := by rfl) : ∃ t, mg x = some (.str z t) := let ⟨_, X, G⟩ := T.hp; He.str_ok X G (T.f j h)
theorem TX.cls (T : TX fa K mg b) (i : Nat) {x : Str} (h : fa[i]? = some (.cls x) := by rfl) : Cls K (He.ga K x) := He.cls_ok (T.f i h)
theorem TX.noat (T : TX fa K mg b) (i : Nat) {x f : Str} (h : fa[i]? = some (.noat x f) := by rfl) : NoAttr K (He.ga K x) f := He.noat_ok (T.f i h)
theorem TX.meth (T : TX fa K mg b) (i : Nat) {x m : Str} (h : fa[i]? = some (.meth x m) := by rfl) : Meth K (He.ga K x) m (He.ma K (He.ga K x) m) := He.meth_ok (T.f i h)
theorem TX.mkr (T : TX fa K mg b) (i : Nat) {x : Str} (h : fa[i]? = some (.mkr x) := by rfl) : Mk K (He.ga K x) (He.ma K (He.ga K x) "__init__") := He.mkr_ok (T.f i h)
theorem TX.exc (T : TX fa K mg b) (i : Nat) {x : Str} (h : fa[i]? = some (.exc x) := by rfl) : PySem.W.excIn K (He.ga K x) He.veBase "ValueError.__new__" = true ∧ PySem.W.keepIn K (.ref (He.ga K x)) = true ∧ PySem.W.subIn K (.ref (He.ga K x)) (.type "BaseException") = some true ∧
    PySem.W.typeIn K (.ref (He.ga K x)) = some (.type "type") := He.exc_ok (T.f i h)
theorem TX.exm (T : TX fa K mg b) (i : Nat) {x y : Str} {b : Bool} (h : fa[i]? = some (.exm x y b) := by rfl) : PySem.W.exmOne K (.ref (He.ga K x)) (.ref (He.ga K y)) = some b := He.exm_ok (T.f i h)
end
/-- a constant of the module -/
theorem pe_cI {X : Cx} {x : Str} {i : Int} {pos : Pos} (h : ∃ t, X.mg x = some (.int i t)) (hg : Gl X x := by rfl) (hd : (x == ("__debug__" : Str)) = false := by decide) : PE X (.Name x pos) (tC (.int i)) := by
  obtain ⟨t, h⟩ := h
  exact pe_glob hg h ⟨t, rfl⟩ hd
theorem pe_cS {X : Cx} {x z : Str} {pos : Pos} (h : ∃ t, X.mg x = some (.str z t)) (hg : Gl X x := by rfl) (hd : (x == ("__debug__" : Str)) = false := by decide) : PE X (.Name x pos) (tC (.str z)) := by
  obtain ⟨t, h⟩ := h
  exact pe_glob hg h ⟨t, rfl⟩ hd
/-- a def that keeps its promise, as callers see it -/
def Cal (P : Program) (w : World) (K : PySem.W.Frag) (mg : Str → Option Value) (base : Heap) (k : Nat) (p : Str × Option Str) (ps : List Str) (sp : Sp) : Prop :=
  ∃ fd, FnOk P w K mg base (L2.CX P w) k (He.fAd K p) fd ps sp ∧ Binds K fd ps [] ∧ PySem.W.keepIn K (.ref (He.fAd K p)) = true
abbrev CalX (X : Cx) (k : Nat) (p : Str × Option Str) (ps : List Str) (sp : Sp) : Prop := Cal X.prog X.w X.K X.mg X.base k p ps sp
/-- what leaves a call leaves the def -/
abbrev Pss (X : Cx) (E : XK) : Prop := Passes (L2.CX X.prog X.w) X E
section
variable {X : Cx} {k : Nat} {ps : List Str} {sp : Sp} {E : XK} {x c m : Str} {p pos apos : Pos} {e o : Expr} {es : List Expr} {ta : TE} {t : TA}
theorem pe_cal (F : CalX X k (x, none) ps sp) (hr : Room k X.A) (hm : X.mg x = some (.ref (He.ga X.K x))) (hx : Pss X E) (ha : PA X (e :: es) t) (hg : Gl X x := by rfl) (hdb : (x == ("__debug__" : Str)) = false := by decide)
    (he : starEach (e :: es) X.env = (false, eval e X.env) :: starEach es X.env := by rfl) (hpl : (backTo pos (starEach es X.env)).any (·.1) = false := by rfl) :
    PE X (.Call (.Name x p) (e :: es) [] pos) (tCall sp [] E t) := by
  obtain ⟨fd, F, B, kp⟩ := F
  exact pe_call F hr hg hm kp B .nil hx ha hdb he hpl
theorem pe_cal0 (F : CalX X k (x, none) ps sp) (hr : Room k X.A) (hm : X.mg x = some (.ref (He.ga X.K x))) (hx : Pss X E) (hg : Gl X x := by rfl) (hdb : (x == ("__debug__" : Str)) = false := by decide) :
    PE X (.Call (.Name x p) [] [] pos) (tCall sp [] E tNil) := by
  obtain ⟨fd, F, B, kp⟩ := F
  exact pe_call0 F hr hg hm kp B .nil hx hdb
/-- o.m(e, ..) of an instance of the class named c -/
def fMeth (C : Addr) (m : Str) (sp : Sp) (E : XK) (ta : TE) (t : TA) : TE := tMeth C m sp [] E ta t
theorem pe_calM {pl : Sem Bool} (F : CalX X k (c, some m) ps sp) (cl : Cls X.K (He.ga X.K c)) (hm : Meth X.K (He.ga X.K c) m (He.ma X.K (He.ga X.K c) m)) (hr : Room k X.A) (hx : Pss X E) (he : PE X o ta) (ha : PA X (e :: es) t)
    (hst : starEach (e :: es) X.env = (false, eval e X.env) :: starEach es X.env := by rfl) (hpl : (backTo pos (starEach es X.env)).any (·.1) = false := by rfl)
    (ht : eval (.Call (.Attribute o m apos) (e :: es) [] pos) X.env = (do
      let ov ← eval o X.env
      standAt apos.atName
      let (f, first) ← holding [ov] (getMethod ov m pl)
      callWith pos f first (backTo pos (starEach (e :: es) X.env)) (backToKw pos (keywordEach [] X.env))) := by rfl) :
    PE X (.Call (.Attribute o m apos) (e :: es) [] pos) (fMeth (He.ga X.K c) m sp E ta t) := by
  obtain ⟨fd, F, B, kp⟩ := F
  exact pe_meth he cl hm F hr B .nil hx ha hst hpl ht
theorem pe_calM0 {pl : Sem Bool} (F : CalX X k (c, some m) ps sp) (cl : Cls X.K (He.ga X.K c)) (hm : Meth X.K (He.ga X.K c) m (He.ma X.K (He.ga X.K c) m)) (hr : Room k X.A) (hx : Pss X E) (he : PE X o ta)
    (ht : eval (.Call (.Attribute o m apos) [] [] pos) X.env = (do
      let ov ← eval o X.env
      standAt apos.atName
      let (f, first) ← holding [ov] (getMethod ov m pl)
      callWith pos f first (backTo pos (starEach [] X.env)) (backToKw pos (keywordEach [] X.env))) := by rfl) :
    PE X (.Call (.Attribute o m apos) [] [] pos) (fMeth (He.ga X.K c) m sp E ta tNil) := by
  obtain ⟨fd, F, B, kp⟩ := F
  exact pe_meth0 he cl hm F hr B .nil hx ht
def fMake (C : Addr) (sp : Sp) (E : XK) (t : TA) : TE := tMake C sp [] E t
theorem pe_calC (F : CalX X k (c, some "__init__") ps sp) (M : Mk X.K (He.ga X.K c) (He.ma X.K (He.ga X.K c) "__init__")) (hr : Room (k + 1) X.A) (hm : X.mg c = some (.ref (He.ga X.K c))) (hx : Pss X E) (ha : PA X (e :: es) t) (hg : Gl X c := by rfl)
    (hdb : (c == ("__debug__" : Str)) = false := by decide) (he : starEach (e :: es) X.env = (false, eval e X.env) :: starEach es X.env := by rfl) (hpl : (backTo pos (starEach es X.env)).any (·.1) = false := by rfl) :
    PE X (.Call (.Name c p) (e :: es) [] pos) (fMake (He.ga X.K c) sp E t) := by
  obtain ⟨fd, F, B, kp⟩ := F
  exact pe_make M F hr hg hm B .nil hx ha hdb he hpl
theorem pe_calC0 (F : CalX X k (c, some "__init__") ps sp) (M : Mk X.K (He.ga X.K c) (He.ma X.K (He.ga X.K c) "__init__")) (hr : Room (k + 1) X.A) (hm : X.mg c = some (.ref (He.ga X.K c))) (hx : Pss X E) (hg : Gl X c := by rfl)
    (hdb : (c == ("__debug__" : Str)) = false := by decide) : PE X (.Call (.Name c p) [] [] pos) (fMake (He.ga X.K c) sp E tNil) := by
  obtain ⟨fd, F, B, kp⟩ := F
  exact pe_make0 M F hr hg hm B .nil hx hdb
end
/-- raise X('..') -/
def fRaise (W : WX) (C : Addr) : TS := fun _ σ H => W (.ref C) none σ H
theorem ps_raiseC {X : Cx} {W : WX} {x m : Str} {j : Nat} {p p2 pos pos2 : Pos} (hc : X.calm = true) (tk : Takes X W)
    (q : PySem.W.excIn X.K (He.ga X.K x) He.veBase "ValueError.__new__" = true ∧ PySem.W.keepIn X.K (.ref (He.ga X.K x)) = true ∧ PySem.W.subIn X.K (.ref (He.ga X.K x)) (.type "BaseException") = some true ∧ PySem.W.typeIn X.K (.ref (He.ga X.K x)) = some (.type "type"))
    (hm : X.mg x = some (.ref (He.ga X.K x))) (hg : Gl X x := by rfl) (hdb : (x == ("__debug__" : Str)) = false := by decide) :
    PS X (.Raise (some (.Call (.Name x p) [.Constant (.str m) j p2] [] pos)) none pos2) (fRaise W (He.ga X.K x)) :=
  ps_raise hc tk (pmk_own PySem.F.excBase_ValueError q.1 hm q.2.1 (raises_own q.2.2.1 q.2.2.2) hg hdb)
/-! ### the def's rule -/
abbrev WD (E : XK) : WX := fun cls d _ H => E cls d H
section
variable {P : Program} {w : World} {K : PySem.W.Frag} {mg : Str → Option Value} {base : Heap} {d : He.DefD} {N ps : List Str} {k : Nat} {sp : Sp}
theorem takesD {CXx : Cx} {E : XK} (hs : CXx.stack = CXx.env :: CXx.outer) (hf : CXx.env.frame = some CXx.env.locals) (hex : CXx.ex = []) {E1 : Value → Shared → Prop}
    (hx : CXx.xe = fun e s' => wpAny (model CXx.prog CXx.w) CXx.A (leaving CXx.env e) (fun _ s'' => L2.CX CXx.prog CXx.w CXx.outer CXx.H_0 CXx.s_0 E e s'') E1 s') : Takes CXx (WD E) := takes_of hs hf hex hx
theorem passD {X : Cx} {E : XK} (tk : Takes X (WD E)) : Pss X E := passes_call tk fun _ _ _ _ h => h
/-- a def by its body's derivation (for every context of its frame) and its reading -/
theorem cal_of (hd : ∃ fd, FunD K d.name d.qual d.params d.body d.scope (d.dvs K) (d.kws K) (He.fAd K d.at_) fd) (h0 : d.dfl = [] := by rfl) (h1 : d.kwd = [] := by rfl) (S : FnScope N ps d.scope) (len : ∀ vs H Q E, sp vs H Q E → vs.length = ps.length)
    (hb : ∀ (kV doc pm : Value) (an : Option Addr) (cdv ct : Value) (us : List Value), us.length = ps.length → bindArgs (PySem.W.fnOf d.name d.qual d.params d.body d.scope .none kV doc pm an cdv ct) ⟨us, []⟩ = pure (ps.zip us))
    {t : XK → TS} (der : ∀ (cdv : Value) (A : Around) (outer : List Env) (s : Shared) (H : Hp) (E : XK), Room k (A.deeper (PyProof.Rows.envOfC d.qual d.scope s.heap.objs.size (He.fAd K d.at_) cdv)) →
      PSs (cxOf (L2.CX P w) P w K mg base N d.qual d.scope (He.fAd K d.at_) cdv A outer s H E) d.body (t E))
    (pure_ : ∀ vs H Q E, sp vs H Q E → t E { nx := fun _ H' => Q .non H', rt := Q } (start N vs) H) : Cal P w K mg base (k + 1) d.at_ ps sp := by
  obtain ⟨fd, F⟩ := hd
  have e0 : d.dvs K = [] := by unfold He.DefD.dvs; rw [h0]; rfl
  rw [e0] at F
  exact ⟨fd, F.ok S len fun cdv A outer s H vs Q E hr h => ⟨t E, der cdv A outer s H E hr, pure_ vs H Q E h⟩, F.bindsN hb, F.kp⟩
end
section
variable {P : Program} {w : World} {K : PySem.W.Frag} {mg : Str → Option Value} {base : Heap} {N : List Str} {q : Str} {sc : Scope} {f : Addr} {cdv : Value} {A : Around} {outer : List Env} {s : Shared} {H : Hp} {E : XK}
theorem tkOf : Takes (cxOf (L2.CX P w) P w K mg base N q sc f cdv A outer s H E) (WD E) := takes_of rfl rfl rfl rfl
theorem pxOf : Pss (cxOf (L2.CX P w) P w K mg base N q sc f cdv A outer s H E) E := passD tkOf
theorem poOf : PassesOwn (model P w) (cxOf (L2.CX P w) P w K mg base N q sc f cdv A outer s H E).A (cxOf (L2.CX P w) P w K mg base N q sc f cdv A outer s H E).env (cxOf (L2.CX P w) P w K mg base N q sc f cdv A outer s H E).xe := passes_of (X := cxOf (L2.CX P w) P w K mg base N q sc f cdv A outer s H E) rfl
end
theorem pxB {X : Cx} : Pss X E0 := passL
end TA

set_option linter.all false
set_option maxHeartbeats 2000000
/-! More rules over tracked objects. -/
namespace TA
open PySem PySem.Spec L2
def gLenK (K : PySem.W.Frag) : List V → Hp → VK → Prop := fun xs H Q => ∃ p ys, xs = [.ref p] ∧ SqL K H p ys ∧ Q (.int ys.length) H
def gCatS : R2 := fun x y H Q => ∃ i j : Str, x = .str i ∧ y = .str j ∧ i.length + j.length ≤ sizeLine ∧ Q (.str (i ++ j)) H
def gStrI : List V → Hp → VK → Prop := fun xs H Q => ∃ i : Int, xs = [.int i] ∧ i.natAbs.log2 < 1920 ∧ Q (.str (toString i)) H
def gIntB : List V → Hp → VK → Prop := fun xs H Q => ∃ k : Bool, xs = [.bl k] ∧ Q (.int (if k then 1 else 0)) H
def gOrd : List V → Hp → VK → Prop := fun xs H Q => ∃ x : Str, xs = [.str x] ∧ x.length = 1 ∧ Q (.int (x.cps.getD 0 0 : Nat)) H
def gMin2 : List V → Hp → VK → Prop := fun xs H Q => ∃ i j : Int, xs = [.int i, .int j] ∧ Q (.int (if j < i then j else i)) H
def gMax2 : List V → Hp → VK → Prop := fun xs H Q => ∃ i j : Int, xs = [.int i, .int j] ∧ Q (.int (if j > i then j else i)) H
def gInS : R2 := fun x y H Q => ∃ i j : Str, x = .str i ∧ y = .str j ∧ Q (.bl (!(Builtin.Str.occurrences j i 0 j.length 1).isEmpty)) H
def gNinS : R2 := fun x y H Q => ∃ i j : Str, x = .str i ∧ y = .str j ∧ Q (.bl (!(!(Builtin.Str.occurrences j i 0 j.length 1).isEmpty))) H
section
variable {X : Cx}
theorem lenK : CallR X (.builtin "len") (gLenK X.K) := CallR_imp call_len_seq fun _ _ _ ⟨p, ys, a, b, c⟩ => ⟨p, ys, a, .inl b, c⟩
theorem catS : OpR X (binaryOp .Add) gCatS := op_add_str
theorem strI : CallR X (.type "str") gStrI := call_str_int
theorem intB : CallR X (.type "int") gIntB := CallR_imp call_int1 fun _ _ _ h => .inr h
theorem ordS : CallR X (.builtin "ord") gOrd := call_ord
theorem min2 (hc : X.calm = true) : CallR X (.builtin "min") gMin2 := call_min2 hc
theorem max2 (hc : X.calm = true) : CallR X (.builtin "max") gMax2 := call_max2 hc
theorem inS : OpR X (compareOp .In) gInS := op_in_str
theorem ninS : OpR X (compareOp .NotIn) gNinS := op_notin_str
end
/-! ### data at any depth, over tracked objects -/
mutual
inductive Rp (H : Hp) : V → PyData → Prop
  | non : Rp H .non .none
  | bl (b : Bool) : Rp H (.bl b) (.bool b)
  | int (i : Int) : Rp H (.int i) (.int i)
  | str (x : Str) : Rp H (.str x) (.str x)
  | lst {a : Addr} {xs : List V} {ds : List PyData} : H a = some (.lst xs) → RpAll H xs ds → Rp H (.ref a) (.list ds)
  | tup {a : Addr} {xs : List V} {ds : List PyData} : H a = some (.tup xs) → RpAll H xs ds → Rp H (.ref a) (.tuple ds)
inductive RpAll (H : Hp) : List V → List PyData → Prop
  | nil : RpAll H [] []
  | cons {v : V} {vs : List V} {d : PyData} {ds : List PyData} : Rp H v d → RpAll H vs ds → RpAll H (v :: vs) (d :: ds)
end
mutual
theorem Rp.dp {K : PySem.W.Frag} {H : Hp} : ∀ {v : V} {d : PyData}, Rp H v d → Dp K H v d
  | _, _, .non => .non
  | _, _, .bl b => .bl b
  | _, _, .int i => .int i
  | _, _, .str x => .str x
  | _, _, .lst h r => .lst (SqL.of h) r.dp
  | _, _, .tup h r => .tup (SqT.of h) r.dp
theorem RpAll.dp {K : PySem.W.Frag} {H : Hp} : ∀ {vs : List V} {ds : List PyData}, RpAll H vs ds → DpAll K H vs ds
  | _, _, .nil => .nil
  | _, _, .cons h r => .cons h.dp r.dp
end
mutual
theorem Rp.mono {H H' : Hp} (e : ∀ b o, H b = some o → H' b = some o) : ∀ {v : V} {d : PyData}, Rp H v d → Rp H' v d
  | _, _, .non => .non
  | _, _, .bl b => .bl b
  | _, _, .int i => .int i
  | _, _, .str x => .str x
  | _, _, .lst h r => .lst (e _ _ h) (r.mono e)
  | _, _, .tup h r => .tup (e _ _ h) (r.mono e)
theorem RpAll.mono {H H' : Hp} (e : ∀ b o, H b = some o → H' b = some o) : ∀ {vs : List V} {ds : List PyData}, RpAll H vs ds → RpAll H' vs ds
  | _, _, .nil => .nil
  | _, _, .cons h r => .cons (h.mono e) (r.mono e)
end
mutual
theorem Rp.plain {H : Hp} : ∀ {v : V} {d : PyData}, Rp H v d → d.plain = true
  | _, _, .non => by simp [PyData.plain]
  | _, _, .bl b => by simp [PyData.plain]
  | _, _, .int i => by simp [PyData.plain]
  | _, _, .str x => by simp [PyData.plain]
  | _, _, .lst h r => by rw [PyData.plain]; exact r.plain
  | _, _, .tup h r => by rw [PyData.plain]; exact r.plain
theorem RpAll.plain {H : Hp} : ∀ {vs : List V} {ds : List PyData}, RpAll H vs ds → PyData.plainAll ds = true
  | _, _, .nil => by simp [PyData.plainAll]
  | _, _, .cons h r => by rw [PyData.plainAll, h.plain, r.plain]; rfl
end
def gEqD : R2 := fun x y H Q => ∃ d e, Rp H x d ∧ Rp H y e ∧ (d.depth ≤ 50 ∨ e.depth ≤ 50) ∧ Q (.bl (PyData.eqv d e)) H
def gNeD : R2 := fun x y H Q => ∃ d e, Rp H x d ∧ Rp H y e ∧ (d.depth ≤ 50 ∨ e.depth ≤ 50) ∧ Q (.bl (!PyData.eqv d e)) H
theorem eqD {X : Cx} (hu : X.A.units + 64 < cLine) : OpR X (compareOp .Eq) gEqD := by
  intro pins s σ H x y v u Q I rx ry ⟨d, e, r1, r2, h, q⟩
  obtain ⟨as, a1⟩ := Dp.reads I d x v r1.dp rx
  obtain ⟨bs, a2⟩ := Dp.reads I e y u r2.dp ry
  exact SeqAt.eq_plain a1 a2 r1.plain r2.plain (by omega) ⟨.bl _, _, I, rfl, q⟩
theorem neD {X : Cx} (hu : X.A.units + 64 < cLine) : OpR X (compareOp .NotEq) gNeD := by
  intro pins s σ H x y v u Q I rx ry ⟨d, e, r1, r2, h, q⟩
  obtain ⟨as, a1⟩ := Dp.reads I d x v r1.dp rx
  obtain ⟨bs, a2⟩ := Dp.reads I e y u r2.dp ry
  exact SeqAt.ne_plain a1 a2 r1.plain r2.plain (by omega) ⟨.bl _, _, I, rfl, q⟩
section
variable {x y : V} {H : Hp} {Q : VK} {d : PyData}
/-- the same data -/
theorem eqD_t (h1 : Rp H x d) (h2 : Rp H y d) (hd : d.depth ≤ 50) (q : Q (.bl true) H) : gEqD x y H Q := ⟨d, d, h1, h2, .inl hd, by rw [SeqAt.eqv_refl_plain d h1.plain]; exact q⟩
theorem neD_f (h1 : Rp H x d) (h2 : Rp H y d) (hd : d.depth ≤ 50) (q : Q (.bl false) H) : gNeD x y H Q := ⟨d, d, h1, h2, .inl hd, by rw [SeqAt.eqv_refl_plain d h1.plain]; exact q⟩
end
theorem depthAll_le {k : Nat} : ∀ {ds : List PyData}, (∀ d ∈ ds, d.depth ≤ k) → PyData.depthAll ds ≤ k
  | [], _ => by simp [PyData.depthAll]
  | d :: ds, h => by
    rw [PyData.depthAll]
    exact Nat.max_le.mpr ⟨h d List.mem_cons_self, depthAll_le fun e he => h e (List.mem_cons_of_mem _ he)⟩
theorem depth_list {k : Nat} {ds : List PyData} (h : ∀ d ∈ ds, d.depth ≤ k) : (PyData.list ds).depth ≤ k + 1 := by
  rw [PyData.depth]; exact Nat.succ_le_succ (depthAll_le h)
theorem depth_tuple {k : Nat} {ds : List PyData} (h : ∀ d ∈ ds, d.depth ≤ k) : (PyData.tuple ds).depth ≤ k + 1 := by
  rw [PyData.depth]; exact Nat.succ_le_succ (depthAll_le h)
end TA

set_option linter.all false
set_option maxHeartbeats 2000000
/-! sorted(xs), xs a list of data that are alike. -/
namespace TA
open PySem PySem.Spec L2
/-- x does not stand behind y -/
def dle (x y : PyData) : Bool := !PySem.W.dataLt y x
def gSortD : List V → Hp → VK → Prop := fun vs H Q => ∃ (a : Addr) (zs : List (V × PyData)), vs = [.ref a] ∧ H a = some (.lst (zs.map Prod.fst)) ∧ RpAll H (zs.map Prod.fst) (zs.map Prod.snd) ∧ PySem.W.AllAlike (zs.map Prod.snd) ∧ PySem.W.Sortable (zs.map Prod.snd) ∧
  (∀ z ∈ zs, z.2.depth ≤ 50) ∧ ∀ p, H p = none → Q (.ref p) (upd H p (.lst ((zs.mergeSort fun x y => dle x.2 y.2).map Prod.fst)))
theorem each_vals : ∀ {zs : List (V × PyData)} {us : List Value}, Vals (zs.map Prod.fst) us → PySem.W.EachIs (fun (v : Value) (z : V × PyData) => RelV z.1 v) us zs
  | [], _, .nil => .nil
  | _ :: _, _, .cons r t => .cons r (each_vals t)
theorem vals_each : ∀ {zs : List (V × PyData)} {us : List Value}, PySem.W.EachIs (fun (v : Value) (z : V × PyData) => RelV z.1 v) us zs → Vals (zs.map Prod.fst) us
  | _, _, .nil => .nil
  | _, _, .cons r t => .cons r (vals_each t)
theorem each_reads {X : Cx} {pins : List (Addr × Obj)} {σ : St} {H : Hp} {s : Shared} (I : Inv X pins σ H s) : ∀ {zs : List (V × PyData)} {us : List Value}, Vals (zs.map Prod.fst) us → RpAll H (zs.map Prod.fst) (zs.map Prod.snd) →
    PySem.W.EachIs (fun (v : Value) (z : V × PyData) => ∃ as, Reads s.heap v z.2 as) us zs
  | [], _, .nil, _ => .nil
  | _ :: _, _, .cons r t, .cons h k => .cons (Dp.reads I _ _ _ h.dp r) (each_reads I t k)
theorem each_snd {R : Value → PyData → Prop} : ∀ {zs : List (V × PyData)} {us : List Value}, PySem.W.EachIs (fun v (z : V × PyData) => R v z.2) us zs → PySem.W.EachIs R us (zs.map Prod.snd)
  | _, _, .nil => .nil
  | _, _, .cons r t => .cons r (each_snd t)
theorem each_at {R : Value → V × PyData → Prop} {S : Value → V × PyData → Prop} (f : ∀ v z, R v z → S v z) {zs : List (V × PyData)} {us : List Value} (h : PySem.W.EachIs R us zs) : PySem.W.EachIs S us zs := h.mono f
theorem each_in {R : Value → V × PyData → Prop} : ∀ {zs : List (V × PyData)} {us : List Value}, PySem.W.EachIs R us zs → PySem.W.EachIs (fun v z => R v z ∧ z ∈ zs) us zs
  | _, _, .nil => .nil
  | _, _, .cons r t => .cons ⟨r, List.mem_cons_self⟩ ((each_in t).mono fun _ _ q => ⟨q.1, List.mem_cons_of_mem _ q.2⟩)
theorem sortD {X : Cx} (hu : X.A.units + 64 < cLine) : CallR X (.builtin "sorted") gSortD := by
  intro pins s σ H vs us Q I r h
  obtain ⟨a, zs, rfl, hs, hr, hal, hsb, hdp, q⟩ := h
  obtain ⟨its, rv, hl, hz⟩ := I.list (SqL.of (K := X.K) hs)
  obtain ⟨u, rfl, ru⟩ := vals1 r
  obtain rfl : u = Value.ref a := ru
  have hlen : its.length ≤ sizeLine := by rw [← rv.length]; exact hz
  have rd := each_reads I rv hr
  let h2 := PySem.W.sortingHeap (PySem.W.copyHeap s.heap its) (s.heap.objs.size + 1) its
  have old : ∀ b o, s.heap.get? b = some o → h2.get? b = some o := fun b o e => PySem.W.sorting_copy_old e
  have rd2 : PySem.W.EachIs (fun (v : Value) (z : V × PyData) => ∃ as, Reads h2 v z.2 as) its zs := rd.mono fun v z ⟨as, e⟩ => ⟨as, PySem.W.reads_keeps old e⟩
  have S : PySem.W.SortsAt X.prog X.w X.A.in1.in1 { s with heap := h2 } (PySem.W.dataKind h2 (zs.map Prod.snd)) its := by
    refine PySem.W.SortsAt.data (each_snd rd2) hal hsb fun d hd => ?_
    obtain ⟨z, hz, rfl⟩ := List.mem_map.mp hd
    have := hdp z hz
    show X.A.units + 1 + 1 + _ < cLine
    omega
  refine PySem.W.sorted_vals hl.isList S hlen ?_
  have e : PySem.W.EachIs (fun (v : Value) (z : V × PyData) => RelV z.1 v) (PySem.W.sortVals (PySem.W.dataKind h2 (zs.map Prod.snd)) false its its) (zs.mergeSort (PySem.W.sortLe (PySem.W.dataKind h2 (zs.map Prod.snd)).toKeyOrd false fun z => PySem.W.keyToks z.2)) := by
    refine PySem.W.sortVals_each (κ := PySem.W.dataKind h2 (zs.map Prod.snd)) (fun z => PySem.W.keyToks z.2) (each_vals rv) ((each_in rd2).mono fun v z ⟨⟨as, e⟩, m⟩ => ?_)
    exact PySem.W.dataKind_some hal (List.mem_map.mpr ⟨z, m, rfl⟩) e
  have e2 : (zs.mergeSort (PySem.W.sortLe (PySem.W.dataKind h2 (zs.map Prod.snd)).toKeyOrd false fun z => PySem.W.keyToks z.2)) = zs.mergeSort fun x y => dle x.2 y.2 := rfl
  rw [e2] at e
  have v2 := vals_each e
  obtain ⟨n, hn⟩ := PyProof.Rows.sortedAll_at s.heap its (PySem.W.sortVals (PySem.W.dataKind h2 (zs.map Prod.snd)) false its its).toArray
  refine ⟨.ref _, upd H _ (.lst ((zs.mergeSort fun x y => dle x.2 y.2).map Prod.fst)), I.laid (t' := s.toks) (fun b o e => PyProof.Rows.sortedAll_old e) (Nat.le_succ _) ⟨?_, _, n, v2, hn⟩, rfl, q _ (I.hok.fresh (Nat.le_succ _))⟩
  have : ((zs.mergeSort fun x y => dle x.2 y.2).map Prod.fst).length = zs.length := by rw [List.length_map, List.length_mergeSort]
  rw [this]
  simpa using hz
end TA

set_option linter.all false
set_option maxHeartbeats 4000000
/-! An error that is caught, held by a name, and asked for its class later. -/
namespace TA
open PySem PySem.Spec L2 PyProof.Rows
abbrev Sl := L2.St
/-- a caught error of the class cls stands at a -/
def ExC (cls : Value) (a : Addr) : HO := .ext fun h => ∃ (oe : Obj) (vs : Array Value), h.get? a = some oe ∧ Zc cls none oe ∧ oe.data = .fields vs
theorem exC_ok {P : Program} {w : World} {H : Hp} {h : Heap} {a : Addr} {cls : Value} {oe : Obj} {vs : Array Value} (e : h.get? a = some oe) (z : Zc cls none oe) (d : oe.data = .fields vs) : ObjOk P w H h a (ExC cls a) :=
  ⟨⟨oe, vs, e, z, d⟩, ⟨oe, e⟩, fun _ _ ⟨o, v, q, z, d⟩ k => ⟨o, v, k o q, z, d⟩⟩
section
variable {X : Cx} {pins : List (Addr × Obj)} {σ : Sl} {H : Hp} {s : Shared}
/-- an object of ours that was not tracked may be tracked from now on -/
theorem inv_track (I : Inv X pins σ H s) {a : Addr} {o : HO} (new : ObjOk X.prog X.w (upd H a o) s.heap a o) (hn : H a = none) (h0 : X.s_0.heap.get? a = none) (hL : a ≠ X.env.locals) (hC : ∀ x c, X.env.cells.lookup x = some c → c ≠ a) (hp : ∀ p ∈ X.pn ++ pins, p.1 ≠ a) :
    Inv X pins σ (upd H a o) s where
  ok := I.ok
  os := I.os
  bare := I.bare
  base := by
    have B := I.base
    have ne : ∀ {b u}, H b = some u → b ≠ a := fun {b u} e z => by rw [z, hn] at e; cases e
    exact { keep := B.keep, slot := B.slot, there := B.there
            free := fun b ob q n x => by
              have : b ≠ a := fun z => by rw [z, h0] at q; cases q
              rw [upd_ne this]; exact B.free b ob q n x
            tups := fun b xs q => by have := B.tups b xs q; rw [upd_ne (ne this)]; exact this
            frzs := fun b ob u q => by have := B.frzs b ob u q; rw [upd_ne (ne this)]; exact this
            tbls := fun b ps q => by obtain ⟨m, z⟩ := B.tbls b ps q; exact ⟨m, by rw [upd_ne (ne z)]; exact z⟩ }
  loc := I.loc
  cell := I.cell
  free := by rw [upd_ne (Ne.symm hL)]; exact I.free
  freeC := fun x c q => by rw [upd_ne (hC x c q)]; exact I.freeC x c q
  pin := fun p q => by
    obtain ⟨x1, x2, x3⟩ := I.pin p q
    exact ⟨x1, by rw [upd_ne (hp p q)]; exact x2, x3⟩
  hok := HOk.laidN I.hok (fun _ _ q => q) hn new
  len := I.len
end
/-- what «except x as n: y = n» wishes of an error of the body: j is y's slot, i is n's -/
def wHold (cs : List Value) (i j : Nat) (D : Ends) : WX := fun cls d σ H =>
  cls ∈ cs ∧ d = none ∧ ∀ a, H a = none → D.nx ((((σ.set i (some (.ref a))).set j (some (.ref a)))).set i none) (upd H a (ExC cls a))
section
variable {X : Cx} {x n y : Str} {c : Value} {i j : Nat} {body : List Stmt} {np pos pos' py pn' ps : Pos} {tb : WX → TS} {cs : List Value}
theorem ps_hold (hs : X.stack = X.env :: X.outer) (hf : X.env.frame = some X.env.locals) (hex : X.ex = []) (hN : X.N.Nodup) (hi : X.N[i]? = some n) (hj : X.N[j]? = some y) (hln : X.env.kindOf n = some .local) (hly : X.env.scope.names.lookup y = some .local) (hc : Names X x c) (hcs : ∀ v ∈ cs, PySem.W.exmOne X.K v c = some true)
    (hb : ∀ (W : WX) (pn : List (Addr × Obj)) (xe : Value → Shared → Prop), Takes (X.tr pn xe) W → PassesOwn (model X.prog X.w) X.A X.env xe → PSs (X.tr pn xe) body (tb W))
    (hd : (n == ("__debug__" : Str)) = false := by decide) (hcd : (n == ("__classdict__" : Str)) = false := by decide) (hsw : swapsWith (.Name n pn') (some (.Name y py)) ps.line X.env = pure false := by rfl) :
    PS X (.Try body [.ExceptHandler (some (.Name x np)) (some n) [.Assign [.Name y py] (.Name n pn') ps] pos'] [] [] pos) (fun D σ H => tb (wHold cs i j D) D σ H) := by
  refine ⟨fun pins s σ H D I h => ?_⟩
  have ok := I.ok
  refine wpAny_Try_except ?_
  let W := wHold cs i j D
  let hand := [ExceptHandler.ExceptHandler (some (.Name x np)) (some n) [.Assign [.Name y py] (.Name n pn') ps] pos']
  let xe : Value → Shared → Prop := fun e s₁ => wpAny (model X.prog X.w) X.A (noteFrame e X.env) (fun _ s₂ => wpAny (model X.prog X.w) X.A (setFlight e none) (fun _ s₃ => wpAny (model X.prog X.w) X.A (handleBy e X.env hand) (SP X pins D) X.xe s₃) X.xe s₂) X.xe s₁
  have tk : Takes (X.tr (X.pn ++ pins) xe) W := by
    intro u s' xx
    obtain ⟨a, B, sI, pins', σ', H', cls, d, rfl, J', nb, up, sky, na, os, ag, hm', rfl, go⟩ := xx
    have hm := hcs _ hm'
    have J : Inv X pins σ' H' sI := J'.ofTry ok
    have sky' : Sky B (X.env :: X.outer) a (Zc cls none) X.env.locals s'.heap := by rw [← hs]; exact sky
    refine Sky.land Zc.steady (by rw [ok.frames, hs]) hf sky' fun h3 fl up3 => ?_
    have J3 : Inv X pins σ' H' { s' with heap := h3 } := J.landed nb fl.1 (up.trans up3) os ag
    obtain ⟨oe, vs, he, hz, hdt⟩ := fl.there
    have nfr : a ∉ frs (X.env :: X.outer) := fun hm => by
      obtain ⟨_, o', e', hnf⟩ := fl.2.2.1.mem hm
      rw [he] at e'
      cases e'
      exact hnf _ hdt
    have nL : a ≠ X.env.locals := fun z => nfr (List.mem_filterMap.mpr ⟨X.env, List.mem_cons_self, by rw [hf, z]⟩)
    have nF : a ∉ X.fs := fun q => by
      obtain ⟨e, he, q⟩ := List.mem_filterMap.mp q
      exact nfr (List.mem_filterMap.mpr ⟨e, List.mem_cons_of_mem _ he, q⟩)
    have out : sI.heap.get? a = none := by
      cases q : sI.heap.get? a with
      | none => rfl
      | some o => have := nb a o q (by rw [hs]; exact nfr); rw [fl.2.1] at this; cases this
    have out0 : X.s_0.heap.get? a = none := by
      cases q : X.s_0.heap.get? a with
      | none => rfl
      | some o => obtain ⟨o', q'⟩ := J.base.there a o q (by rw [hex]; simp); rw [out] at q'; cases q'
    have outC : ∀ x c, X.env.cells.lookup x = some c → c ≠ a := fun x c q z => by
      obtain ⟨v, oc, hoc, _⟩ := J.cell x c q
      rw [z, out] at hoc; cases hoc
    have outP : ∀ p ∈ X.pn ++ pins, p.1 ≠ a := fun p q z => by
      have := (J.pin p q).1
      rw [z, out] at this; cases this
    have S3 := J3.suite he hdt na nL nF
    refine wpAny_handleBy_cons (codeAny_handlers_test ?_) (by intro q; cases q)
    have LT : PySem.W.Looks (model X.prog X.w) h3 (typeOf (.ref a)) cls := fun A Q E s k q => wpAny_typeOf_ref (k _ _ he) (by rw [hz.1]; exact q)
    have LM := PySem.W.exm_one (M := model X.prog X.w) (J3.kIn) LT hm
    have test : ∀ {Q : Value → Shared → Prop} {E : Value → Shared → Prop}, Q c { s' with heap := h3 } → wpAny (model X.prog X.w) (X.A.mark (some (.ref a))) (eval (.Name x np) X.env) Q E { s' with heap := h3 } := fun {Q E} q => by
      obtain ⟨g1, g2, m | ⟨m, v, nn⟩⟩ := hc
      · exact ld_glob (X := X.suite a ((a, oe) :: (X.pn ++ pins))) S3 g1 m q g2
      · exact ld_blt (X := X.suite a ((a, oe) :: (X.pn ++ pins))) S3 g1 m v q nn g2
    refine test (LM.here ?_)
    refine codeAny_handlers_suite_as ?_
    refine HandSPX.lands_againZ fl fun h4 fl4 up4 => ?_
    have J4 : Inv X pins σ' H' { s' with heap := h4 } := J.landed nb fl4.1 ((up.trans up3).trans up4) os ag
    obtain ⟨oe4, vs4, he4, hz4, hd4⟩ := fl4.there
    have S4 := J4.suite he4 hd4 na nL nF
    refine store_ok (X := X.suite a ((a, oe4) :: (X.pn ++ pins))) (v := .ref a) S4 hN hi (.inl hln) rfl (fun s5 S5 => ?_) (.inr hln)
    have run := (pss_one (ps_set (X := X.suite a ((a, oe4) :: (X.pn ++ pins))) (i := j) (x := y) (pos := ps) (pos' := py) hN hj (.inl hly) (pe_var (i := i) (x := n) (pos := pn') hi (.inl hln) hd hcd) hsw (.inr hly))).run [] s5 _ H'
      { nx := fun σ6 H6 => σ6 = ((σ'.set i (some (.ref a))).set j (some (.ref a))) ∧ H6 = H', rt := fun _ _ => False } S5 ⟨.ref a, by rw [List.getElem?_set_self (by rw [J.len]; exact (List.getElem?_eq_some_iff.mp hi).1)], rfl, rfl⟩
    refine wpAny_mono run (fun f s6 hsp => ?_) (fun _ _ z => False.elim z)
    cases f with
    | next =>
      obtain ⟨σ6, H6, S6, rfl, rfl⟩ := hsp
      have at6 : s6.heap.get? a = some oe4 := (S6.pin (a, oe4) (List.mem_append_left _ List.mem_cons_self)).1
      have J6 : Inv X pins _ _ s6 := S6.unsuite ok
      have J7 := inv_track J6 (o := ExC cls a) (exC_ok at6 hz4 hd4) na out0 nL outC outP
      exact gone_ok J7 hN hi hln fun s7 J8 => ⟨_, _, J8, go a na⟩
    | brk => obtain ⟨_, _, _, q⟩ := hsp; exact False.elim q
    | cont => obtain ⟨_, _, _, q⟩ := hsp; exact False.elim q
    | ret u => obtain ⟨_, _, _, _, _, q⟩ := hsp; exact False.elim q
  refine wpAny_mono ((hb W (X.pn ++ pins) xe tk PassesOwn.looking).run [] s σ H D (I.toTry _) h) (fun f s1 hsp => ?_) (fun e s1 he => he)
  cases f with
  | next => obtain ⟨σ', H', J', q⟩ := hsp; exact wpAny_execs_nil ⟨σ', H', J'.ofTry ok, q⟩
  | brk => obtain ⟨σ', H', J', q⟩ := hsp; exact ⟨σ', H', J'.ofTry ok, q⟩
  | cont => obtain ⟨σ', H', J', q⟩ := hsp; exact ⟨σ', H', J'.ofTry ok, q⟩
  | ret u => obtain ⟨v, σ', H', J', r, q⟩ := hsp; exact ⟨v, σ', H', J'.ofTry ok, r, q⟩
end
end TA

set_option linter.all false
set_option maxHeartbeats 4000000
/-! isinstance of a held error; count, index of flat items. -/
namespace TA
open PySem PySem.Spec L2 PyProof.Rows
/-- isinstance(e, c), e a held error of one of the classes of tab -/
def gIs (c : V) (tab : List (Addr × Bool)) : List V → Hp → VK → Prop := fun xs H Q => ∃ (a D : Addr) (b : Bool), xs = [.ref a, c] ∧ H a = some (ExC (.ref D) a) ∧ (D, b) ∈ tab ∧ Q (.bl b) H
theorem isE {X : Cx} {c : V} {cv : Value} {tab : List (Addr × Bool)} (hc : ∀ u, RelV c u → u = cv) (ht : ∀ p ∈ tab, ExcC X.K p.1 ∧ PySem.W.kitOne X.K (.ref p.1) cv = some p.2) : CallR X (.builtin "isinstance") (gIs c tab) := by
  intro pins s σ H xs us Q I r h
  obtain ⟨a, D, b, rfl, ha, hm, q⟩ := h
  obtain ⟨u, w', rfl, ru, rw'⟩ := vals2 r
  obtain rfl : u = Value.ref a := ru
  obtain rfl := hc _ rw'
  obtain ⟨C, e⟩ := ht _ hm
  obtain ⟨⟨oe, vs, hget, hz, hv⟩, _, _⟩ := I.hok _ _ ha
  have J : PySem.W.InstAt s.heap a oe D none := by
    obtain ⟨oc, od, oda, osl⟩ := oe
    obtain ⟨h1, h2⟩ := hz
    dsimp only at h1 h2 hv
    subst h1 h2 hv
    exact ⟨hget, rfl, rfl, trivial⟩
  exact PySem.W.kia_one (PySem.W.handS_kitx_exc C.hg C.hk C.hs C.hd C.ha C.hn C.ht C.hm) I.kIn J e (fun z => nomatch z) fun tk => ⟨.bl b, H, I.kept (t' := tk) fun _ _ z => z, rfl, q⟩
/-- for a class y: which of the three errors are of it -/
def tabOf (K : PySem.W.Frag) (y : Str) : List (Addr × Bool) := errs.map fun x => (He.ga K x, decide (x = y))
def tabV (K : PySem.W.Frag) : List (Addr × Bool) := errs.map fun x => (He.ga K x, true)
theorem tabOf_ok {K : PySem.W.Frag} (h : isB K = true) {y : Str} (hy : y ∈ errs) : ∀ p ∈ tabOf K y, ExcC K p.1 ∧ PySem.W.kitOne K (.ref p.1) (.ref (He.ga K y)) = some p.2 := by
  intro p hp
  obtain ⟨x, hx, rfl⟩ := List.mem_map.mp hp
  unfold isB at h
  rw [Bool.and_eq_true] at h
  have h1 := List.all_eq_true.mp h.1 x hx
  simp only [Bool.and_eq_true] at h1
  have h2 := List.all_eq_true.mp h1.2.2 y hy
  exact ⟨excB_ok h1.1, of_decide_eq_true h2⟩
theorem tabV_ok {K : PySem.W.Frag} (h : isB K = true) : ∀ p ∈ tabV K, ExcC K p.1 ∧ PySem.W.kitOne K (.ref p.1) (.type "ValueError") = some p.2 := by
  intro p hp
  obtain ⟨x, hx, rfl⟩ := List.mem_map.mp hp
  unfold isB at h
  rw [Bool.and_eq_true] at h
  have h1 := List.all_eq_true.mp h.1 x hx
  simp only [Bool.and_eq_true] at h1
  exact ⟨excB_ok h1.1, of_decide_eq_true h1.2.1⟩
section
variable {X : Cx} {e : Expr} {te : TE} {p p2 pos : Pos} {y : Str}
/-- isinstance(e, C), isinstance(e, ValueError) -/
theorem pe_is (hi : isB X.K = true) (hy : y ∈ errs) (hm : X.mg "isinstance" = none) (hg' : X.mg y = some (.ref (He.ga X.K y))) (he : PE X e te) (hg : Gl X "isinstance" := by rfl) (hg2 : Gl X y := by rfl) (hdb : (y == ("__debug__" : Str)) = false := by decide)
    (h1 : starEach [e, .Name y p2] X.env = (false, eval e X.env) :: starEach [.Name y p2] X.env := by rfl) (h2 : starEach [.Name y p2] X.env = (false, eval (.Name y p2) X.env) :: starEach [] X.env := by rfl) (hpl : (backTo pos (starEach [.Name y p2] X.env)).any (·.1) = false := by rfl) :
    PE X (.Call (.Name "isinstance" p) [e, .Name y p2] [] pos) (tCB (gIs (.ref (He.ga X.K y)) (tabOf X.K y)) (tCons te (tCons (tC (.ref (He.ga X.K y))) tNil))) :=
  pe_callB (isE (fun _ r => r) (tabOf_ok hi hy)) hg hm (by decide +kernel) (pa_cons he (pa_cons (pe_glob hg2 hg' rfl hdb) pa_nil h2) h1) (by decide) (by decide) h1 hpl
theorem pe_isV (hi : isB X.K = true) (hm : X.mg "isinstance" = none) (hm' : X.mg "ValueError" = none) (he : PE X e te) (hg : Gl X "isinstance" := by rfl) (hg2 : Gl X "ValueError" := by rfl)
    (h1 : starEach [e, .Name "ValueError" p2] X.env = (false, eval e X.env) :: starEach [.Name "ValueError" p2] X.env := by rfl) (h2 : starEach [.Name "ValueError" p2] X.env = (false, eval (.Name "ValueError" p2) X.env) :: starEach [] X.env := by rfl) (hpl : (backTo pos (starEach [.Name "ValueError" p2] X.env)).any (·.1) = false := by rfl) :
    PE X (.Call (.Name "isinstance" p) [e, .Name "ValueError" p2] [] pos) (tCB (gIs (.ty "ValueError") (tabV X.K)) (tCons te (tCons (tC (.ty "ValueError")) tNil))) :=
  pe_callB (isE (fun _ r => r) (tabV_ok hi)) hg hm (by decide +kernel) (pa_cons he (pa_cons (pe_bltn hg2 hm' (by decide +kernel) (v := .ty "ValueError") rfl) pa_nil h2) h1) (by decide) (by decide) h1 hpl
end
/-! ### count, index -/
def gCnt : V → List V → Hp → VK → Prop := fun x xs H Q => ∃ (a : Addr) (ys : List V) (y : V), x = .ref a ∧ xs = [y] ∧ H a = some (.lst ys) ∧ flatV y = true ∧ ys.all flatV = true ∧ Q (.int ((ys.countP fun z => eqV z y : Nat) : Int)) H
theorem countP_eqU {y : V} : ∀ {ys : List V} {us : List Value}, Vals ys us → ys.all flatV = true → us.countP (eqU y) = ys.countP fun z => eqV z y
  | _, _, .nil, _ => rfl
  | z :: ys, u :: us, .cons r t, f => by
    rw [List.all_cons, Bool.and_eq_true] at f
    rw [List.countP_cons, List.countP_cons, countP_eqU t f.2, eqU_of r f.1]
theorem mtCnt {X : Cx} : MtR X "list.count" gCnt := by
  intro pins s σ H x xs v us Q I rx rxs h
  obtain ⟨a, ys, y, rfl, rfl, hs, fy, fys, q⟩ := h
  cases rx
  obtain ⟨u, rfl, ru⟩ := rxs.one
  obtain ⟨its, rv, ⟨⟨cls, dd, data, sl⟩, n, ho, hc, hdn, hd⟩, hlen⟩ := I.list (SqL.of (K := X.K) hs)
  simp only at hc hd
  subst hc hd
  refine call_meets PySem.F.slot_list_count ⟨_, ho, rfl⟩ PySem.F.entry_list_count (PySem.F.args_list_count_2 _ _) (SeqAt.list_countAt a its.toArray n dd sl u (eqU y)) ⟨ho, fun u' hu' => mem_eqAt ru fy rv fys u' (by simpa using hu'), ?_⟩
  refine ⟨.int ((ys.countP fun z => eqV z y : Nat) : Int), H, I.tok _, ⟨s.toks, ?_⟩, q⟩
  show Value.int ((its.toArray.toList.countP (eqU y) : Nat) : Int) s.toks = _
  rw [← countP_eqU (y := y) rv fys]
def gIdx : V → List V → Hp → VK → Prop := fun x xs H Q => ∃ (a : Addr) (ys : List V) (y : V) (j : Nat), x = .ref a ∧ xs = [y] ∧ H a = some (.lst ys) ∧ flatV y = true ∧ ys.all flatV = true ∧ (ys.findIdx? fun z => eqV z y) = some j ∧ Q (.int (j : Nat)) H
theorem mtIdx {X : Cx} : MtR X "list.index" gIdx := MtR_imp mt_index fun x xs H Q ⟨a, ys, y, j, h1, h2, h3, h4, h5, h6, h7⟩ => by
  obtain ⟨hj, p, k⟩ := List.findIdx?_eq_some_iff_getElem.mp h6
  refine ⟨a, ys, y, j, ys[j], h1, h2, SqL.of h3, h4, h5, List.getElem?_eq_getElem hj, p, fun m z' hm hz => ?_, h7⟩
  obtain ⟨hm', e⟩ := List.getElem?_eq_some_iff.mp hz
  have := k m hm
  rw [e] at this
  simpa using this
end TA

set_option linter.all false
set_option maxHeartbeats 4000000
/-! Calls within a try's body: what leaves them is wished for at the slots as they stand. -/
namespace TA
open PySem PySem.Spec L2 PyProof.Rows
section
variable {X : Cx} {k : Nat} {ps : List Str} {sp : Sp} {W : WX} {x c m : Str} {p pos apos : Pos} {e o : Expr} {es : List Expr} {ta : TE} {t : TA}
def fCallS (sp : Sp) (W : WX) (t : TA) : TE := fun σ H Q => t σ H fun vs H1 => sp vs H1 Q fun cls d H => W cls d σ H
def fMethS (C : Addr) (m : Str) (sp : Sp) (W : WX) (ta : TE) (t : TA) : TE := fun σ H Q => ta σ H fun x H1 => ∃ a dx fs, x = .ref a ∧ H1 a = some (.ins C dx fs) ∧ fs.lookup m = none ∧ t σ H1 fun vs H2 => sp (x :: vs) H2 Q fun cls d H => W cls d σ H
def fMakeS (C : Addr) (sp : Sp) (W : WX) (t : TA) : TE := fun σ H Q => t σ H fun vs H1 => ∀ x dx, H1 x = none → H1 dx = none → dx ≠ x →
  sp (.ref x :: vs) (upd (upd H1 dx (.own x)) x (.ins C dx [])) (fun v H2 => v = .non ∧ Q (.ref x) H2) fun cls d H => W cls d σ H
theorem pe_calS (F : CalX X k (x, none) ps sp) (hr : Room k X.A) (hm : X.mg x = some (.ref (He.ga X.K x))) (tk : Takes X W) (ha : PA X (e :: es) t) (hg : Gl X x := by rfl) (hdb : (x == ("__debug__" : Str)) = false := by decide)
    (he : starEach (e :: es) X.env = (false, eval e X.env) :: starEach es X.env := by rfl) (hpl : (backTo pos (starEach es X.env)).any (·.1) = false := by rfl) :
    PE X (.Call (.Name x p) (e :: es) [] pos) (fCallS sp W t) := by
  obtain ⟨fd, F, B, kp⟩ := F
  exact pe_callS F hr hg hm kp B (fun σ => passAt tk σ) ha hdb he hpl
theorem pe_calMS {pl : Sem Bool} (F : CalX X k (c, some m) ps sp) (cl : Cls X.K (He.ga X.K c)) (hm : Meth X.K (He.ga X.K c) m (He.ma X.K (He.ga X.K c) m)) (hr : Room k X.A) (tk : Takes X W) (he : PE X o ta) (ha : PA X (e :: es) t)
    (hst : starEach (e :: es) X.env = (false, eval e X.env) :: starEach es X.env := by rfl) (hpl : (backTo pos (starEach es X.env)).any (·.1) = false := by rfl)
    (ht : eval (.Call (.Attribute o m apos) (e :: es) [] pos) X.env = (do
      let ov ← eval o X.env
      standAt apos.atName
      let (f, first) ← holding [ov] (getMethod ov m pl)
      callWith pos f first (backTo pos (starEach (e :: es) X.env)) (backToKw pos (keywordEach [] X.env))) := by rfl) :
    PE X (.Call (.Attribute o m apos) (e :: es) [] pos) (fMethS (He.ga X.K c) m sp W ta t) := by
  obtain ⟨fd, F, B, kp⟩ := F
  refine ⟨fun pins s σ H Q I h => PySem.W.methodCall_KW (pl := pl) (thn (he.run pins s σ H _ I h) fun u s1 ⟨x, H1, I1, rx, a, dx, fs, ex, ea, l, q⟩ => ?_) ht⟩
  subst ex
  cases rx
  refine getmeth_ok I1 ea cl hm l (PySem.W.callWith_K (first := [.ref a]) (h₀ := X.base) I.ok.mod.kin hm.kp (thn (ha.run pos pins s1 σ H1 _ I1 q) fun us s2 ⟨vs, H2, I2, r, q2⟩ => ⟨I2.kIn, ?_⟩) hst hpl)
  exact run_fnS (E := WE W) (us := .ref a :: us) (vs := .ref a :: vs) F hr B (passAt tk σ) I2 (.cons rfl r) q2
theorem pe_calMS0 {pl : Sem Bool} (F : CalX X k (c, some m) ps sp) (cl : Cls X.K (He.ga X.K c)) (hm : Meth X.K (He.ga X.K c) m (He.ma X.K (He.ga X.K c) m)) (hr : Room k X.A) (tk : Takes X W) (he : PE X o ta)
    (ht : eval (.Call (.Attribute o m apos) [] [] pos) X.env = (do
      let ov ← eval o X.env
      standAt apos.atName
      let (f, first) ← holding [ov] (getMethod ov m pl)
      callWith pos f first (backTo pos (starEach [] X.env)) (backToKw pos (keywordEach [] X.env))) := by rfl) :
    PE X (.Call (.Attribute o m apos) [] [] pos) (fMethS (He.ga X.K c) m sp W ta tNil) := by
  obtain ⟨fd, F, B, kp⟩ := F
  refine ⟨fun pins s σ H Q I h => PySem.W.methodCall_KW (pl := pl) (thn (he.run pins s σ H _ I h) fun u s1 ⟨x, H1, I1, rx, a, dx, fs, ex, ea, l, q⟩ => ?_) ht⟩
  subst ex
  cases rx
  refine getmeth_ok I1 ea cl hm l (PySem.W.callWith_K0 (first := [.ref a]) I1.kIn hm.kp ?_)
  exact run_fnS (E := WE W) (us := [.ref a]) (vs := [.ref a]) F hr B (passAt tk σ) I1 (.cons rfl .nil) q
theorem run_makeS {f C : Addr} {fd : FuncData} {pins : List (Addr × Obj)} {σ : Sl} {H : Hp} {s : Shared} {Q : VK} {us : List Value} {vs : List V} (M : Mk X.K C f) (F : FnOk X.prog X.w X.K X.mg X.base (L2.CX X.prog X.w) k f fd ps sp) (hr : Room (k + 1) X.A) (hb : Binds X.K fd ps [])
    (tk : Takes X W) (I : Inv X pins σ H s) (r : Vals vs us)
    (h : ∀ x dx, H x = none → H dx = none → dx ≠ x → sp (.ref x :: vs) (upd (upd H dx (.own x)) x (.ins C dx [])) (fun v H2 => v = .non ∧ Q (.ref x) H2) fun cls d H => W cls d σ H) :
    wpAny (model X.prog X.w) X.A (call (.ref C) us) (EP X pins σ Q) X.xe s := by
  have q := h _ _ (I.hok.fresh (Nat.le_succ s.heap.objs.size)) (I.hok.fresh (Nat.le_refl _)) (Nat.ne_of_lt (Nat.lt_succ_self _))
  have J := Inv.made (C := C) I
  have rr : Vals (V.ref (s.heap.objs.size + 1) :: vs) (Value.ref (s.heap.objs.size + 1) :: us) := .cons rfl r
  have ll : (Value.ref (s.heap.objs.size + 1) :: us ++ []).length = ps.length := by rw [List.append_nil, ← rr.length, F.len _ _ _ _ q]
  have bb := hb _ (Value.ref (s.heap.objs.size + 1) :: us) J.kIn ll
  rw [List.append_nil] at bb
  refine wpAny_call (make_map (f := f) I.kIn M.makes M.init (beq_iff_eq.mp M.fn) (codeAny_mono (F.run _ X.stack _ _ _ _ _ _ _ (hr.make C us []) (J.env0.make C us []) bb rr q) fun r s' z => ?_))
  match r, z with
  | .error e, z => exact passAt tk σ pins _ _ e s' J z
  | .ok (.ret u), z =>
    obtain ⟨v, H', K', rv, ev, q3⟩ := J.after z
    subst ev
    exact ⟨rv, V.ref _, H', K', rfl, q3⟩
  | .ok .next, z => exact z.elim
  | .ok .brk, z => exact z.elim
  | .ok .cont, z => exact z.elim
theorem pe_calCS (F : CalX X k (c, some "__init__") ps sp) (M : Mk X.K (He.ga X.K c) (He.ma X.K (He.ga X.K c) "__init__")) (hr : Room (k + 1) X.A) (hm : X.mg c = some (.ref (He.ga X.K c))) (tk : Takes X W) (ha : PA X (e :: es) t) (hg : Gl X c := by rfl)
    (hdb : (c == ("__debug__" : Str)) = false := by decide) (he : starEach (e :: es) X.env = (false, eval e X.env) :: starEach es X.env := by rfl) (hpl : (backTo pos (starEach es X.env)).any (·.1) = false := by rfl) :
    PE X (.Call (.Name c p) (e :: es) [] pos) (fMakeS (He.ga X.K c) sp W t) := by
  obtain ⟨fd, F, B, kp⟩ := F
  refine ⟨fun pins s σ H Q I h => wpAny_Call_Name_kw (ld_glob I hg hm ?_ hdb)⟩
  exact PySem.W.callWith_K (h₀ := X.base) I.ok.mod.kin M.kp (thn (ha.run pos pins s σ H _ I h) fun us s1 ⟨vs, H1, I1, r, q⟩ => ⟨I1.kIn, run_makeS M F hr B tk I1 r q⟩) he hpl
end
end TA

set_option linter.all false
set_option maxHeartbeats 2000000
/-! The end: the law's own def. -/
namespace TA
open PySem PySem.Spec L2
section
variable {P : Program} {w : World} {K : PySem.W.Frag} {mg : Str → Option Value} {base : Heap} {k : Nat} {f : Addr} {fd : FuncData} {ps : List Str} {sp : Sp}
/-- a def that lets nothing out -/
theorem fnok0 (h : ∀ vs H Q E E', sp vs H Q E → sp vs H Q E') (F : FnOk P w K mg base (L2.CX P w) k f fd ps sp) : FnOk P w K mg base CX0 k f fd ps sp where
  len := F.len
  run := fun A outer s H args us vs Q E hr e0 hb r q => PySem.codeAny_mono (F.run A outer s H args us vs Q E0 hr e0 hb r (h vs H Q E E0 q)) fun r s' z => by
    cases r with
    | error e =>
      obtain ⟨_, _, _, _, _, _, _, _, _, _, _, _, f⟩ := z
      exact f.elim
    | ok fl =>
      cases fl with
      | ret u => exact z
      | next => exact z
      | brk => exact z
      | cont => exact z
/-- the law's def, its object known -/
theorem law_of {d : He.DefD} {N : List Str} (F : FunD K d.name d.qual d.params d.body d.scope (d.dvs K) (d.kws K) (He.fAd K d.at_) fd) (S : FnScope N ps d.scope) (len : ∀ vs H Q E, sp vs H Q E → vs.length = ps.length) (hE : ∀ vs H Q E E', sp vs H Q E → sp vs H Q E')
    {t : XK → TS} (der : ∀ (cdv : Value) (A : Around) (outer : List Env) (s : Shared) (H : Hp) (E : XK), Room k (A.deeper (PyProof.Rows.envOfC d.qual d.scope s.heap.objs.size (He.fAd K d.at_) cdv)) →
      PSs (cxOf (L2.CX P w) P w K mg base N d.qual d.scope (He.fAd K d.at_) cdv A outer s H E) d.body (t E))
    (pure_ : ∀ vs H Q E, sp vs H Q E → t E { nx := fun _ H' => Q .non H', rt := Q } (start N vs) H) : FnOk P w K mg base CX0 (k + 1) (He.fAd K d.at_) fd ps sp :=
  fnok0 hE (F.ok S len fun cdv A outer s H vs Q E hr h => ⟨t E, der cdv A outer s H E hr, pure_ vs H Q E h⟩)
/-- the text's facts, as the head's Hook tells them -/
theorem tx_of {fa : List He.Fa} {fn : List He.DefD} {h : Heap} {b : PySem.W.Frag → Bool} (X : K.In h) (G : h.Ns mainGlobals mg) (c : He.SaysX fa fn [] [] b w h K) : TX fa K mg b :=
  ⟨⟨h, X, G⟩, fun _ hf => He.SaysD.facts c.t.d hf, c.more⟩
end
end TA

set_option linter.all false
set_option maxHeartbeats 2000000
/-! Methods of texts. -/
namespace TA
open PySem PySem.Spec L2
def gJoin : V → List V → Hp → VK → Prop := fun x xs H Q => ∃ (a : Str) (p : Addr) (ys : List Str), x = .str a ∧ xs = [.ref p] ∧ H p = some (.lst (ys.map V.str)) ∧ (ys.map (·.length)).sum + ys.length * a.length ≤ 16777216 ∧ Q (.str (Txt.join a ys)) H
def gLower : V → List V → Hp → VK → Prop := fun x xs H Q => ∃ a : Str, x = .str a ∧ xs = [] ∧ a.length ≤ 5592405 ∧ Q (.str (Txt.lower a)) H
def gUpper : V → List V → Hp → VK → Prop := fun x xs H Q => ∃ a : Str, x = .str a ∧ xs = [] ∧ a.length ≤ 5592405 ∧ Q (.str (Txt.upper a)) H
def gSplit : V → List V → Hp → VK → Prop := fun x xs H Q => ∃ a b : Str, x = .str a ∧ xs = [.str b] ∧ (b.length == 0) = false ∧ a.length + 2 ≤ sizeLine ∧ ∀ p, H p = none → Q (.ref p) (upd H p (.lst ((Txt.split a b).map V.str)))
def gStarts : V → List V → Hp → VK → Prop := fun x xs H Q => ∃ a b : Str, x = .str a ∧ xs = [.str b] ∧ Q (.bl (Txt.startswith a b)) H
def gFind : V → List V → Hp → VK → Prop := fun x xs H Q => ∃ a b : Str, x = .str a ∧ xs = [.str b] ∧ Q (.int (Txt.find a b)) H
section
variable {X : Cx}
theorem mtJoin : MtR X "str.join" gJoin := MtR_imp mt_join fun _ _ _ _ ⟨a, p, ys, h1, h2, h3, h4, h5⟩ => ⟨a, p, ys, h1, h2, .inl (SqL.of h3), h4, h5⟩
theorem mtLower : MtR X "str.lower" gLower := mt_lower
theorem mtUpper : MtR X "str.upper" gUpper := mt_upper
theorem mtSplit : MtR X "str.split" gSplit := mt_split
theorem mtStarts : MtR X "str.startswith" gStarts := mt_startswith
theorem mtFind : MtR X "str.find" gFind := mt_find
end
/-- a text times a number -/
def gRepS : R2 := fun x y H Q => ∃ (i : Str) (n : Int), x = .str i ∧ y = .int n ∧ MulOk i n ∧ Q (.str (Txt.mul i n)) H
theorem repS {X : Cx} : OpR X (binaryOp .Mult) gRepS := by
  intro pins s σ H x y v u Q I rx ry h
  obtain ⟨i, j, rfl, rfl, hz, q⟩ := h
  obtain ⟨t, rfl⟩ := rx
  obtain ⟨t', rfl⟩ := ry
  exact SB.mul hz fun t' k => ⟨.str (Txt.mul i j), H, I.tok _, ⟨_, rfl⟩, q⟩
/-- a comprehension whose turns change nothing that stands -/
theorem comp_pure {src : Hp → Prop} {n : Nat} {item : Nat → V → Prop} {g : TG} {tt : TT} {te : TE} {vs : List Nat} {σ : Sl} {H : Hp} {Q : VK} {I : Hp} {M : List (Addr × HO)} (out : Nat → Option V) (w : W I H M) (hn : n ≤ 1000000)
    (hsrc : ∀ D acc H', W I H' ((D, .lst acc) :: M) → src H')
    (turn : ∀ D i x acc H' (T : VK) (F : Hp → Prop), i < n → item i x → W I H' ((D, .lst acc) :: M) → (∀ y H4, out i = some y → W I H4 ((D, .lst acc) :: M) → T y H4) → (∀ H3, out i = none → W I H3 ((D, .lst acc) :: M) → F H3) →
      g x (wipe σ vs) H' fun σ2 H2 => wipe σ2 vs = wipe σ vs ∧ tt σ2 H2 fun b H3 => if b = true then te σ2 H3 T else F H3)
    (fin : ∀ D H', W I H' ((D, .lst ((List.range n).filterMap out)) :: M) → Q (.ref D) H') : CompW src n item g tt te vs σ H Q := by
  refine ⟨I, M, fun i I' acc M' => I' = I ∧ M' = M ∧ acc = (List.range i).filterMap out, w, hn, ⟨rfl, rfl, rfl⟩, ?_, ?_, ?_⟩
  · rintro i I' acc M' D H' ⟨rfl, rfl, rfl⟩ _ w'
    exact hsrc D _ H' w'
  · rintro D i x H' I' acc M' hi hx _ w' ⟨rfl, rfl, rfl⟩ _
    refine turn D i x _ H' _ _ hi hx w' (fun y H4 e w4 => nxt (Sub.refl _) w4 ⟨rfl, rfl, ?_⟩) fun H3 e w3 => nxt (Sub.refl _) w3 ⟨rfl, rfl, ?_⟩
    · rw [List.range_succ, List.filterMap_append, List.filterMap_cons_some e]; rfl
    · rw [List.range_succ, List.filterMap_append, List.filterMap_cons_none e]
      exact (List.append_nil _).symm
  · rintro D H' I' acc M' _ w' ⟨rfl, rfl, rfl⟩ _
    exact fin D H' w'
/-- «== []» of a list -/
theorem eqD_nil {H : Hp} {D p : Addr} {xs : List V} {ds : List PyData} {Q : VK} (h : H D = some (.lst xs)) (r : RpAll H xs ds) (hp : H p = some (.lst [])) (q : Q (.bl xs.isEmpty) H) : gEqD (.ref D) (.ref p) H Q := by
  refine ⟨_, _, .lst h r, .lst hp .nil, .inr (by simp [PyData.depth, PyData.depthAll]), ?_⟩
  cases r with
  | nil => simpa [PyData.eqv, PyData.eqvAll] using q
  | cons a b => simpa [PyData.eqv, PyData.eqvAll] using q
theorem neD_nil {H : Hp} {D p : Addr} {xs : List V} {ds : List PyData} {Q : VK} (h : H D = some (.lst xs)) (r : RpAll H xs ds) (hp : H p = some (.lst [])) (q : Q (.bl (!xs.isEmpty)) H) : gNeD (.ref D) (.ref p) H Q := by
  refine ⟨_, _, .lst h r, .lst hp .nil, .inr (by simp [PyData.depth, PyData.depthAll]), ?_⟩
  cases r with
  | nil => simpa [PyData.eqv, PyData.eqvAll] using q
  | cons a b => simpa [PyData.eqv, PyData.eqvAll] using q
theorem rpAll_ints {H : Hp} : ∀ (ns : List Int), RpAll H (ns.map V.int) (ns.map PyData.int)
  | [] => .nil
  | n :: ns => .cons (.int n) (rpAll_ints ns)
theorem rpAll_strs {H : Hp} : ∀ (ns : List Str), RpAll H (ns.map V.str) (ns.map PyData.str)
  | [] => .nil
  | n :: ns => .cons (.str n) (rpAll_strs ns)
end TA

set_option linter.all false
set_option maxHeartbeats 2000000
/-! list.remove of texts; xs[::-1]. -/
namespace TA
open PySem PySem.Spec L2 PyProof.Rows
def fRev (te : TE) : TE := fun σ H Q => te σ H fun x H1 => ∃ a xs, x = .ref a ∧ H1 a = some (.lst xs) ∧ ∀ p, H1 p = none → Q (.ref p) (upd H1 p (.lst xs.reverse))
theorem revRange (n : Nat) : sliceRange (sliceBounds none none (some (-1)) n).1 (sliceBounds none none (some (-1)) n).2.1 (sliceBounds none none (some (-1)) n).2.2 = (List.range n).map fun k => n - 1 - k := by
  have e : sliceBounds none none (some (-1)) n = ((n : Int) - 1, -1, -1) := rfl
  rw [e]
  unfold sliceRange
  simp only []
  have e2 : (if (-1 : Int) > 0 then (if ((n : Int) - 1) < -1 then (-1 - ((n : Int) - 1) + -1 - 1) / -1 else 0) else (if ((n : Int) - 1) > -1 then ((n : Int) - 1 - -1 - -1 - 1) / (- -1) else 0)).toNat = n := by
    rw [if_neg (by decide)]
    split
    · rw [show (- -1 : Int) = 1 by decide, Int.ediv_one]; omega
    · omega
  rw [e2]
  refine List.map_congr_left fun k hk => ?_
  have := List.mem_range.mp hk
  omega
theorem fm_congr {α β : Type} {f g : α → Option β} : ∀ {l : List α}, (∀ a ∈ l, f a = g a) → l.filterMap f = l.filterMap g
  | [], _ => rfl
  | x :: l, h => by
    rw [List.filterMap_cons, List.filterMap_cons, h x List.mem_cons_self, fm_congr fun a ha => h a (List.mem_cons_of_mem _ ha)]
theorem pick_rev (items : List Value) : slicePick items.toArray none none (some (-1)) = items.reverse.toArray := by
  unfold slicePick
  rw [revRange, List.size_toArray]
  congr 1
  rw [List.filterMap_map]
  apply List.ext_getElem?
  intro i
  by_cases h : i < items.length
  · rw [List.getElem?_reverse h]
    have : List.filterMap ((fun x => items.toArray[x]?) ∘ fun k => items.length - 1 - k) (List.range items.length) = (List.range items.length).map fun k => items.getD (items.length - 1 - k) .none := by
      rw [← List.filterMap_eq_map]
      refine fm_congr fun k hk => ?_
      have := List.mem_range.mp hk
      simp only [Function.comp, List.getElem?_toArray]
      rw [List.getElem?_eq_getElem (by omega), List.getD_eq_getElem?_getD, List.getElem?_eq_getElem (by omega)]
      rfl
    rw [this, List.getElem?_map, List.getElem?_range h]
    simp
    rw [List.getElem?_eq_getElem (by omega)]; rfl
  · rw [List.getElem?_eq_none (l := items.reverse) (by simp; omega), List.getElem?_eq_none]
    exact Nat.le_trans (List.length_filterMap_le _ _) (by rw [List.length_range]; omega)
section
variable {X : Cx} {e st : Expr} {te ts : TE} {p2 pos : Pos}
theorem pe_rev (he : PE X e te) (hst : PE X st (tUn (rU fun i => .int (-i)) (tC (.int 1)))) : PE X (.Subscript e (.Slice none none (some st) p2) pos) (fRev te) := by
  refine ⟨fun pins s σ H Q I h => ?_⟩
  refine Subscript_ (thn (he.run pins s σ H _ I h) fun v s1 ⟨x, H1, I1, r1, a, xs, q0, q1, q2⟩ => ?_)
  refine wpAny_Slice ?_
  rw [evalPart_none]
  refine wpAny_pure (wpAny_pure ?_)
  rw [evalPart_some]
  refine thn (hst.run pins s1 σ H1 (fun x H2 => x = .int (-1) ∧ H2 = H1) I1 ⟨1, rfl, rfl, rfl⟩) fun u s2 ⟨x2, H2, I2, r2, e1, e2⟩ => ?_
  subst e1 e2 q0
  obtain ⟨t, rfl⟩ := r2
  cases r1
  have I4 : Inv X pins σ H2 { s2 with heap := s2.heap.push { cls := .type "slice", data := .fields #[.none, .none, .int (-1) t] } } := I2.kept (t' := s2.toks) fun b ob q => Heap.get?_push_of_some _ q
  show wpAny (model X.prog X.w) X.A (subscriptTail e (.Slice none none (some st) p2) (.ref a) (.ref s2.heap.objs.size)) (EP X pins σ Q) X.xe { s2 with heap := s2.heap.push { cls := .type "slice", data := .fields #[.none, .none, .int (-1) t] } }
  obtain ⟨its, r, ht, hz⟩ := I4.list (SqL.of (K := X.K) q1)
  refine tail_any (T := "list") (ops := [.ref a, .ref s2.heap.objs.size]) ht.isList.typeIs slot_list_getitem.lookup ?_ (by with_unfolding_all rfl)
  have hlen := r.length
  refine wpAny_getItem_list_slice ht.isList (Heap.IsSliceOf.new ..) .none .none (.int (-1) t) (by simp) ?_ (by rw [List.size_toArray] <;> omega)
  rw [pick_rev]
  refine ⟨.ref _, _, I4.laid (t' := s2.toks) (o := .lst xs.reverse) (fun b ob q => Heap.get?_push_of_some _ q) (Nat.le_refl _) ?_, rfl, q2 _ (I4.hok.fresh (Nat.le_refl _))⟩
  exact ⟨by rw [List.length_reverse]; exact hz, _, 0, r.reverse, Heap.get?_push_size _ rfl⟩
end
/-- xs.remove(a text that is in xs) -/
def gRemS : V → List V → Hp → VK → Prop := fun x xs H Q => ∃ (l : Addr) (ns : List Str) (k : Str), x = .ref l ∧ xs = [.str k] ∧ H l = some (.lst (ns.map V.str)) ∧ k ∈ ns ∧ Q .non (upd H l (.lst ((ns.erase k).map V.str)))
theorem strs_flat (ns : List Str) : (ns.map V.str).all flatV = true := by
  rw [List.all_map]; exact List.all_eq_true.mpr fun _ _ => rfl
theorem erase_idx {k : Str} : ∀ {ns : List Str}, k ∈ ns → ∃ j, j < ns.length ∧ ns[j]? = some k ∧ (∀ m : Nat, m < j → ns[m]? ≠ some k) ∧ ns.eraseIdx j = ns.erase k
  | [], h => by cases h
  | a :: r, h => by
    by_cases e : a = k
    · exact ⟨0, by simp, by rw [e]; rfl, fun m hm => by omega, by rw [e]; simp⟩
    · obtain ⟨j, h1, h2, h3, h4⟩ := erase_idx ((List.mem_cons.mp h).resolve_left fun z => e z.symm)
      refine ⟨j + 1, by simp; omega, by simpa using h2, fun m hm => ?_, ?_⟩
      · cases m with
        | zero => simp [e]
        | succ m => simpa using h3 m (by omega)
      · rw [List.eraseIdx_cons_succ, h4, List.erase_cons_tail (by simpa using e)]
theorem eqU_at {k : Str} : ∀ {ns : List Str} {us : List Value}, Vals (ns.map V.str) us → ∀ (m : Nat) (u : Value), us[m]? = some u → eqU (.str k) u = decide (ns[m]? = some k)
  | [], _, .nil, m, u, h => by simp at h
  | z :: ns, _, .cons r t, 0, u, h => by
    simp at h; subst h
    rw [eqU_of r rfl]
    show (z == k) = _
    rw [Bool.eq_iff_iff]; simp
  | z :: ns, _, .cons r t, m + 1, u, h => by
    have := eqU_at (k := k) t m u (by simpa using h)
    simpa using this
theorem erase_mapS : ∀ (l : List Str) (j : Nat), (l.map V.str).eraseIdx j = (l.eraseIdx j).map V.str
  | [], j => by simp
  | a :: r, 0 => by simp
  | a :: r, j + 1 => by
    have ih := erase_mapS r j
    simp [ih]
theorem mtRemS {X : Cx} : MtR X "list.remove" gRemS := by
  intro pins s σ H x xs v us Q I rx rxs h
  obtain ⟨a, ns, k, rfl, rfl, hH, hk, q⟩ := h
  cases rx
  obtain ⟨u, rfl, ru⟩ := rxs.one
  obtain ⟨j, j1, j2, j3, j4⟩ := erase_idx hk
  obtain ⟨z, its, n, r, hl, ho⟩ := I.lstM hH
  rw [List.length_map] at hl z
  have hjl : j < its.toArray.size := by rw [List.size_toArray]; omega
  have at_ : ∀ (m : Nat) (hm : m < its.toArray.size), eqU (.str k) its.toArray[m] = decide (ns[m]? = some k) := fun m hm => eqU_at r m _ (by simp)
  refine call_meets PySem.F.slot_list_remove ⟨_, ho, rfl⟩ PySem.F.entry_list_remove (PySem.F.args_list_remove_2 _ _) (SeqAt.list_removeAt a its.toArray n none #[] u (eqU (.str k)) j hjl ?_ ?_ (by rw [List.size_toArray]; omega)) ⟨ho, fun u' hu' => mem_eqAt ru rfl r (strs_flat ns) u' (by simpa using hu'), ?_⟩
  · rw [at_]; exact decide_eq_true j2
  · intro m hm hmj
    rw [at_]; exact decide_eq_false (j3 m hmj)
  · have rr := r.eraseIdx j
    have e2 : (ns.map V.str).eraseIdx j = (ns.erase k).map V.str := by rw [← j4, erase_mapS]
    rw [e2] at rr
    refine ⟨.non, _, I.lset (its' := its.eraseIdx j) (t' := s.toks) hH ho ?_ rr ?_, rfl, q⟩
    · show its.toArray.eraseIdxIfInBounds j = (its.eraseIdx j).toArray
      rw [List.eraseIdxIfInBounds_toArray]
    · rw [List.length_map]
      have := List.length_erase_le (a := k) (l := ns)
      omega
end TA

set_option linter.all false
set_option maxHeartbeats 2000000
/-! max of a list of data; list.pop(i). -/
namespace TA
open PySem PySem.Spec L2 PyProof.Rows
def maxOf : List PyData → PyData
  | [] => .none
  | x :: xs => PySem.W.maxD x xs
def gMaxD : List V → Hp → VK → Prop := fun vs H Q => ∃ (a : Addr) (zs : List (V × PyData)), vs = [.ref a] ∧ zs ≠ [] ∧ H a = some (.lst (zs.map Prod.fst)) ∧ RpAll H (zs.map Prod.fst) (zs.map Prod.snd) ∧ PySem.W.AlikeAll (zs.map Prod.snd) ∧
  (∀ z ∈ zs, z.2.depth ≤ 50) ∧ ∀ z ∈ zs, z.2 = maxOf (zs.map Prod.snd) → Q z.1 H
theorem depthAll_le' {k : Nat} {ds : List PyData} (h : ∀ d ∈ ds, d.depth ≤ k) : PyData.depthAll ds ≤ k := depthAll_le h
theorem maxD_mem : ∀ (xs : List PyData) (x : PyData), PySem.W.maxD x xs ∈ x :: xs
  | [], x => by simp [PySem.W.maxD]
  | y :: xs, x => by
    have e : PySem.W.maxD x (y :: xs) = PySem.W.maxD (if PySem.W.dataLt x y then y else x) xs := rfl
    rw [e]
    have := maxD_mem xs (if PySem.W.dataLt x y then y else x)
    split at this <;> rename_i h <;> simp only [h] <;> simp at this ⊢ <;> rcases this with q | q <;> simp [q]
theorem rpAll_reads {X : Cx} {pins : List (Addr × Obj)} {σ : Sl} {H : Hp} {s : Shared} (I : Inv X pins σ H s) : ∀ {vs : List V} {ds : List PyData} {us : List Value}, RpAll H vs ds → Vals vs us → ∃ as, ReadsAll s.heap us ds as
  | _, _, _, .nil, .nil => ⟨_, .nil⟩
  | _, _, _, .cons h t, .cons r rs => by
    obtain ⟨as, a1⟩ := Dp.reads I _ _ _ h.dp r
    obtain ⟨bs, b1⟩ := rpAll_reads I t rs
    exact ⟨_, .cons a1 b1⟩
theorem rpGet {H : Hp} : ∀ {vs : List V} {ds : List PyData} {i : Nat} {v : V}, RpAll H vs ds → vs[i]? = some v → ∃ d, ds[i]? = some d ∧ Rp H v d
  | _, _, _, _, .nil, h => by simp at h
  | _, _, 0, _, .cons r _, h => by simp at h; subst h; exact ⟨_, rfl, r⟩
  | _, _, i + 1, _, .cons _ t, h => by simpa using rpGet (i := i) t (by simpa using h)
theorem maxDl {X : Cx} (hc : X.calm = true) (hu : X.A.units + 64 < cLine) : CallR X (.builtin "max") gMaxD := by
  intro pins s σ H vs us Q I r h
  obtain ⟨a, zs, rfl, hne, hs, hr, hal, hdp, q⟩ := h
  obtain ⟨its, rv, hl, hz⟩ := I.list (SqL.of (K := X.K) hs)
  obtain ⟨u, rfl, ru⟩ := vals1 r
  obtain rfl : u = Value.ref a := ru
  obtain ⟨as, ra⟩ := rpAll_reads I hr rv
  match zs, hne with
  | z0 :: zs, _ =>
  have hdd : PyData.depthAll ((z0 :: zs).map Prod.snd) ≤ 50 := depthAll_le fun d hd => by
    obtain ⟨z, hz, rfl⟩ := List.mem_map.mp hd
    exact hdp z hz
  refine PySem.W.max_list_data (x := z0.2) (xs := zs.map Prod.snd) (as := as) (I.ok.hd hc) hl.isList (by simpa using ra) hal (by rw [List.map_cons] at hdd; omega) fun i v h' tk bs hv hrd hk => ?_
  have hv' : its[i]? = some v := by simpa using hv
  have hi : i < (z0 :: zs).length := by
    have := rv.length
    rw [List.length_map] at this
    rw [this]; exact (List.getElem?_eq_some_iff.mp hv').1
  have hzi : (z0 :: zs)[i]? = some (z0 :: zs)[i] := List.getElem?_eq_getElem hi
  obtain ⟨u2, hu2, ru2⟩ := rv.get (i := i) (x := (z0 :: zs)[i].1) (by rw [List.getElem?_map, hzi]; rfl)
  rw [hv'] at hu2
  cases hu2
  obtain ⟨d, hd, rd⟩ := rpGet hr (i := i) (v := (z0 :: zs)[i].1) (by rw [List.getElem?_map, hzi]; rfl)
  rw [List.getElem?_map, hzi] at hd
  cases hd
  obtain ⟨bs2, rd2⟩ := Dp.reads I _ _ _ rd.dp ru2
  have hin : (z0 :: zs)[i] ∈ z0 :: zs := List.getElem_mem hi
  have e := PySem.W.alike_unique _ _ v _ _ (hal.1 _ (List.mem_map.mpr ⟨_, hin, rfl⟩) (PySem.W.maxD z0.2 (zs.map Prod.snd)) (maxD_mem _ _)) (PySem.W.reads_keeps hk rd2) hrd
  exact ⟨_, H, I.kept hk, ru2, q _ hin e⟩
def gPopAt : V → List V → Hp → VK → Prop := fun x vs H Q => ∃ (l : Addr) (xs : List V) (k : Nat) (y : V), x = .ref l ∧ vs = [.int k] ∧ H l = some (.lst xs) ∧ xs.length ≤ 1000000 ∧ xs[k]? = some y ∧ Q y (upd H l (.lst (xs.eraseIdx k)))
theorem mtPopAt {X : Cx} : MtR X "list.pop" gPopAt := fun pins s σ H x xs v us Q I rx ry ⟨l, ys, k, y, h1, h2, h3, h4, h5, h6⟩ => by
  have hk : k < ys.length := (List.getElem?_eq_some_iff.mp h5).1
  refine mt_popAt pins s σ H x xs v us Q I rx ry ⟨l, ys, k, k, y, h1, h2, h3, by omega, by omega, ?_, h5, h6⟩
  unfold seqIndex?
  simp
  omega
end TA

set_option linter.all false
set_option maxHeartbeats 4000000
/-! Dicts with numbers as keys: keys(), list(..), sorted(..). -/
namespace TA
open PySem PySem.Spec L2 PyProof.Rows
/-- a view of the keys of the dict at d stands at v -/
def KwO (d v : Addr) : HO := .ext fun h => PySem.W.KdlKeysView h v d
theorem kw_new {P : Program} {w : World} {H : Hp} {h : Heap} {v d : Addr} (e : h.get? v = some { cls := .type "dict_keys", data := .fields #[.ref d] }) : ObjOk P w H h v (KwO d v) :=
  ⟨⟨_, e, rfl, rfl⟩, ⟨_, e⟩, fun _ _ ⟨o, q, z, d⟩ k => ⟨o, k o q, z, d⟩⟩
theorem kw_get {X : Cx} {pins : List (Addr × Obj)} {σ : Sl} {H : Hp} {s : Shared} {v d : Addr} (I : Inv X pins σ H s) (h : H v = some (KwO d v)) : PySem.W.KdlKeysView s.heap v d := (I.hok v _ h).1
def gKeys : V → List V → Hp → VK → Prop := fun x xs H Q => ∃ (a : Addr) (kvs : List (L2.Key × V)), x = .ref a ∧ xs = [] ∧ H a = some (.dK kvs) ∧ ∀ p, H p = none → Q (.ref p) (upd H p (KwO a p))
def gListK : List V → Hp → VK → Prop := fun xs H Q => ∃ (v a : Addr) (kvs : List (L2.Key × V)), xs = [.ref v] ∧ H v = some (KwO a v) ∧ H a = some (.dK kvs) ∧ ∀ p, H p = none → Q (.ref p) (upd H p (.lst (kvs.map fun kv => kV kv.1)))
section
variable {X : Cx}
theorem mtKeys : MtR X "dict.keys" gKeys := by
  intro pins s σ H x xs v us Q I rx rxs h
  obtain ⟨a, kvs, rfl, rfl, hd, q⟩ := h
  cases rx
  cases rxs
  obtain ⟨z, lo, vs, rel, dd⟩ := dk_of I.hok hd
  refine call_meetsIn PySem.F.slot_dict_keys dd.typeIs PySem.F.entry_dict_keys (PySem.F.args_dict_keys_1 _) (PySem.W.kdl_meets_keys (mixKind X.prog X.w) a lo) ⟨⟨vs, dd⟩, ?_⟩
  exact ⟨.ref s.heap.objs.size, _, I.laid (t' := s.toks) (o := KwO a s.heap.objs.size) (fun b ob q => Heap.get?_push_of_some _ q) (Nat.le_refl _) (kw_new (Heap.get?_push_size _ rfl)), rfl, q _ (I.hok.fresh (Nat.le_refl _))⟩
theorem listK (hcalm : X.calm = true) : CallR X (.type "list") gListK := by
  intro pins s σ H xs us Q I r q
  obtain ⟨v, a, kvs, ex, hv, hd, q⟩ := q
  subst ex
  obtain ⟨u, eu, rx⟩ := vals1 r
  subst eu
  cases rx
  obtain ⟨z, lo, vs, rel, dd⟩ := dk_of I.hok hd
  obtain ⟨ep, hat⟩ := dd.dictAt
  have ek : (kvs.map fun kv => kV kv.1) = vs.map fun p => kV p.1 := by
    have e := congrArg (List.map kV) rel.keys
    rw [List.map_map, List.map_map] at e
    exact e
  refine PySem.W.kdl_call (PySem.W.kdl_keys (knd := mixKind X.prog X.w) (kvs := vs) (ep := ep)) (I.ok.hd hcalm) ⟨kw_get I hv, hat⟩ (by rw [← rel.length]; exact z) fun h' tk acc c' hk hD hacc => ?_
  have hv : Vals (vs.map fun p => kV p.1) acc.toList := keys_at (by rw [Array.length_toList]; exact hacc.1) fun j v e => hacc.2 j v (by rw [← Array.getElem?_toList]; exact e)
  refine ⟨.ref s.heap.objs.size, upd H s.heap.objs.size (.lst (kvs.map fun kv => kV kv.1)), I.laid (t' := tk) hk (Nat.le_refl _)
    (show ObjOk X.prog X.w _ _ _ (.lst (kvs.map fun kv => kV kv.1)) from ⟨by rw [List.length_map]; exact z, acc.toList, c', by rw [ek]; exact hv, by rw [Array.toArray_toList]; exact hD⟩), rfl, q _ (I.hok.fresh (Nat.le_refl _))⟩
end
end TA

set_option linter.all false
set_option maxHeartbeats 4000000
/-! sorted(d.keys()) of numbers; more of dicts with numbers as keys. -/
namespace TA
open PySem PySem.Spec L2 PyProof.Rows PySem.Calls
theorem dle_int (a b : Int) : dle (.int a) (.int b) = decide (a ≤ b) := by
  unfold dle; rw [PySem.W.dataLt_int]; exact PySem.W.not_lt_int a b
/-- the items of what is walked, as numbers -/
def intZ (ns : List Int) : List (V × PyData) := ns.map fun n => (V.int n, PyData.int n)
theorem intZ_fst (ns : List Int) : (intZ ns).map Prod.fst = ns.map V.int := by unfold intZ; rw [List.map_map]; rfl
theorem intZ_snd (ns : List Int) : (intZ ns).map Prod.snd = ns.map PyData.int := by unfold intZ; rw [List.map_map]; rfl
theorem intZ_sort (ns : List Int) : ((intZ ns).mergeSort fun x y => dle x.2 y.2).map Prod.fst = (ns.mergeSort fun a b => decide (a ≤ b)).map V.int := by
  unfold intZ
  rw [← PySem.W.sort_maps (r := fun (a b : Int) => decide (a ≤ b)) (s := fun (x y : V × PyData) => dle x.2 y.2) (fun n : Int => (V.int n, PyData.int n)) fun a _ b _ => (dle_int a b).symm, List.map_map]
  rfl
def gSortK : List V → Hp → VK → Prop := fun xs H Q => ∃ (v a : Addr) (kvs : List (L2.Key × V)) (ns : List Int), xs = [.ref v] ∧ H v = some (KwO a v) ∧ H a = some (.dK kvs) ∧ (kvs.map fun kv => kV kv.1) = ns.map V.int ∧
  ∀ p, H p = none → Q (.ref p) (upd H p (.lst ((ns.mergeSort fun a b => decide (a ≤ b)).map V.int)))
theorem sortK {X : Cx} (hcalm : X.calm = true) (hu : X.A.units + 64 < cLine) : CallR X (.builtin "sorted") gSortK := by
  intro pins s σ H xs us Q I r q
  obtain ⟨v, a, kvs, ns, ex, hv, hd, hns, q⟩ := q
  subst ex
  obtain ⟨u, eu, rx⟩ := vals1 r
  subst eu
  cases rx
  obtain ⟨z, lo, vs, rel, dd⟩ := dk_of I.hok hd
  obtain ⟨ep, hat⟩ := dd.dictAt
  have ek : (kvs.map fun kv => kV kv.1) = vs.map fun p => kV p.1 := by
    have e := congrArg (List.map kV) rel.keys
    rw [List.map_map, List.map_map] at e
    exact e
  have hlen : ns.length = kvs.length := by have := congrArg List.length hns; simpa using this.symm
  refine call_function_entry kind_sorted plain_sorted entry_sorted (args_sorted1 _) ?_
  unfold Builtin.«sorted»
  refine wpAny_bind (m := checkCount "sorted" 1 1 _) (wpAny_pure ?_)
  refine wpAny_bind (PySem.W.kdu_collect (A := X.A.in1) (PySem.W.kdl_keys (knd := mixKind X.prog X.w) (kvs := vs) (ep := ep)) (I.ok.hd hcalm) ⟨kw_get I hv, hat⟩ (by rw [← rel.length]; exact z) fun h' tk acc hk hacc => ?_)
  have rv : Vals (vs.map fun p => kV p.1) acc.toList := keys_at (by rw [Array.length_toList]; exact hacc.1) fun j v e => hacc.2 j v (by rw [← Array.getElem?_toList]; exact e)
  rw [← ek, hns, ← intZ_fst] at rv
  have hal : acc.toList.length = ns.length := by rw [← rv.length, intZ_fst, List.length_map]
  have hL : acc.toList.length ≤ sizeLine := by rw [hal, hlen]; exact z
  refine wpAny_bind (wpAny_newList ?_ hL)
  have hat2 : (h'.push { cls := .type "list", data := .seq acc.toList.toArray }).get? h'.objs.size = some (seqObj "list" acc.toList.toArray 0) := Heap.get?_push_size _ rfl
  refine wpAny_bind (wpAny_holding (wpAny_call_entry_kw slot_list_sort ⟨_, hat2, rfl⟩ entry_list_sort ?body (args_list_sort _)))
  case body =>
    let h2 := PySem.W.sortingHeap (h'.push { cls := .type "list", data := .seq acc.toList.toArray }) h'.objs.size acc.toList
    have old : ∀ b o, s.heap.get? b = some o → h2.get? b = some o := fun b o e => PySem.W.sortingHeap_old (Nat.ne_of_lt (Heap.lt_size (hk _ _ e))) (Heap.get?_push_of_some _ (hk _ _ e))
    have hr : RpAll H ((intZ ns).map Prod.fst) ((intZ ns).map Prod.snd) := by rw [intZ_fst, intZ_snd]; exact rpAll_ints ns
    have rd := each_reads I rv hr
    have rd2 : PySem.W.EachIs (fun (v : Value) (z : V × PyData) => ∃ as, Reads h2 v z.2 as) acc.toList (intZ ns) := rd.mono fun v z ⟨as, e⟩ => ⟨as, PySem.W.reads_keeps old e⟩
    have hal2 : PySem.W.AllAlike ((intZ ns).map Prod.snd) := by
      rw [intZ_snd]; exact PySem.W.AllAlike.of fun a b => by simp [PySem.W.alike]
    have hsb : PySem.W.Sortable ((intZ ns).map Prod.snd) := by
      rw [intZ_snd]; exact PySem.W.Sortable.others fun a => ⟨by simp, fun xs => by simp⟩
    have S : PySem.W.SortsAt X.prog X.w X.A.in1.in1 { s with heap := h2, toks := tk } (PySem.W.dataKind h2 ((intZ ns).map Prod.snd)) acc.toList := by
      refine PySem.W.SortsAt.data (each_snd rd2) hal2 hsb fun d hd => ?_
      rw [intZ_snd] at hd
      obtain ⟨n, _, rfl⟩ := List.mem_map.mp hd
      show X.A.units + 1 + 1 + _ < cLine
      simp [PyData.depth]; omega
    show wpAny (model X.prog X.w) X.A.in1.in1 (Builtin.«list.sort» ⟨[.ref h'.objs.size], []⟩) _ _ _
    refine PySem.W.list_sort_vals (s := { s with heap := h'.push { cls := .type "list", data := .seq acc.toList.toArray }, toks := tk }) hat2 S hL ?_
    refine ⟨_, rfl, wpAny_pure ⟨_, rfl, ?_⟩⟩
    have e : PySem.W.EachIs (fun (v : Value) (z : V × PyData) => RelV z.1 v) (PySem.W.sortVals (PySem.W.dataKind h2 ((intZ ns).map Prod.snd)) false acc.toList acc.toList) ((intZ ns).mergeSort (PySem.W.sortLe (PySem.W.dataKind h2 ((intZ ns).map Prod.snd)).toKeyOrd false fun z => PySem.W.keyToks z.2)) := by
      refine PySem.W.sortVals_each (κ := PySem.W.dataKind h2 ((intZ ns).map Prod.snd)) (fun z => PySem.W.keyToks z.2) (each_vals rv) ((each_in rd2).mono fun v z ⟨⟨as, e⟩, m⟩ => ?_)
      exact PySem.W.dataKind_some hal2 (List.mem_map.mpr ⟨z, m, rfl⟩) e
    have e2 : ((intZ ns).mergeSort (PySem.W.sortLe (PySem.W.dataKind h2 ((intZ ns).map Prod.snd)).toKeyOrd false fun z => PySem.W.keyToks z.2)) = (intZ ns).mergeSort fun x y => dle x.2 y.2 := rfl
    rw [e2] at e
    have v2 := vals_each e
    rw [intZ_sort] at v2
    obtain ⟨n, hn⟩ := sortedHeap_at (out := (PySem.W.sortVals (PySem.W.dataKind h2 ((intZ ns).map Prod.snd)) false acc.toList acc.toList).toArray) hat2
    have I2 : Inv X pins σ H { s with heap := h', toks := tk } := I.kept hk
    refine ⟨.ref h'.objs.size, upd H h'.objs.size (.lst ((ns.mergeSort fun a b => decide (a ≤ b)).map V.int)), I2.laid (t' := tk) (fun b o e => ?_) (Nat.le_refl _) ⟨?_, _, n, v2, hn⟩, rfl, q _ (I2.hok.fresh (Nat.le_refl _))⟩
    · show (sortedHeap _ _ _ _).get? b = some o
      rw [sortedHeap_old (Nat.ne_of_lt (Heap.lt_size e)) (by rw [size_push']; exact Nat.lt_succ_of_lt (Heap.lt_size e))]
      exact Heap.get?_push_of_some _ e
    · rw [List.length_map, List.length_mergeSort, hlen]; exact z
/-! ### dicts with numbers as keys -/
def dI (kvs : List (Int × V)) : HO := .dK (kvs.map fun p => ((Sum.inl p.1 : L2.Key), p.2))
def lkI (kvs : List (Int × V)) (k : Int) : Option V := (kvs.find? fun p => decide (p.1 = k)).map (·.2)
def dropI (kvs : List (Int × V)) (k : Int) : List (Int × V) := kvs.filter fun p => !decide (p.1 = k)
theorem val_I (k : Int) : ∀ kvs : List (Int × V), valV (kvs.map fun p => ((Sum.inl p.1 : L2.Key), p.2)) (Sum.inl k) = lkI kvs k
  | [] => rfl
  | p :: r => by
    have ih := val_I k r
    unfold lkI at *
    by_cases h : p.1 = k
    · rw [List.map_cons, valV_pos (by rw [h]), List.find?_cons_of_pos (by simpa using h)]; rfl
    · rw [List.map_cons, valV_neg (by simpa using h), List.find?_cons_of_neg (by simpa using h)]; exact ih
theorem drop_I (k : Int) (kvs : List (Int × V)) : L2.dropK (kvs.map fun p => ((Sum.inl p.1 : L2.Key), p.2)) (Sum.inl k) = (dropI kvs k).map fun p => ((Sum.inl p.1 : L2.Key), p.2) := by
  unfold L2.dropK dropI
  rw [List.filter_map]
  congr 1
  refine List.filter_congr fun p _ => ?_
  by_cases h : p.1 = k <;> simp [h]
theorem drop_out {kvs : List (Int × V)} {k : Int} (h : lkI kvs k = none) : dropI kvs k = kvs := by
  unfold lkI at h
  unfold dropI
  rw [Option.map_eq_none_iff, List.find?_eq_none] at h
  exact List.filter_eq_self.mpr fun p hp => by simpa using h p hp
theorem upd_id {H : Hp} {a : Addr} {o : HO} (h : H a = some o) : upd H a o = H := by
  funext b
  by_cases e : b = a
  · subst e; rw [upd_same, h]
  · rw [upd_ne e]
def gGetI : R2 := fun x y H Q => ∃ a kvs k v, x = .ref a ∧ y = .int k ∧ H a = some (dI kvs) ∧ lkI kvs k = some v ∧ Q v H
def gInI : R2 := fun x y H Q => ∃ a kvs k, x = .int k ∧ y = .ref a ∧ H a = some (dI kvs) ∧ Q (.bl (lkI kvs k).isSome) H
def gLenI : List V → Hp → VK → Prop := fun xs H Q => ∃ p kvs, xs = [.ref p] ∧ H p = some (dI kvs) ∧ Q (.int kvs.length) H
def gPop1 : V → List V → Hp → VK → Prop := fun x xs H Q => ∃ a kvs k v, x = .ref a ∧ xs = [.int k] ∧ H a = some (dI kvs) ∧ lkI kvs k = some v ∧ Q v (upd H a (dI (dropI kvs k)))
def gPop2 : V → List V → Hp → VK → Prop := fun x xs H Q => ∃ a kvs k d, x = .ref a ∧ xs = [.int k, d] ∧ H a = some (dI kvs) ∧ Q ((lkI kvs k).getD d) (upd H a (dI (dropI kvs k)))
/-- d[k] = v, k new -/
def fPutI (td ty tv : TE) : TS := fun D σ H => tv σ H fun v H1 => td σ H1 fun x H2 => ty σ H2 fun y H3 => ∃ a kvs k, x = .ref a ∧ y = .int k ∧ H3 a = some (dI kvs) ∧ lkI kvs k = none ∧ kvs.length < sizeLine ∧ D.nx σ (upd H3 a (dI (kvs ++ [(k, v)])))
def fNewI : TE := fun _ H Q => ∀ p, H p = none → Q (.ref p) (upd H p (dI []))
def fGetI (td ty : TE) : TE := tOp gGetI td ty
section
variable {X : Cx} {o i value : Expr} {td ty tv : TE} {pos pos' : Pos}
theorem pe_newI : PE X (.Dict [] [] pos) fNewI := PE_imp pe_dnewK fun _ _ _ h => h
theorem pe_getI (hu : X.A.units + 64 < cLine) (ho : PE X o td) (hi : PE X i ty) (hs : NoSl i) : PE X (.Subscript o i pos) (fGetI td ty) :=
  PE_imp (pe_dget (by omega) (PE_mo ho) (PE_mo hi) hs) fun σ H Q h => ⟨_, h, fun x H1 h1 => ⟨_, h1, fun y H2 ⟨a, kvs, k, v, e1, e2, e3, e4, q⟩ => ⟨a, v, e1, .inl ⟨_, Sum.inl k, .inl e3, e2, by rw [val_I, e4]⟩, q⟩⟩⟩
theorem inI (hu : X.A.units + 64 < cLine) : OpR X (compareOp .In) gInI := by
  intro pins s σ H x y v u Q I rx ry h
  obtain ⟨a, kvs, k, rfl, rfl, hd, q⟩ := h
  cases ry
  refine d_in (by omega) I (DGet.k (k := Sum.inl k) hd) rx fun s' I' => ⟨.bl _, H, I', rfl, ?_⟩
  rw [val_I]; exact q
theorem lenI : CallR X (.builtin "len") gLenI := by
  intro pins s σ H xs us Q I r h
  obtain ⟨p, kvs, rfl, hd, q⟩ := h
  obtain ⟨u, rfl, ru⟩ := vals1 r
  cases ru
  refine d_len I (.inl hd) fun t s' I' => ⟨.int kvs.length, H, I', ⟨t, by rw [List.length_map]⟩, q⟩
theorem mtPop1 : MtR X "dict.pop" gPop1 := by
  intro pins s σ H x xs v us Q I rx rxs h
  obtain ⟨a, kvs, k, v', rfl, rfl, hd, hl, q⟩ := h
  cases rx
  obtain ⟨u, rfl, ru⟩ := rxs.one
  refine d_pop (k := Sum.inl k) I hd ru (by rw [val_I]; exact hl) (.inl rfl) fun w' s' I' rw' => ⟨v', _, I', rw', ?_⟩
  rw [drop_I]; exact q
theorem mtPop2 : MtR X "dict.pop" gPop2 := by
  intro pins s σ H x xs v us Q I rx rxs h
  obtain ⟨a, kvs, k, d, rfl, rfl, hd, q⟩ := h
  cases rx
  obtain ⟨u, u2, rfl, ru, ru2⟩ := rxs.two
  cases hl : lkI kvs k with
  | some v' =>
    rw [hl] at q
    refine d_pop (k := Sum.inl k) I hd ru (by rw [val_I]; exact hl) (.inr ⟨_, rfl⟩) fun w' s' I' rw' => ⟨v', _, I', rw', ?_⟩
    rw [drop_I]; exact q
  | none =>
    rw [hl, drop_out hl, upd_id hd] at q
    exact d_popD (k := Sum.inl k) I hd ru (by rw [val_I]; exact hl) fun s' I' => ⟨d, H, I', ru2, q⟩
theorem ps_putI (hu : X.A.units + 64 < cLine) (ho : PE X o td) (hi : PE X i ty) (hv : PE X value tv) (hs : swapsWith value (some (.Subscript o i pos')) pos.line X.env = pure false) : PS X (.Assign [.Subscript o i pos'] value pos) (fPutI td ty tv) :=
  PS_imp (ps_dput (by omega) (PE_mo ho) (PE_mo hi) (PE_mo hv) hs) fun D σ H h => ⟨_, h, fun v H1 h1 => ⟨_, h1, fun x H2 h2 => ⟨_, h2, fun y H3 ⟨a, kvs, k, e1, e2, e3, e4, e5, q⟩ => by
    refine ⟨a, _, e1, .inl ⟨_, Sum.inl k, e3, e2, by rw [List.length_map]; exact e5, rfl⟩, ?_⟩
    rw [putK_new v (by rw [val_I]; exact e4)]
    have : ((kvs.map fun p => ((Sum.inl p.1 : L2.Key), p.2)) ++ [(Sum.inl k, v)]) = (kvs ++ [(k, v)]).map fun p => ((Sum.inl p.1 : L2.Key), p.2) := by simp
    rw [this]; exact q⟩⟩⟩
end
end TA

set_option linter.all false
set_option maxHeartbeats 2000000
/-! Tuples: t[i:j], t + u. -/
namespace TA
open PySem PySem.Spec L2 PyProof.Rows
def gSlT : V → Option Int → Option Int → Hp → VK → Prop := fun x lo hi H Q => ∃ a xs, x = .ref a ∧ H a = some (.tup xs) ∧ ¬ (HT.sIx xs.length 0 lo = 0 ∧ HT.sIx xs.length xs.length hi = xs.length) ∧ ∀ p, H p = none → Q (.ref p) (upd H p (.tup (cutV xs lo hi)))
def gCatT : R2 := fun x y H Q => ∃ a b xs ys, x = .ref a ∧ y = .ref b ∧ H a = some (.tup xs) ∧ H b = some (.tup ys) ∧ xs ≠ [] ∧ ys ≠ [] ∧ xs.length + ys.length ≤ sizeLine ∧ ∀ p, H p = none → Q (.ref p) (upd H p (.tup (xs ++ ys)))
section
variable {X : Cx}
theorem slT : SlR X gSlT := SlR_imp sl_tup fun _ _ _ _ _ ⟨a, xs, x1, x2, x3, x4⟩ => ⟨a, xs, x1, SqT.of x2, x3, x4⟩
theorem catT : OpR X (binaryOp .Add) gCatT := OpR_imp op_catT fun _ _ _ _ ⟨a, b, xs, ys, x1, x2, x3, x4, x5, x6, x7, x8⟩ => ⟨a, b, xs, ys, x1, x2, SqT.of x3, SqT.of x4, x5, x7, fun e => absurd e x6, fun _ => x8⟩
end
theorem cut_1 {x : V} {xs : List V} : cutV (x :: xs) (some 1) none = xs := by
  unfold cutV HT.sIx
  simp
theorem cut_1n {x : V} {xs : List V} : ¬ (HT.sIx (x :: xs).length 0 (some 1) = 0 ∧ HT.sIx (x :: xs).length (x :: xs).length none = (x :: xs).length) := by
  unfold HT.sIx
  simp
end TA

set_option linter.all false
set_option maxRecDepth 100000
set_option maxHeartbeats 4000000
/-! sorted(set(xs)), xs a list of texts. -/
namespace TA
open PySem PySem.Spec L2 PyProof.Rows PySem.Calls
theorem vals_str : ∀ {xs : List Str} {us : List Value}, Vals (xs.map V.str) us → ∀ (i : Nat) (v : Value), us[i]? = some v → ∃ k t, xs[i]? = some k ∧ v = .str k t
  | [], _, .nil, i, v, h => by simp at h
  | x :: xs, _, .cons r t, 0, v, h => by
    simp at h; subst h
    obtain ⟨tk, rfl⟩ := r
    exact ⟨x, tk, rfl, rfl⟩
  | x :: xs, _, .cons r t, i + 1, v, h => by simpa using vals_str t i v (by simpa using h)
/-- the table of a set can be walked -/
def Wk (w : World) (t : SetTable) : Prop := Ris t.place.toList ∧ (w.params.followText "set-order" = true ∨ t.led = true)
structure SetX (P : Program) (w : World) (h : Heap) (a : Addr) (l : List Str) : Prop where
  ex : ∃ D : Froz.SD, h.get? a = some (Froz.sObj "set" D) ∧ Froz.TxOk P w D l ∧ Wk w D.2.2
  nd : l.Nodup
  few : l.length < 4000
section
variable {P : Program} {w : World} {A : Around} {E : Value → Shared → Prop} {s : Shared} {a : Addr} {l : List Str} {k : Str} {u : Tok}
theorem wk_tail {ep : Nat} {es : Array (Int × Value)} {t : SetTable} {b : Bool} (h : Wk w t) : Wk w (Froz.tailTx ep es t b).2.2 := by
  unfold Froz.tailTx
  by_cases c : (!b && t.tooFull) = true
  · rw [if_pos c]; exact ⟨relayAll_ris t es _, by show _ ∨ (relayAll t es _).2.1.led = true; rw [relayAll_led]; exact h.2⟩
  · rw [if_neg c]; exact h
theorem wk_add {D : Froz.SD} {hs : Int} {v : Value} (h : Wk w D.2.2) : Wk w (Froz.addTx hs v D).2.2 := by
  have h1 : Wk w (layNew D.2.2 D.1 hs v).2.1 := ⟨layNew_ris D.2.2 D.1 hs v h.1, by rw [layNew_led]; exact h.2⟩
  unfold Froz.addTx
  refine wk_tail ?_
  by_cases c : (layNew D.2.2 D.1 hs v).2.1.plain = true
  · rw [if_pos c]; exact h1
  · rw [if_neg c]; exact h1
theorem SetX.keep {h h' : Heap} (X : SetX P w h a l) (k : ∀ o, h.get? a = some o → h'.get? a = some o) : SetX P w h' a l := by
  obtain ⟨⟨D, h1, h2, h3⟩, nd, few⟩ := X
  exact ⟨⟨D, k _ h1, h2, h3⟩, nd, few⟩
/-- a text that is there already -/
theorem old_x {Q : Bool → Shared → Prop} (X : SetX P w s.heap a l) (hk : k ∈ l) (h : Q false s) : wpAny (model P w) A (setAddHashed a (.str k u) (hashStr w k)) Q E s := by
  obtain ⟨⟨⟨es, ep, t⟩, ho, F, _⟩, nd, few⟩ := X
  have hd : (Froz.sObj "set" (es, ep, t)).data = .set es ep t := rfl
  have hb : es.size < scanBound := by have e : es.size = l.length := F.sz; rw [e]; exact Nat.lt_trans few (by decide)
  obtain ⟨e, he, hp⟩ := (F.mem k).mp hk
  unfold setAddHashed setAddHashedIn
  refine wpAny_holding (wpAny_bind (wpAny_setState_of ho hd F.fit ?_)); dsimp only
  rw [byScan_of rfl hb F.el]; simp only [↓reduceIte]
  unfold setAddByScan
  refine wpAny_bind (wpAny_bind (wpAny_rule (wpAny_bind (wpAny_setScan_of (knd := strKind P w) (k := k) (Froz.is_str k u) ho hd F.fit F.el ?_))))
  cases hr : List.findIdx? (fun e => (strKind P w).is k e.2) es.toList with
  | none =>
    have := List.findIdx?_eq_none_iff.mp hr e he
    rw [hp] at this; cases this
  | some j => dsimp only; exact wpAny_pure (wpAny_pure h)
/-- one text is added -/
theorem setX_add {Q : Bool → Shared → Prop} (X : SetX P w s.heap a l) (few : l.length + 1 < 4000) (h : ∀ b h' l', Heap.SameBut a s.heap h' → SetX P w h' a l' → (∀ x, x ∈ l' ↔ x ∈ l ∨ x = k) → l'.length ≤ l.length + 1 → Q b { s with heap := h' }) :
    wpAny (model P w) A (setAddHashed a (.str k u) (hashStr w k)) Q E s := by
  by_cases hk : k ∈ l
  · refine old_x X hk ?_
    have := h false s.heap l (Heap.SameBut.refl a s.heap) X (fun x => ⟨.inl, fun z => z.elim id fun e => e ▸ hk⟩) (Nat.le_succ _)
    exact this
  · obtain ⟨⟨D, ho, F, wk⟩, nd, _⟩ := X
    refine Froz.add_x ho F hk (Nat.lt_trans few (by decide)) ?_
    refine h true _ (k :: l) (Heap.SameBut.update s.heap a _) ⟨⟨_, Froz.get_upd _ ho rfl, Froz.add_ok u F, wk_add wk⟩, List.nodup_cons.mpr ⟨hk, nd⟩, few⟩ (fun x => ?_) (Nat.le_refl _)
    rw [List.mem_cons]; exact ⟨fun z => z.elim .inr .inl, fun z => z.elim .inr .inl⟩
/-- the texts of a walk are added, one behind the other -/
theorem setX_loop {I : Addr} {fp wr : List Addr} {G : Array GenState → Array GenState → Prop} {n : Nat} {Pv : Nat → Value → Prop} {St : Nat → Shared → Prop} {R : Result → Shared → Prop}
    (Wl : WalksS P w A.in1 I fp wr G n Pv St) (T : Addr) (hT : T ∉ fp) (xs : List Str) (hn : n = xs.length) (hb : n < 3000) (hval : ∀ i v, Pv i v → ∃ k t, xs[i]? = some k ∧ v = .str k t) :
    ∀ (m i : Nat) (s : Shared) (l : List Str), n - i = m → i ≤ n → St i s → SetX P w s.heap T l → l.length ≤ i → (∀ x, x ∈ l ↔ x ∈ xs.take i) →
      (∀ s' l', Moved (T :: wr) G s s' → SetX P w s'.heap T l' → (∀ x, x ∈ l' ↔ x ∈ xs) → R (.ok (.ret .none)) s') → codeAny (model P w) A (.builtin "set.update.loop" ⟨[.ref T, .ref I], []⟩) R s := by
  have hTw : T ∉ wr := fun z => hT (Wl.sub _ z)
  have up : ∀ b ∈ wr, b ∈ T :: wr := fun b z => List.mem_cons_of_mem _ z
  intro m
  induction m with
  | zero =>
    intro i s l hm hi hst X _ hl hR
    obtain rfl : i = n := by omega
    refine codeAny_builtin F.entry_set_update_loop ?_; rw [Around.under_plainId F.plain_set_update_loop _]
    show wpAny _ A.in1 (pyNext (Value.ref I) >>= _) _ _ s
    refine wpAny_bind (Wl.done s _ _ hst fun s2 mv => ?_)
    show wpAny _ A.in1 (ret .none) _ _ s2
    refine wpAny_pure (hR s2 l (mv.mono up) (X.keep fun o e => mv.heap T o hTw e) fun x => ?_)
    rw [hl x, List.take_of_length_le (by omega)]
  | succ m ih =>
    intro i s l hm hi hst X hll hl hR
    have lt : i < n := by omega
    refine codeAny_builtin F.entry_set_update_loop ?_; rw [Around.under_plainId F.plain_set_update_loop _]
    show wpAny _ A.in1 (pyNext (Value.ref I) >>= _) _ _ s
    refine wpAny_bind (Wl.item i s _ _ lt hst fun v s2 pv st2 mv => ?_)
    obtain ⟨k, t, hk, rfl⟩ := hval i v pv
    show wpAny _ A.in1 (holding [Value.str k t] (setAdd T (Value.str k t)) >>= _) _ _ s2
    refine wpAny_bind (wpAny_holding ?_); unfold setAdd
    refine wpAny_holding (wpAny_bind ((strKind P w).pyHash (k := k) (Froz.is_str k t) ?_))
    refine setX_add (s := { s2 with toks := s2.toks + 1 }) (X.keep fun o e => mv.heap T o hTw e) (by omega) fun b h' l' sb X' hl' hll' => ?_
    refine wpAny_pure ⟨plainId_quiet F.plain_set_update_loop _, ih (i + 1) _ l' (by omega) lt (Wl.frame _ s2 _ _ st2 (Nat.le_succ _) fun b hbf o e => ?_) X' (by omega) (fun x => ?_) fun s3 l3 mv3 X3 hl3 => ?_⟩
    · rw [sb.2 b fun z : b = T => hT (z ▸ hbf)]; exact e
    · rw [hl' x, hl x, List.take_succ, hk]; simp
    · refine hR s3 l3 (Moved.trans Wl.gtrans ((mv.mono up).then_heap (Nat.le_succ _) fun b o hbw e => ?_) mv3) X3 hl3
      rw [sb.2 b fun z : b = T => hbw (by rw [z]; exact List.mem_cons_self)]; exact e
theorem setX_fresh {h : Heap} (ho : h.get? a = some { cls := .type "set", dict := none, data := .set #[] 0 (.fresh 0 0 (!w.params.followText "set-order")) }) : SetX P w h a [] :=
  ⟨⟨(#[], 0, .fresh 0 0 (!w.params.followText "set-order")), ho, Froz.TxOk.nil rfl, List.Pairwise.nil, by
    show _ ∨ (!w.params.followText "set-order") = true
    cases w.params.followText "set-order" <;> simp⟩, List.nodup_nil, by decide⟩
/-- set(xs), xs a list of texts -/
theorem call_setX {p : Addr} {items : Array Value} (xs : List Str) {Q : Value → Shared → Prop} (hh : A.handled = none) (hl : s.heap.IsList p items) (hit : Vals (xs.map V.str) items.toList) (few : xs.length < 3000)
    (h : ∀ (h' : Heap) (tk : Nat) (l : List Str), SetX P w h' s.heap.objs.size l → (∀ x, x ∈ l ↔ x ∈ xs) → (∀ b o, s.heap.get? b = some o → h'.get? b = some o) → Q (.ref s.heap.objs.size) { s with heap := h', toks := tk }) :
    wpAny (model P w) A (call (.type "set") [.ref p]) Q E s := by
  have hsz : items.size = xs.length := by have := hit.length; rw [List.length_map, Array.length_toList] at this; exact this.symm
  let nw : Obj := { cls := .type "set", dict := none, data := .set #[] 0 (.fresh 0 0 (!w.params.followText "set-order")) }
  obtain ⟨c, tl, hmro⟩ := F.called_set.mro
  have hmade := F.called_set.made; have hsub := F.called_set.sub
  refine wpAny_call (codeAny_of_tree ?_)
  show wpAny _ _ (callAny (Value.type "set") _) _ _ _
  refine wpAny_pure ⟨Code.quiet_builtin _ (by decide +kernel), codeAny_builtin F.entry_type_call ?_⟩; rw [Around.under_plain (weight_type_call_type "set" [.ref p] []) rfl]
  have h1 := F.called_set.notType; have h2 := F.called_set.canCreate
  have hct := F.typeCall_set_1 (.ref p)
  repeat (any_goals (first | assumption | wp_step))
  refine codeAny_mono (code_set_led1 (.ref p) (E := E) (Q₁ := fun ob s2 => ob = .ref s.heap.objs.size ∧ s2 = { s with heap := s.heap.push nw }) ⟨rfl, rfl⟩) fun r s1 hr => ?_
  match r, hr with
  | .error e, hr => exact hr
  | .ok .next, hr => exact hr.elim
  | .ok .brk, hr => exact hr.elim
  | .ok .cont, hr => exact hr.elim
  | .ok (.ret ob), hr =>
    obtain ⟨rfl, rfl⟩ := hr
    have at0 : (s.heap.push nw).get? s.heap.objs.size = some nw := Heap.get?_push_size _ rfl
    have hT : Shared.TypeIs { s with heap := s.heap.push nw } (.ref s.heap.objs.size) "set" := ⟨_, at0, rfl⟩
    have hli := F.called_set.init.lookup; have hbi := F.called_set.init.bind (.ref s.heap.objs.size)
    repeat (any_goals (first | assumption | wp_step))
    refine codeAny_mono (codeAny_call_builtin (R := wants (fun r s2 => r = .none ∧ ∃ h' tk l, s2 = { s with heap := h', toks := tk } ∧ SetX P w h' s.heap.objs.size l ∧ (∀ x, x ∈ l ↔ x ∈ xs) ∧ ∀ b o, s.heap.get? b = some o → h'.get? b = some o) E) F.called_set.init.plain F.entry_set_init (check_set_init_1 hT ?_)) fun r2 s2 hr2 => ?_
    · obtain ⟨⟨oc, od, oda, osl⟩, hol, hcl, nl, hdl⟩ := hl
      simp only at hcl hdl; subst hcl; subst hdl
      have hol' : (s.heap.push nw).get? p = some { cls := .type "list", dict := od, data := .seq items nl, slots := osl } := Heap.get?_push_of_some _ hol
      have s1 := F.sub_list_set; have s2 := F.sub_list_frozenset
      have hne : (Value.type "list" == Value.type "dict") = false := by decide
      have hl1 : (s.heap.push nw).IsList p items := ⟨_, hol', rfl, nl, rfl⟩
      unfold Builtin.«set.__init__» noKeywords Builtin.Frozenset.updateFrom
      generalize hPI : pyIter = PI; wp_walk; subst hPI
      refine wpAny_pyIter_list hl1 (wpAny_bind (wpAny_runValue ?_))
      have hlt : p < s.heap.objs.size := Heap.lt_size hol
      have hneI : p ≠ (s.heap.push nw).objs.size := by rw [Heap.size_push]; exact Nat.ne_of_lt (Nat.lt_succ_of_lt hlt)
      have hSf : s.heap.objs.size ∉ [(s.heap.push nw).objs.size, p] := by
        rw [Heap.size_push]; intro z
        rcases List.mem_cons.mp z with z | z
        · exact absurd z (Nat.ne_of_lt (Nat.lt_succ_self _))
        · rw [← List.mem_singleton.mp z] at hlt; exact absurd hlt (Nat.lt_irrefl _)
      have hval : ∀ (i : Nat) (v : Value), items[i]? = some v → ∃ k t, xs[i]? = some k ∧ v = .str k t := fun i v hv => by
        have q : items.toList[i]? = some v := by rw [Array.getElem?_toList]; exact hv
        exact vals_str hit i v q
      refine setX_loop ((Walks.list (show A.in1.in1.in1.handled = none by simp [hh]) _ p hneI items).toS) s.heap.objs.size hSf xs hsz (by omega) hval (items.size - 0) 0 _ [] (by omega) (Nat.zero_le _) ⟨⟨_, Heap.get?_push_size _ rfl, rfl, rfl⟩, hl1.push _⟩ (setX_fresh (Heap.get?_push_of_some _ at0)) (Nat.le_refl _) (by simp) fun s3 l3 mv X3 hl3 => ?_
      obtain ⟨h', g2, d', tk', os'⟩ := s3
      have eg : g2 = s.gens := mv.gens
      have ed : d' = s.drawn := mv.drawn
      have eo : os' = s.os := mv.os
      subst eg ed eo
      show wpAny _ _ _ _ _ _
      refine wpAny_pure ?_
      show wpAny _ _ (ret .none) _ _ _
      refine wpAny_pure ⟨rfl, h', tk', l3, rfl, X3, hl3, fun b o e => ?_⟩
      have hb := Heap.lt_size e
      refine mv.heap b o (fun z => ?_) (Heap.get?_push_of_some _ (Heap.get?_push_of_some _ e))
      rcases List.mem_cons.mp z with z | z
      · rw [z] at hb; exact absurd hb (Nat.lt_irrefl _)
      · rw [List.mem_singleton.mp z, Heap.size_push] at hb; exact absurd hb (Nat.not_lt_of_le (Nat.le_succ _))
    · match r2, hr2 with
      | .error e, hr2 => exact hr2
      | .ok .next, hr2 => exact hr2.elim
      | .ok .brk, hr2 => exact hr2.elim
      | .ok .cont, hr2 => exact hr2.elim
      | .ok (.ret rv), hr2 =>
        obtain ⟨rfl, h', tk, l, rfl, X', hl', hk'⟩ := hr2
        repeat (any_goals (first | assumption | wp_step))
        exact h _ _ _ X' hl' hk'
end
/-! ### sorted, of a set of texts -/
def SxO (P : Program) (w : World) (a : Addr) (l : List Str) : HO := .ext fun h => SetX P w h a l
theorem sx_new {P : Program} {w : World} {H : Hp} {h : Heap} {a : Addr} {l : List Str} (X : SetX P w h a l) : ObjOk P w H h a (SxO P w a l) :=
  ⟨X, (by obtain ⟨⟨D, h1, _⟩, _⟩ := X; exact ⟨_, h1⟩), fun _ _ X k => X.keep fun o e => k o e⟩
theorem sx_get {X : Cx} {pins : List (Addr × Obj)} {σ : Sl} {H : Hp} {s : Shared} {a : Addr} {l : List Str} (I : Inv X pins σ H s) (h : H a = some (SxO X.prog X.w a l)) : SetX X.prog X.w s.heap a l := (I.hok a _ h).1
def gSetX (P : Program) (w : World) : List V → Hp → VK → Prop := fun vs H Q => ∃ (p : Addr) (xs : List Str), vs = [.ref p] ∧ H p = some (.lst (xs.map V.str)) ∧ xs.length < 3000 ∧ ∀ a l, H a = none → l.Nodup → (∀ x, x ∈ l ↔ x ∈ xs) → Q (.ref a) (upd H a (SxO P w a l))
def srtS (l : List Str) : List Str := l.mergeSort fun a b => dle (.str a) (.str b)
def gSortX (P : Program) (w : World) : List V → Hp → VK → Prop := fun vs H Q => ∃ (a : Addr) (l : List Str), vs = [.ref a] ∧ H a = some (SxO P w a l) ∧ ∀ p m, H p = none → m.Perm l → Q (.ref p) (upd H p (.lst ((srtS m).map V.str)))
theorem setXr {X : Cx} (hc : X.calm = true) : CallR X (.type "set") (gSetX X.prog X.w) := by
  intro pins s σ H vs us Q I r h
  obtain ⟨p, xs, rfl, hl, few, q⟩ := h
  obtain ⟨u, rfl, ru⟩ := vals1 r
  cases ru
  obtain ⟨its, rv, pl, hz⟩ := I.list (SqL.of (K := X.K) hl)
  refine call_setX (P := X.prog) (w := X.w) xs (I.ok.hd hc) pl.isList (by simpa using rv) few fun h' tk l X' hl' hk => ?_
  exact ⟨.ref s.heap.objs.size, _, I.laid (t' := tk) hk (Nat.le_refl _) (sx_new X'), rfl, q _ l (I.hok.fresh (Nat.le_refl _)) X'.nd hl'⟩
def strZ (l : List Str) : List (V × PyData) := l.map fun x => (V.str x, PyData.str x)
theorem strZ_fst (l : List Str) : (strZ l).map Prod.fst = l.map V.str := by unfold strZ; rw [List.map_map]; rfl
theorem strZ_snd (l : List Str) : (strZ l).map Prod.snd = l.map PyData.str := by unfold strZ; rw [List.map_map]; rfl
theorem strZ_sort (l : List Str) : ((strZ l).mergeSort fun x y => dle x.2 y.2).map Prod.fst = (srtS l).map V.str := by
  unfold strZ srtS
  rw [← PySem.W.sort_maps (r := fun (a b : Str) => dle (.str a) (.str b)) (s := fun (x y : V × PyData) => dle x.2 y.2) (fun x : Str => (V.str x, PyData.str x)) fun a _ b _ => rfl, List.map_map]
  rfl
theorem strs_vals : ∀ {vs : List Value} , (∀ v ∈ vs, ∃ k t, v = Value.str k t) → ∃ ms : List Str, Vals (ms.map V.str) vs ∧ vs.map (fun v => match v with | .str k _ => k | _ => Str.empty) = ms
  | [], _ => ⟨[], .nil, rfl⟩
  | v :: vs, h => by
    obtain ⟨k, t, rfl⟩ := h v List.mem_cons_self
    obtain ⟨ms, h1, h2⟩ := strs_vals (vs := vs) fun x hx => h x (List.mem_cons_of_mem _ hx)
    exact ⟨k :: ms, .cons ⟨t, rfl⟩ h1, by rw [List.map_cons, h2]⟩
end TA

set_option linter.all false
set_option maxRecDepth 100000
set_option maxHeartbeats 4000000
/-! sorted(set(xs)), xs a list of texts: the end. -/
namespace TA
open PySem PySem.Spec L2 PyProof.Rows PySem.Calls
theorem perm_of_sub {α : Type} [DecidableEq α] : ∀ {l m : List α}, l.Nodup → (∀ x ∈ l, x ∈ m) → m.length = l.length → m.Perm l
  | [], m, _, _, h => by rw [List.length_nil] at h; rw [List.eq_nil_of_length_eq_zero h]
  | x :: l, m, nd, hs, h => by
    obtain ⟨n1, n2⟩ := List.nodup_cons.mp nd
    have hx := hs x List.mem_cons_self
    have hp := List.perm_cons_erase hx
    refine hp.trans (List.Perm.cons x (perm_of_sub n2 (fun y hy => (List.mem_erase_of_ne fun z : y = x => n1 (z ▸ hy)).mpr (hs y (List.mem_cons_of_mem _ hy))) ?_))
    rw [List.length_erase_of_mem hx, h]; rfl
theorem is_inv {P : Program} {w : World} {k : Str} {v : Value} (h : (PySem.strKind P w).is k v = true) : ∃ t, v = .str k t := by
  have h : Value.isStrOf k v = true := h
  cases v <;> simp [Value.isStrOf] at h
  exact ⟨_, by rw [h]⟩
theorem sortXr {X : Cx} (hc : X.calm = true) (hu : X.A.units + 64 < cLine) : CallR X (.builtin "sorted") (gSortX X.prog X.w) := by
  intro pins s σ H vs us Q I r h
  obtain ⟨a, l, rfl, ha, q⟩ := h
  obtain ⟨u, rfl, ru⟩ := vals1 r
  cases ru
  obtain ⟨⟨⟨es, ep, t⟩, ho, F, wk⟩, nd, few⟩ := sx_get I ha
  have hsz : es.size = l.length := F.sz
  have hb : es.size < scanBound := by rw [hsz]; exact Nat.lt_trans few (by decide)
  refine call_function_entry kind_sorted plain_sorted entry_sorted (args_sorted1 _) ?_
  unfold Builtin.«sorted»
  refine wpAny_bind (m := checkCount "sorted" 1 1 _) (wpAny_pure ?_)
  refine wpAny_bind (collect_set (A := X.A.in1) (I.ok.hd hc) ⟨_, ho, rfl, rfl⟩ F.fit hb wk.1 wk.2 fun s1 out k1 z1 g1 o1 pm => ?_)
  obtain ⟨m, rm, em⟩ := strs_vals (vs := out) fun v hv => by
    obtain ⟨e, he, ev⟩ := List.mem_map.mp (pm.mem_iff.mp hv)
    obtain ⟨⟨k, hk, _⟩, _⟩ := F.el e he
    rw [← ev]
    obtain ⟨t2, e2⟩ := is_inv hk
    exact ⟨k, t2, e2⟩
  have hol : out.length = l.length := by rw [pm.length_eq, List.length_map, Array.length_toList]; exact hsz
  have hml : m.length = l.length := by rw [← em, List.length_map]; exact hol
  have hperm : m.Perm l := perm_of_sub nd (fun x hx => by
    obtain ⟨e, he, hk⟩ := (F.mem x).mp hx
    rw [← em]
    refine List.mem_map.mpr ⟨e.2, pm.mem_iff.mpr (List.mem_map.mpr ⟨e, he, rfl⟩), ?_⟩
    obtain ⟨t2, e2⟩ := is_inv hk
    rw [e2]) hml
  have hL : out.length ≤ sizeLine := by rw [hol, sizeLine_eq]; omega
  refine wpAny_bind (wpAny_newList ?_ hL)
  have hat2 : (s1.heap.push { cls := .type "list", data := .seq out.toArray }).get? s1.heap.objs.size = some (seqObj "list" out.toArray 0) := Heap.get?_push_size _ rfl
  refine wpAny_bind (wpAny_holding (wpAny_call_entry_kw slot_list_sort ⟨_, hat2, rfl⟩ entry_list_sort ?body (args_list_sort _)))
  case body =>
    rw [← strZ_fst] at rm
    let h2 := PySem.W.sortingHeap (s1.heap.push { cls := .type "list", data := .seq out.toArray }) s1.heap.objs.size out
    have hr : RpAll H ((strZ m).map Prod.fst) ((strZ m).map Prod.snd) := by rw [strZ_fst, strZ_snd]; exact rpAll_strs m
    have old : ∀ b o, s.heap.get? b = some o → h2.get? b = some o := fun b o e => PySem.W.sortingHeap_old (Nat.ne_of_lt (Heap.lt_size (k1 _ _ e))) (Heap.get?_push_of_some _ (k1 _ _ e))
    have rd := each_reads I rm hr
    have rd2 : PySem.W.EachIs (fun (v : Value) (z : V × PyData) => ∃ as, Reads h2 v z.2 as) out (strZ m) := rd.mono fun v z ⟨as, e⟩ => ⟨as, PySem.W.reads_keeps old e⟩
    have hal2 : PySem.W.AllAlike ((strZ m).map Prod.snd) := by
      rw [strZ_snd]; exact PySem.W.AllAlike.of fun a b => by simp [PySem.W.alike]
    have hsb : PySem.W.Sortable ((strZ m).map Prod.snd) := by
      rw [strZ_snd]; exact PySem.W.Sortable.others fun a => ⟨by simp, fun xs => by simp⟩
    have Sa : PySem.W.SortsAt X.prog X.w X.A.in1.in1 { s1 with heap := h2 } (PySem.W.dataKind h2 ((strZ m).map Prod.snd)) out := by
      refine PySem.W.SortsAt.data (each_snd rd2) hal2 hsb fun d hd => ?_
      rw [strZ_snd] at hd
      obtain ⟨n, _, rfl⟩ := List.mem_map.mp hd
      show X.A.units + 1 + 1 + _ < cLine
      simp [PyData.depth]; omega
    show wpAny (model X.prog X.w) X.A.in1.in1 (Builtin.«list.sort» ⟨[.ref s1.heap.objs.size], []⟩) _ _ _
    refine PySem.W.list_sort_vals (s := { s1 with heap := s1.heap.push { cls := .type "list", data := .seq out.toArray } }) hat2 Sa hL ?_
    refine ⟨_, rfl, wpAny_pure ⟨_, rfl, ?_⟩⟩
    have e : PySem.W.EachIs (fun (v : Value) (z : V × PyData) => RelV z.1 v) (PySem.W.sortVals (PySem.W.dataKind h2 ((strZ m).map Prod.snd)) false out out) ((strZ m).mergeSort (PySem.W.sortLe (PySem.W.dataKind h2 ((strZ m).map Prod.snd)).toKeyOrd false fun z => PySem.W.keyToks z.2)) := by
      refine PySem.W.sortVals_each (κ := PySem.W.dataKind h2 ((strZ m).map Prod.snd)) (fun z => PySem.W.keyToks z.2) (each_vals rm) ((each_in rd2).mono fun v z ⟨⟨as, e⟩, mm⟩ => ?_)
      exact PySem.W.dataKind_some hal2 (List.mem_map.mpr ⟨z, mm, rfl⟩) e
    have e2 : ((strZ m).mergeSort (PySem.W.sortLe (PySem.W.dataKind h2 ((strZ m).map Prod.snd)).toKeyOrd false fun z => PySem.W.keyToks z.2)) = (strZ m).mergeSort fun x y => dle x.2 y.2 := rfl
    rw [e2] at e
    have v2 := vals_each e
    rw [strZ_sort] at v2
    obtain ⟨n, hn⟩ := sortedHeap_at (out := (PySem.W.sortVals (PySem.W.dataKind h2 ((strZ m).map Prod.snd)) false out out).toArray) hat2
    have hn' : H s1.heap.objs.size = none := I.hok.fresh z1
    have kk : ∀ b o, s.heap.get? b = some o → (sortedHeap (s1.heap.push { cls := .type "list", data := .seq out.toArray }) s1.heap.objs.size out (PySem.W.sortVals (PySem.W.dataKind h2 ((strZ m).map Prod.snd)) false out out).toArray).get? b = some o := fun b o e => by
      have e1 := k1 b o e
      rw [sortedHeap_old (Nat.ne_of_lt (Heap.lt_size e1)) (by rw [size_push']; exact Nat.lt_succ_of_lt (Heap.lt_size e1))]
      exact Heap.get?_push_of_some _ e1
    have hlen : ((srtS m).map V.str).length ≤ sizeLine := by
      unfold srtS
      rw [List.length_map, List.length_mergeSort, hml, sizeLine_eq]; omega
    refine ⟨.ref s1.heap.objs.size, upd H s1.heap.objs.size (.lst ((srtS m).map V.str)), ?_, rfl, q _ m hn' hperm⟩
    have J : Inv X pins σ (upd H s1.heap.objs.size (.lst ((srtS m).map V.str))) { s with heap := sortedHeap (s1.heap.push { cls := .type "list", data := .seq out.toArray }) s1.heap.objs.size out (PySem.W.sortVals (PySem.W.dataKind h2 ((strZ m).map Prod.snd)) false out out).toArray, gens := s1.gens, drawn := s1.drawn, toks := s1.toks } :=
      I.call (ch := []) (Un.laid kk z1 hn') (I.hok.laid kk z1 ⟨hlen, _, n, v2, hn⟩) (by rw [g1]; exact I.bare) (fun _ z => nomatch z)
    obtain ⟨hp1, g2, d1, tk1, os1⟩ := s1
    have o1 : os1 = s.os := o1
    subst o1
    exact J
/-- sorted(set(e)) -/
def fSortS (te : TE) : TE := fun σ H Q => te σ H fun x H1 => ∃ (p : Addr) (xs : List Str), x = .ref p ∧ H1 p = some (.lst (xs.map V.str)) ∧ xs.length < 3000 ∧
  ∀ (a p2 : Addr) (o : HO) (m : List Str), H1 a = none → upd H1 a o p2 = none → m.Nodup → (∀ x, x ∈ m ↔ x ∈ xs) → Q (.ref p2) (upd (upd H1 a o) p2 (.lst ((srtS m).map V.str)))
section
variable {X : Cx} {e : Expr} {te : TE} {p1 p2 pos pos2 : Pos}
theorem pe_sortS (hc : X.calm = true) (hu : X.A.units + 64 < cLine) (hm1 : X.mg "sorted" = none) (hm2 : X.mg "set" = none) (he : PE X e te) (hg1 : Gl X "sorted" := by rfl) (hg2 : Gl X "set" := by rfl)
    (h1 : starEach [e] X.env = (false, eval e X.env) :: starEach [] X.env := by rfl) (h2 : starEach [.Call (.Name "set" p2) [e] [] pos2] X.env = (false, eval (.Call (.Name "set" p2) [e] [] pos2) X.env) :: starEach [] X.env := by rfl)
    (q1 : (backTo pos2 (starEach [] X.env)).any (·.1) = false := by rfl) (q2 : (backTo pos (starEach [] X.env)).any (·.1) = false := by rfl) :
    PE X (.Call (.Name "sorted" p1) [.Call (.Name "set" p2) [e] [] pos2] [] pos) (fSortS te) :=
  PE_imp (pe_callB (sortXr hc hu) hg1 hm1 (by decide +kernel) (pa_cons (pe_callTy (setXr hc) hg2 hm2 (by decide +kernel) (pa_cons (PE_mo he) pa_nil h1) (by decide) (by decide) h1 q1) pa_nil h2) (by decide) (by decide) h2 q2) fun σ H Q h => ⟨_, h, fun x H1 ⟨p, xs, ex, hx, few, k⟩ => ⟨p, xs, by rw [ex], hx, few, fun a l ha nd hl => ⟨a, l, rfl, upd_same, fun p2 m hp2 pm => k a p2 _ m ha hp2 (pm.nodup_iff.mpr nd) fun x => pm.mem_iff.trans (hl x)⟩⟩⟩
end
end TA

set_option linter.all false
set_option maxHeartbeats 4000000
/-! Comprehensions over range(i, j). -/
namespace TA
open PySem PySem.Spec L2 PyProof.Rows
def fLcR2 (ta : TA) (g : TG) (tt : TT) (te : TE) (vs : List Nat) : TE := fun σ H Q => ta σ H fun us H1 => ∃ i j : Int, us = [.int i, .int j] ∧ (-(2 ^ 62) ≤ i ∧ i < 2 ^ 62 ∧ -(2 ^ 62) ≤ j ∧ j < 2 ^ 62) ∧ CompW (fun _ => True) (j - i).toNat (fun k x => x = .int (i + (k : Int))) g tt te vs σ H1 Q
section
variable {g : TG} {tt : TT} {te : TE} {ta : TA} {vs : List Nat} {σ : Sl} {H : Hp} {Q : VK}
theorem lcR2_up (h : fLcR2 ta g tt te vs σ H Q) : tLc (iRng2 (moA ta)) (moG g) (moT tt) (mo te) vs σ H Q :=
  ⟨_, h, fun _ _ ⟨i, j, x1, x2, k⟩ => ⟨i, j, x1, x2, comp_up walk_range (fun _ _ => trivial) (fun m H x H' _ _ y => ⟨y.1, y.2⟩) k⟩⟩
end
section
variable {X : Cx} {elt tg e1 e2 : Expr} {ifs : List Expr} {scope : Scope} {own : List (Str × Nat)} {pos p p2 : Pos} {g : TG} {tt : TT} {te : TE} {ta : TA}
theorem pe_lcR2 (hc : X.calm = true) (hN : X.N.Nodup) (hg' : Gl X "range") (hm : X.mg "range" = none) (ha : PA X [e1, e2] ta) (ok : BlkOk X.N X.env.scope scope own) (hg : Blk X scope fun Y => PG Y tg g) (ht : Blk X scope fun Y => PTs Y ifs tt) (he : Blk X scope fun Y => PE Y elt te)
    (hs0 : starEach [e1, e2] X.env = [(false, eval e1 X.env), (false, eval e2 X.env)] := by rfl) (hs1 : starEach [e2] X.env = [(false, eval e2 X.env)] := by rfl) (hs : ∀ x, foldedSetIterable (.Call (.Name "range" p) [e1, e2] [] p2) X.env x = pure x := by intro _; rfl) :
    PE X (.ListComp elt [⟨tg, .Call (.Name "range" p) [e1, e2] [] p2, ifs, 0⟩] scope pos) (fLcR2 ta g tt te (own.map (·.2))) := PE_imp (pe_lc hc hN (pi_range2 hg' hm (PA_mo ha) hs0 hs1) ok (fun a b c d e => PG_mo (hg a b c d e)) (fun a b c d e => PTs_mo (ht a b c d e)) (fun a b c d f => PE_mo (he a b c d f)) hs) fun _ _ _ h => lcR2_up h
variable {i : Nat} {y : Str} {py spos : Pos}
theorem ps_lcR2 (hc : X.calm = true) (hN : X.N.Nodup) (hy : X.N[i]? = some y) (hyl : X.env.scope.names.lookup y = some .local) (hsw : swapsWith (.ListComp elt [⟨tg, .Call (.Name "range" p) [e1, e2] [] p2, ifs, 0⟩] scope pos) (some (.Name y py)) spos.line X.env = pure true)
    (hg' : Gl X "range") (hm : X.mg "range" = none) (ha : PA X [e1, e2] ta) (ok : BlkOk X.N X.env.scope scope own) (hg : Blk X scope fun Y => PG Y tg g) (ht : Blk X scope fun Y => PTs Y ifs tt) (he : Blk X scope fun Y => PE Y elt te)
    (hs0 : starEach [e1, e2] X.env = [(false, eval e1 X.env), (false, eval e2 X.env)] := by rfl) (hs1 : starEach [e2] X.env = [(false, eval e2 X.env)] := by rfl) (hs : ∀ x, foldedSetIterable (.Call (.Name "range" p) [e1, e2] [] p2) X.env x = pure x := by intro _; rfl) :
    PS X (.Assign [.Name y py] (.ListComp elt [⟨tg, .Call (.Name "range" p) [e1, e2] [] p2, ifs, 0⟩] scope pos) spos) (tAsg (fLcR2 ta g tt te (own.map (·.2))) (gName i)) := PS_imp (ps_setLc hc hN hy hyl hsw (pi_range2 hg' hm (PA_mo ha) hs0 hs1) ok (fun a b c d e => PG_mo (hg a b c d e)) (fun a b c d e => PTs_mo (ht a b c d e)) (fun a b c d f => PE_mo (he a b c d f)) hs) fun _ _ _ h => lcR2_up h
end
end TA

set_option linter.all false
set_option maxRecDepth 100000
/-! The dict WORDS of the text. -/
namespace TA
open PySem L2
def WL : List (Str × Int) := [("put", 2), ("key", 2), ("rub", 1), ("tick", 2), ("again", 1), ("add", 2), ("remove", 2)]
def wkv (e : DictEntry) : Option (Str × Int) := match e.key, e.val with
  | .str x _, .int i _ => some (x, i)
  | _, _ => none
def wdB (K : PySem.W.Frag) : Bool := match K.lookup (He.ga K "WORDS") with
  | some ⟨_, _, .dict es _, _⟩ => decide (es.toList.map wkv = WL.map some)
  | _ => false
def lkW (l : List (Str × Int)) (z : Str) : Option Int := (l.find? fun p => decide (p.1 = z)).map (·.2)
def wN (z : Str) : Option Int := lkW WL z
/-- WORDS stands -/
structure TW (K : PySem.W.Frag) (w : World) : Prop where
  kd : ∃ es n, KDict K w (He.ga K "WORDS") es n
  ok : wdB K = true
theorem wkv_some {e : DictEntry} {p : Str × Int} (h : wkv e = some p) : ∃ t u, e.key = .str p.1 t ∧ e.val = .int p.2 u := by
  unfold wkv at h
  split at h
  · rename_i x t i u h1 h2
    cases h
    exact ⟨t, u, h1, h2⟩
  · cases h
theorem ns_list {z : Str} : ∀ {l : List DictEntry} {kv : List (Str × Int)}, l.map wkv = kv.map some → (∀ i, lkW kv z = some i → ∃ e t, l.find? (·.key.isStr z) = some e ∧ e.val = .int i t) ∧ (lkW kv z = none → l.find? (·.key.isStr z) = none) ∧ l.any (·.refKey) = false
  | [], [], _ => ⟨fun i h => (by unfold lkW at h; simp at h), ⟨fun _ => rfl, rfl⟩⟩
  | [], _ :: _, h => by cases h
  | _ :: _, [], h => by cases h
  | e :: l, p :: kv, h => by
    injection h with h1 h2
    obtain ⟨t, u, k1, k2⟩ := wkv_some h1
    obtain ⟨ih1, ih2, ih3⟩ := ns_list (z := z) h2
    have ei : e.key.isStr z = decide (p.1 = z) := by
      rw [k1, Bool.eq_iff_iff, decide_eq_true_eq]
      exact beq_iff_eq
    have er : e.refKey = false := by unfold DictEntry.refKey; rw [k1]
    by_cases c : p.1 = z
    · have c1 : e.key.isStr z = true := by rw [ei]; exact decide_eq_true c
      have e1 : lkW (p :: kv) z = some p.2 := by unfold lkW; rw [List.find?_cons_of_pos (by simpa using c)]; rfl
      refine ⟨fun i hi => ?_, fun hn => ?_, ?_⟩
      · rw [e1] at hi; cases hi
        exact ⟨e, u, List.find?_cons_of_pos (p := fun x : DictEntry => x.key.isStr z) c1, k2⟩
      · rw [e1] at hn; cases hn
      · rw [List.any_cons, er, ih3]; rfl
    · have c1 : ¬ e.key.isStr z = true := by rw [ei]; simpa using c
      have e1 : lkW (p :: kv) z = lkW kv z := by unfold lkW; rw [List.find?_cons_of_neg (by simpa using c)]
      rw [e1, List.find?_cons_of_neg (p := fun x : DictEntry => x.key.isStr z) c1]
      exact ⟨ih1, ih2, by rw [List.any_cons, er, ih3]; rfl⟩
theorem TW.ns {K : PySem.W.Frag} {w : World} (U : TW K w) (z : Str) : (∀ i, wN z = some i → ∃ t, PySem.W.nsIn K (He.ga K "WORDS") z = some (some (.int i t))) ∧ (wN z = none → PySem.W.nsIn K (He.ga K "WORDS") z = some none) := by
  obtain ⟨es, n, D⟩ := U.kd
  have h := U.ok
  unfold wdB at h
  rw [D.at_] at h
  obtain ⟨h1, h2, h3⟩ := ns_list (z := z) (of_decide_eq_true h)
  unfold PySem.W.nsIn
  rw [D.at_]
  constructor
  · intro i hi
    obtain ⟨e, t, f, g⟩ := h1 i hi
    exact ⟨t, by simp only []; rw [f]; simp only []; rw [g]⟩
  · intro hn
    simp only []
    rw [h2 hn]
    simp only []
    rw [if_neg (by rw [h3]; decide)]
def gInW (K : PySem.W.Frag) (neg : Bool) : R2 := fun x y H Q => ∃ z : Str, x = .str z ∧ y = .ref (He.ga K "WORDS") ∧ Q (.bl (if neg then (wN z).isNone else (wN z).isSome)) H
def gIxW (K : PySem.W.Frag) : R2 := fun x y H Q => ∃ (z : Str) (i : Int), x = .ref (He.ga K "WORDS") ∧ y = .str z ∧ wN z = some i ∧ Q (.int i) H
section
variable {X : Cx}
theorem nsr {z : Str} (U : TW X.K X.w) : ∃ r : Option Value, PySem.W.nsIn X.K (He.ga X.K "WORDS") z = some r ∧ r.isSome = (wN z).isSome := by
  obtain ⟨h1, h2⟩ := U.ns z
  cases e : wN z with
  | none => exact ⟨none, h2 e, rfl⟩
  | some i => obtain ⟨t, q⟩ := h1 i e; exact ⟨_, q, rfl⟩
theorem op_inW (U : TW X.K X.w) : OpR X (compareOp .In) (gInW X.K false) := by
  obtain ⟨es, n, D⟩ := U.kd
  intro pins s σ H x y v u Q I rx ry ⟨z, e1, e2, q⟩
  obtain ⟨r, h1, h2⟩ := nsr (z := z) U
  exact op_in_kd D pins s σ H x y v u Q I rx ry ⟨z, r, e1, e2, h1, by rw [h2]; exact q⟩
theorem op_ninW (U : TW X.K X.w) : OpR X (compareOp .NotIn) (gInW X.K true) := by
  obtain ⟨es, n, D⟩ := U.kd
  intro pins s σ H x y v u Q I rx ry ⟨z, e1, e2, q⟩
  obtain ⟨r, h1, h2⟩ := nsr (z := z) U
  refine op_notIn_kd D pins s σ H x y v u Q I rx ry ⟨z, r, e1, e2, h1, ?_⟩
  rw [h2]
  have : (!(wN z).isSome) = (wN z).isNone := by cases wN z <;> rfl
  rw [this]; exact q
theorem op_ixW (U : TW X.K X.w) : OpR X getItem (gIxW X.K) := by
  obtain ⟨es, n, D⟩ := U.kd
  intro pins s σ H x y v u Q I rx ry ⟨z, i, e1, e2, e3, q⟩
  obtain ⟨t, h1⟩ := (U.ns z).1 i e3
  exact op_item_kd D pins s σ H x y v u Q I rx ry ⟨z, _, .int i, e1, e2, h1, ⟨t, rfl⟩, q⟩
end
end TA

set_option linter.all false
set_option maxRecDepth 100000
set_option maxHeartbeats 4000000
/-! try, with a clause for each of the text's errors that sets a word. -/
namespace TA
open PySem PySem.Spec L2 PyProof.Rows
/-- what the clauses wish: the word of the error's class is stored at j -/
def wWord (K : PySem.W.Frag) (ws : List (Str × Str)) (j : Nat) (D : Ends) : WX := fun cls d σ H => ∃ e z : Str, (e, z) ∈ ws ∧ cls = .ref (He.ga K e) ∧ D.nx (σ.set j (some (.str z))) H
/-- the clauses' readings -/
def tsW (K : PySem.W.Frag) (j : Nat) (ws : List (Str × Str)) : List (Value × (Addr → Value → Option Addr → TS)) := ws.map fun p => (.ref (He.ga K p.1), fun _ _ _ => tAsg (tC (.str p.2)) (gName j))
theorem many_of {K : PySem.W.Frag} {j : Nat} {D : Ends} {e z : Str} {d : Option Addr} {σ : L2.St} {H : Hp} (hq : D.nx (σ.set j (some (.str z))) H) : ∀ {ws : List (Str × Str)}, (∀ p ∈ ws, PySem.W.exmOne K (.ref (He.ga K e)) (.ref (He.ga K p.1)) = some (decide (e = p.1))) → (e, z) ∈ ws → (ws.map Prod.fst).Nodup →
    wMany K (fun _ _ _ _ => False) D (tsW K j ws) (.ref (He.ga K e)) d σ H
  | [], _, h, _ => by cases h
  | p :: ws, hx, h, nd => by
    refine ⟨decide (e = p.1), hx p List.mem_cons_self, fun hb a _ => ?_, fun hb => ?_⟩
    · have ep : e = p.1 := of_decide_eq_true hb
      have ez : z = p.2 := by
        rcases List.mem_cons.mp h with q | q
        · rw [← q]
        · rw [List.map_cons, List.nodup_cons] at nd
          exact absurd (List.mem_map.mpr ⟨(e, z), q, ep⟩) nd.1
      rw [ez] at hq
      exact hq
    · have ne : ¬ e = p.1 := of_decide_eq_false hb
      rcases List.mem_cons.mp h with q | q
      · exact absurd (congrArg Prod.fst q) ne
      · rw [List.map_cons, List.nodup_cons] at nd
        exact many_of hq (fun p hp => hx p (List.mem_cons_of_mem _ hp)) q nd.2
abbrev ws3 : List (Str × Str) := [("BadText", "text"), ("BadNumber", "number"), ("BadAsk", "ask")]
abbrev exO (K : PySem.W.Frag) (x y : Str) : Option Bool := PySem.W.exmOne K (.ref (He.ga K x)) (.ref (He.ga K y))
theorem exm3 {K : PySem.W.Frag} (h1 : exO K "BadText" "BadText" = some true) (h2 : exO K "BadText" "BadNumber" = some false) (h3 : exO K "BadText" "BadAsk" = some false) (h4 : exO K "BadNumber" "BadText" = some false) (h5 : exO K "BadNumber" "BadNumber" = some true) (h6 : exO K "BadNumber" "BadAsk" = some false)
    (h7 : exO K "BadAsk" "BadText" = some false) (h8 : exO K "BadAsk" "BadNumber" = some false) (h9 : exO K "BadAsk" "BadAsk" = some true) : ∀ p ∈ ws3, ∀ q ∈ ws3, PySem.W.exmOne K (.ref (He.ga K p.1)) (.ref (He.ga K q.1)) = some (decide (p.1 = q.1)) := by
  intro p hp q hq
  simp only [List.mem_cons, List.not_mem_nil, or_false] at hp hq
  rcases hp with rfl | rfl | rfl <;> rcases hq with rfl | rfl | rfl
  · exact h1.trans (by decide)
  · exact h2.trans (by decide)
  · exact h3.trans (by decide)
  · exact h4.trans (by decide)
  · exact h5.trans (by decide)
  · exact h6.trans (by decide)
  · exact h7.trans (by decide)
  · exact h8.trans (by decide)
  · exact h9.trans (by decide)
section
variable {X : Cx} {body : List Stmt} {h₀ : ExceptHandler} {hds : List ExceptHandler} {pos : Pos} {tb : WX → TS} {ws : List (Str × Str)} {j : Nat}
theorem ps_words (hs : X.stack = X.env :: X.outer) (hf : X.env.frame = some X.env.locals) (hx : ∀ p ∈ ws, ∀ q ∈ ws, PySem.W.exmOne X.K (.ref (He.ga X.K p.1)) (.ref (He.ga X.K q.1)) = some (decide (p.1 = q.1))) (nd : (ws.map Prod.fst).Nodup)
    (hb : ∀ (W : WX) (pn : List (Addr × Obj)) (xe : Value → Shared → Prop), Takes (X.tr pn xe) W → PassesOwn (model X.prog X.w) X.A X.env xe → PSs (X.tr pn xe) body (tb W))
    (hh : HdsOk X (h₀ :: hds) (tsW X.K j ws)) : PS X (.Try body (h₀ :: hds) [] [] pos) (fun D σ H => tb (wWord X.K ws j D) D σ H) := by
  have key := ps_try_many (pos := pos) (Wout := fun _ _ _ _ => False) (tb := fun W D σ H => ∃ W' : WX, (∀ c d σ H, W' c d σ H → W c d σ H) ∧ tb W' D σ H) hs hf takes_none5
    (fun W pn xe tk po => ⟨fun pins s σ H D I ⟨W', k, q⟩ => (hb W' pn xe (tk.imp k) po).run pins s σ H D I q⟩) hh
  refine PS_imp key fun D σ H h => ⟨wWord X.K ws j D, ?_, h⟩
  rintro c d σ' H' ⟨e, z, hm, rfl, q⟩
  exact many_of q (fun p hp => hx (e, z) hm p hp) hm nd
/-- WORDS, by its name -/
theorem pe_cR {x : Str} {a : Addr} {pos : Pos} (h : X.mg x = some (.ref a)) (hg : Gl X x := by rfl) (hd : (x == ("__debug__" : Str)) = false := by decide) : PE X (.Name x pos) (tC (.ref a)) := pe_glob hg h rfl hd
/-- WORDS[z] -/
theorem pe_ixW {o i : Expr} {td ty : TE} {pos : Pos} (U : TW X.K X.w) (ho : PE X o td) (hi : PE X i ty) (hs : NoSl i) : PE X (.Subscript o i pos) (tOp (gIxW X.K) td ty) := by
  obtain ⟨es, n, D⟩ := U.kd
  refine ⟨fun pins s σ H Q I h => ?_⟩
  refine subD_of PySem.F.slot_dict_getitem.lookup hs (thn (ho.run pins s σ H _ I h) fun u s1 ⟨x, H1, I1, rx, q1⟩ => thn (hi.run pins s1 σ H1 _ I1 q1) fun iv s2 ⟨y, H2, I2, ry, q2⟩ => ?_)
  have q3 := q2
  obtain ⟨z, k, ex, ey, _⟩ := q2
  subst ex
  have eu : u = Value.ref (He.ga X.K "WORDS") := rx
  subst eu
  exact ⟨kd_type D I2, op_ixW U pins s2 σ H2 (.ref (He.ga X.K "WORDS")) y _ iv Q I2 rx ry q3⟩
end
end TA

set_option linter.all false
set_option maxRecDepth 100000
set_option maxHeartbeats 4000000
/-! A list that fills names. -/
namespace TA
open PySem PySem.Spec L2 PyProof.Rows
section
variable {prog : Program} {w : World} {A : Around} {E : Value → Shared → Prop}
theorem draw_list {it t : Addr} {items : Array Value} (hne : t ≠ it) : ∀ (n i : Nat) (s : Shared) (Q : List Value → Shared → Prop), s.heap.IsListIter it t i → s.heap.IsList t items → i + n ≤ items.size →
    (∀ h', h'.IsListIter it t (i + n) → Heap.SameBut it s.heap h' → Q ((items.toList.drop i).take n) { s with heap := h' }) → wpAny (model prog w) A (draw (.ref it) n) Q E s
  | 0, i, s, Q, hit, _, _, hQ => by
    show wpAny _ _ (pure []) Q E s
    exact wpAny_pure (by simpa using hQ s.heap hit (Heap.SameBut.refl ..))
  | n + 1, i, s, Q, hit, ht, hle, hQ => by
    have hlt : i < items.size := by omega
    show wpAny _ _ (pyNext (.ref it) >>= _) Q E s
    refine wpAny_bind (wpAny_pyNext_list_item hit ht (x := items[i]) (by simp [hlt]) fun h₁ hit₁ hs₁ => ?_)
    refine wpAny_bind (wpAny_holding (draw_list hne n (i + 1) _ _ hit₁ (ht.extBut hs₁.extBut hne) (by omega) fun h₂ hit₂ hs₂ => wpAny_pure ?_))
    have hd : items.toList.drop i = items[i] :: items.toList.drop (i + 1) := by simp [List.drop_eq_getElem_cons, hlt]
    have := hQ h₂ (by rw [show i + (n + 1) = i + 1 + n by omega]; exact hit₂) (hs₁.trans hs₂)
    rw [hd, List.take_succ_cons] at this
    exact this
variable {s : Shared}
theorem unpackItems_list {t : Addr} {items : Array Value} {Q : List Value → Shared → Prop} (hh : A.handled = none) (ht : s.heap.IsList t items)
    (hQ : ∀ h', Heap.ExtBut s.heap.objs.size s.heap h' → Q items.toList { s with heap := h' }) : wpAny (model prog w) A (unpackItems (.ref t) items.size none) Q E s := by
  have hlt : t ≠ s.heap.objs.size := by obtain ⟨o, ho, _⟩ := ht; exact Nat.ne_of_lt (Heap.lt_size ho)
  unfold unpackItems
  refine wpAny_bind ?_
  · unfold notIterableAtAll
    refine wpAny_bind (wpAny_specialOf ht.typeIs slot_list_iter.lookup ?_)
    refine wpAny_pure ?_
    simp only [Bool.false_eq_true, if_false]
    refine wpAny_bind (wpAny_holding (wpAny_pyIter_list ht ?_))
    refine wpAny_bind (wpAny_holding (draw_list hlt items.size 0 _ _ ⟨_, Heap.get?_push_size _ rfl, rfl, rfl⟩ (ht.push _) (by omega) fun h₁ hit₁ hs₁ => ?_))
    have hall : List.take items.size (List.drop 0 items.toList) = items.toList := by
      rw [List.drop_zero]; exact List.take_of_length_le (by simp)
    rw [hall]
    rw [if_neg (by simp)]
    have ht₁ : h₁.IsList t items := (ht.push _).extBut hs₁.extBut hlt
    refine wpAny_bind (wpAny_holding (wpAny_pyNext_list_end hh hit₁ ht₁ (by simp) fun h₂ he₂ => ?_))
    simp only [Option.isSome_none, Bool.false_eq_true, if_false]
    refine wpAny_pure (hQ h₂ fun b o hb e => he₂ b o hb (hs₁.extBut b o hb (Heap.get?_push_of_some _ e)))
theorem unpack_list {t : Addr} {items : Array Value} {targets : List (Bool × (Value → Sem Unit))} {Q : Unit → Shared → Prop} (hh : A.handled = none) (ht : s.heap.IsList t items)
    (hn : targets.length = items.size) (hstar : targets.findIdx? (·.1) = none)
    (h : ∀ h', Heap.ExtBut s.heap.objs.size s.heap h' → wpAny (model prog w) A (assignInOrder (targets.map (·.2)) items.toList) Q E { s with heap := h' }) :
    wpAny (model prog w) A (unpack (.ref t) targets) Q E s := by
  unfold unpack
  rw [hn, hstar]
  exact wpAny_bind (wpAny_holding (unpackItems_list hh ht h))
theorem assign_Tuple_list {env : Env} {elts : List Expr} {x1} {pos : Pos} {t : Addr} {items : Array Value} {Q : Unit → Shared → Prop} (hh : A.handled = none) (ht : s.heap.IsList t items)
    (hn : (assignEach elts env).length = items.size) (hstar : (assignEach elts env).findIdx? (·.1) = none)
    (h : ∀ h', Heap.ExtBut s.heap.objs.size s.heap h' → wpAny (model prog w) A (assignInOrder ((assignEach elts env).map (·.2)) items.toList) Q E { s with heap := h' }) :
    wpAny (model prog w) A (assign (.Tuple elts x1 pos) env (.ref t)) Q E s := by
  rw [assign_Tuple]
  exact wpAny_bind (wpAny_standAt (unpack_list hh ht hn hstar h))
end
/-- (a, b, ..) = a list of that length -/
def fTupL (n : Nat) (t : TGs) : TG := fun v σ H Q => ∃ a xs, v = .ref a ∧ H a = some (.lst xs) ∧ xs.length = n ∧ t xs σ H Q
theorem pg_tupL {X : Cx} {pos : Pos} {es : List Expr} {k : Nat} {t : TGs} {n : Nat} (hc : X.calm = true) (h : PGs X es t)
    (hn : (assignEach es X.env).length = n := by rfl) (hst : (assignEach es X.env).findIdx? (·.1) = none := by rfl) : PG X (.Tuple es k pos) (fTupL n t) := by
  refine ⟨fun pins s σ H v u Q I r hw => ?_⟩
  obtain ⟨a, xs, e1, hq, hl, hw⟩ := hw
  subst e1
  cases r
  obtain ⟨its, rv, ht, hz⟩ := I.list (SqL.of hq)
  refine assign_Tuple_list (I.ok.hd hc) ht.isList (by simp [hn, ← hl, rv.length]) hst fun h' hx => ?_
  have I1 : Inv X pins σ H { s with heap := h' } := I.kept (t' := s.toks) fun b o e => hx b o (Nat.ne_of_lt (Heap.lt_size e)) e
  exact h.run pins _ σ H xs _ Q I1 (by simpa using rv) hw
end TA

set_option linter.all false
set_option maxRecDepth 100000
set_option maxHeartbeats 4000000
/-! isinstance of lists, tuples, dicts. -/
namespace TA
open PySem PySem.Spec L2 PyProof.Rows
/-- the name of a value's type -/
inductive TyN (H : Hp) : V → String → Prop where
  | non : TyN H .non "NoneType"
  | bl (b : Bool) : TyN H (.bl b) "bool"
  | int (i : Int) : TyN H (.int i) "int"
  | str (x : Str) : TyN H (.str x) "str"
  | lst {a : Addr} {xs : List V} (h : H a = some (.lst xs)) : TyN H (.ref a) "list"
  | tup {a : Addr} {xs : List V} (h : H a = some (.tup xs)) : TyN H (.ref a) "tuple"
  | dK {a : Addr} {kvs : List (Key × V)} (h : H a = some (.dK kvs)) : TyN H (.ref a) "dict"
theorem TyN.ty {K : PySem.W.Frag} {H : Hp} {x : V} {t : String} (h : TyN H x t) : TyX K H x (.type t) := by
  cases h with
  | non => exact .base .non
  | bl b => exact .base (.bl b)
  | int i => exact .base (.int i)
  | str x => exact .base (.str x)
  | lst h => exact .base (.lst h)
  | tup h => exact .base (.tup h)
  | dK h => exact .base (.dK h)
theorem kit_list {K : PySem.W.Frag} {H : Hp} {x : V} {t : String} (h : TyN H x t) : PySem.W.kitOne K (.type t) (.type "list") = some (decide (t = "list")) := by
  cases h <;> rfl
theorem kit_tup {K : PySem.W.Frag} {H : Hp} {x : V} {t : String} (h : TyN H x t) : PySem.W.kitOne K (.type t) (.type "tuple") = some (decide (t = "tuple")) := by
  cases h <;> rfl
theorem kit_dict {K : PySem.W.Frag} {H : Hp} {x : V} {t : String} (h : TyN H x t) : PySem.W.kitOne K (.type t) (.type "dict") = some (decide (t = "dict")) := by
  cases h <;> rfl
def gIsN (T : String) : List V → Hp → VK → Prop := fun xs H Q => ∃ (x : V) (t : String), xs = [x, .ty T] ∧ TyN H x t ∧ Q (.bl (decide (t = T))) H
theorem isN_of {X : Cx} {T : String} (h : ∀ {H : Hp} {x : V} {t : String}, TyN H x t → PySem.W.kitOne X.K (.type t) (.type T) = some (decide (t = T))) : CallR X (.builtin "isinstance") (gIsN T) := by
  intro pins s σ H xs us Q I r ⟨x, t, e1, ty, q⟩
  exact call_isi pins s σ H xs us Q I r ⟨x, .ty T, .type t, .type T, _, e1, by constructor, ty.ty, h ty, q⟩
section
variable {X : Cx} {e : Expr} {te : TE} {p p2 pos : Pos}
theorem pe_isN (T : String) (y : Str) (hv : bootBuiltins y = some (.type T)) (hn : y ≠ "__name__") (hd : (y == ("__debug__" : Str)) = false) (hk : ∀ {H : Hp} {x : V} {t : String}, TyN H x t → PySem.W.kitOne X.K (.type t) (.type T) = some (decide (t = T))) (hm : X.mg "isinstance" = none) (hm' : X.mg y = none) (he : PE X e te) (hg : Gl X "isinstance" := by rfl) (hg2 : Gl X y := by rfl)
    (h1 : starEach [e, .Name y p2] X.env = (false, eval e X.env) :: starEach [.Name y p2] X.env := by rfl) (h2 : starEach [.Name y p2] X.env = (false, eval (.Name y p2) X.env) :: starEach [] X.env := by rfl) (hpl : (backTo pos (starEach [.Name y p2] X.env)).any (·.1) = false := by rfl) :
    PE X (.Call (.Name "isinstance" p) [e, .Name y p2] [] pos) (tCB (gIsN T) (tCons te (tCons (tC (.ty T)) tNil))) :=
  pe_callB (isN_of hk) hg hm (by decide +kernel) (pa_cons he (pa_cons (pe_bltn hg2 hm' hv (v := .ty T) rfl hn hd) pa_nil h2) h1) (by decide) (by decide) h1 hpl
end
/-! ### the head tells of WORDS -/
def tabW : List He.Tab := [(fun K => He.ga K "WORDS", ["put", "key", "rub", "tick", "again", "add", "remove"])]
section
variable {fa : List He.Fa} {fn : List He.DefD} {h : Heap} {b : PySem.W.Frag → Bool} {K : PySem.W.Frag} {mg : Str → Option Value} {w : World}
theorem tx_ofW (X : K.In h) (G : h.Ns mainGlobals mg) (c : He.SaysX fa fn tabW [] (fun K => b K && wdB K) w h K) : TX fa K mg b :=
  ⟨⟨h, X, G⟩, fun _ hf => He.SaysD.facts c.t.d hf, (Bool.and_eq_true_iff.mp c.more).1⟩
theorem tw_of (c : He.SaysX fa fn tabW [] (fun K => b K && wdB K) w h K) : TW K w := ⟨He.SaysT.tab c.t 0 rfl, (Bool.and_eq_true_iff.mp c.more).2⟩
end
end TA

set_option linter.all false
set_option maxRecDepth 100000
set_option maxHeartbeats 4000000
/-! An exception that leaves a list comprehension from its element. -/
namespace TA
open PySem PySem.Spec L2 PyProof.Rows
/-- what is wanted behind a comprehension's block, an exception too -/
def cPost (M : Model) (A : Around) (E : Value → Shared → Prop) (env : Env) (Q : Value → Shared → Prop) (acc : Value) (C : Addr) (r : Result) (s' : Shared) : Prop :=
  match r with
  | .ok _ => ∃ m, s'.heap.Ns C m ∧ ∀ h', Heap.SameBut C s'.heap h' → Q acc { s' with heap := h' }
  | .error x => ∃ m, s'.heap.Ns C m ∧ ∀ h', Heap.SameBut C s'.heap h' → ∀ cenv : Env, cenv.frame = env.frame → wpAny M A (PySem.passOn "comprehension.variables-let-go" x cenv : Sem Value) (fun _ _ => False) E { s' with heap := h' }
section
variable {M : Model} {A : Around} {E : Value → Shared → Prop} {s : Shared} {env : Env}
theorem comp_freeX {e : Expr} {scope : Scope} {pos : Pos} {newAcc first : Sem Value} {g : Comprehension} {gs : List Comprehension} {cl : List (Str × Addr)} {Q : Value → Shared → Prop}
    (hcl : clausesOf e = g :: gs) (hs : ∀ x, foldedSetIterable g.iter env x = pure x) (hclos : closureFor scope env = pure cl)
    (hkind : scope.kind = .function) (hnames : ∀ x ∈ scope.names, x.2 = .local → scope.names.lookup x.1 = some .local)
    (h : wpAny M A first (fun x s₁ => wpAny M A (pyIter x) (fun it s₂ => wpAny M A newAcc (fun acc s₃ =>
      wpAny M A (newFunctionEnv scope env.globals cl [] env.qual none .none (some env)) (fun cenv s₄ => cenv.frame = env.frame ∧
        codeAny M A (.compStart e 0 it acc { cenv with scope := relabel scope env }) (cPost M A E env Q acc cenv.locals) s₄) E s₃) E s₂) E s₁) E s) :
    wpAny M A (comprehension e scope env pos newAcc false first none) Q E s := by
  unfold comprehension
  rw [hclos, hcl]
  refine wpAny_bind (wpAny_mono h (fun x s₁ h₁ => wpAny_bind (wpAny_standAt (wpAny_bind (wpAny_of_eq (hs x) (wpAny_bind (wpAny_holding (wpAny_mono h₁ (fun it s₂ h₂ =>
    wpAny_standIf (wpAny_bind (wpAny_mono h₂ (fun acc s₃ h₃ => wpAny_bind (wpAny_pure (wpAny_bind (wpAny_mono h₃ (fun cenv s₄ h₄ => ?_) fun _ _ h' => h')))) fun _ _ h' => h')))
      fun _ _ h' => h'))))))) fun _ _ h' => h')
  dsimp only
  obtain ⟨hfr, h₄⟩ := h₄
  have hv : ∀ x ∈ (scope.names.filter fun x => (x.2 == .local || x.2 == .cell) && x.1 != (".0" : Str)).reverse, x.2 = .local →
      Env.kindOf { cenv with scope := relabel scope env } x.1 = some .local := fun x hx hl => lookup_relabel_local (hnames x (List.mem_filter.mp (List.mem_reverse.mp hx)).1 hl)
  refine wpAny_holding (wpAny_bind (wpAny_attempt (wpAny_holding (wpAny_run (codeAny_mono h₄ fun r s' hr => ?_)))))
  cases r with
  | ok f =>
    obtain ⟨m, hn, hr⟩ := hr
    exact wpAny_bind (wpAny_holding (wpAny_comp_letGo (cenv := { cenv with scope := relabel scope env }) hkind _ s' m hv hn fun h' m' _ hs' => wpAny_pure (hr h' hs')))
  | error x =>
    obtain ⟨m, hn, hr⟩ := hr
    exact wpAny_bind (wpAny_holding (wpAny_comp_letGo (cenv := { cenv with scope := relabel scope env }) hkind _ s' m hv hn fun h' m' _ hs' => wpAny_mono (hr h' hs' _ hfr) (fun _ _ f => f.elim) fun _ _ y => y))
end
theorem noteFrame_frame {e : Value} {env env' : Env} (h : env.frame = env'.frame) : noteFrame e env = noteFrame e env' := by
  unfold noteFrame PySem.frameOf
  rw [h]
theorem funFrames_at {h h' B B' : Heap} : ∀ {l : List Env}, h.FunFrames B l → (∀ L ∈ frs l, ∀ o, h.get? L = some o → h'.get? L = some o) → (∀ L ∈ frs l, B.get? L = none → B'.get? L = none) → h'.FunFrames B' l
  | [], _, _, _ => trivial
  | env :: l, h, k, kb => by
    obtain ⟨hk, ⟨L, o, hf, hb, ho, hd⟩, hr⟩ := h
    have hm : L ∈ frs (env :: l) := List.mem_filterMap.mpr ⟨env, List.mem_cons_self, hf⟩
    have sub : ∀ b, b ∈ frs l → b ∈ frs (env :: l) := fun b hb => by
      obtain ⟨e, he, q⟩ := List.mem_filterMap.mp hb
      exact List.mem_filterMap.mpr ⟨e, List.mem_cons_of_mem _ he, q⟩
    exact ⟨hk, ⟨L, o, hf, kb L hm hb, k L hm o ho, hd⟩, funFrames_at hr (fun b hb => k b (sub b hb)) fun b hb => kb b (sub b hb)⟩
section
variable {X : Cx} {E : XK}
/-- the context of a block from whose element an exception may leave -/
abbrev blkE (X : Cx) (s : Shared) (H : Hp) (scope : Scope) (cenv : Env) (fp : List Addr) (xe : Value → Shared → Prop) : Cx := (X.blk s H scope cenv fp).tr [] xe
theorem leave_block {pins : List (Addr × Obj)} {σ : L2.St} {H3 : Hp} {s3 : Shared} {scope : Scope} {cl : List (Str × Addr)} {fp : List Addr} {xe : Value → Shared → Prop} {ce : Env} {Qf : Value → Shared → Prop} {acc : Value}
    (hst : X.stack = X.env :: X.outer) (hfr : X.env.frame = some X.env.locals) (tk : Takes X (WD E)) (I3 : Inv X pins σ H3 s3) (f3 : ∀ b ∈ fp, FpOk X pins H3 b ∧ b < s3.heap.objs.size) (hce : ce = compEnvC scope cl s3.heap.objs.size X.env)
    {pins' : List (Addr × Obj)} {σ' : L2.St} {H' : Hp} {s s' : Shared} {e : Value} (I' : Inv (blkE X s3 H3 scope ce fp xe) pins' σ' H' s) (c : L2.CX X.prog X.w X.stack H' s E e s') :
    notedBy (model X.prog X.w) X.A ce (fun e s' => cPost (model X.prog X.w) X.A X.xe X.env Qf acc s3.heap.objs.size (.error e) s') e s' := by
  have x : XE (blkE X s3 H3 scope ce fp xe) (WD E) e s' := XE.of_call (X := blkE X s3 H3 scope ce fp xe) (W := WD E) I' (fun cls d H' h => h) c
  obtain ⟨a, B, sI, pins2, σ2, H2, cls, d, rfl, I2, nb, up, sky, na, os, ag, w⟩ := x
  obtain ⟨a', B', H'', cls', d', ea, fl', _⟩ := c
  cases ea
  have hcf : ce.frame = X.env.frame := by rw [hce]; rfl
  have hcL : ce.locals = s3.heap.objs.size := by rw [hce]; rfl
  have hfrm : X.A.frames = some (X.env :: X.outer) := by rw [I3.ok.frames, hst]
  unfold notedBy
  rw [noteFrame_frame hcf]
  have hne : ∀ L ∈ frs X.stack, L ≠ s3.heap.objs.size := fun L hL z => by
    obtain ⟨_, o, e, _⟩ := I3.stack.mem hL
    have := Heap.lt_size e
    rw [z] at this
    exact Nat.lt_irrefl _ this
  have fin : ∀ h1, HandSPX.HeldZ B X.stack a (Zc cls d) X.env.locals h1 → s'.heap.UpToSlots h1 → cPost (model X.prog X.w) X.A X.xe X.env Qf acc s3.heap.objs.size (.error (.ref a)) { s' with heap := h1 } := by
    intro h1 hh up1
    obtain ⟨k1, k2, k3, k4⟩ := hh
    obtain ⟨m, hn, _⟩ := I2.loc
    have hn : sI.heap.Ns ce.locals m := hn
    rw [hcL] at hn
    obtain ⟨o, es, ep, ho, hd, sk, hm⟩ := hn
    have hoB := nb _ o ho (fun z => hne _ z rfl)
    refine ⟨m, ⟨o, es, ep, k1 _ o hoB, hd, sk, hm⟩, fun h' sb cenv hcenv => ?_⟩
    obtain ⟨oe, vs, T, oT, ts, he, hz, hd1, h1v, hnT, hTe, hT, hdT, h3⟩ := k4
    have aC : a ≠ s3.heap.objs.size := fun z => by rw [← z, k2] at hoB; cases hoB
    have TC : T ≠ s3.heap.objs.size := fun z => by rw [← z, hnT] at hoB; cases hoB
    have inB : ∀ b o, (PySem.W.hideAll B [s3.heap.objs.size]).get? b = some o → b ≠ s3.heap.objs.size ∧ B.get? b = some o := fun b o e =>
      ⟨fun z => (by rw [z, PySem.W.hideAll_none _ (by simp)] at e; cases e), PySem.W.of_hideAll _ e⟩
    have noB : ∀ b, B.get? b = none → (PySem.W.hideAll B [s3.heap.objs.size]).get? b = none := fun b hb => by
      cases q : (PySem.W.hideAll B [s3.heap.objs.size]).get? b with
      | none => rfl
      | some o => rw [(inB b o q).2] at hb; cases hb
    have st2 : (PySem.W.hideAll B [s3.heap.objs.size]).StaysIn h' := fun b o e => (sb.2 b (inB b o e).1).trans (k1 b o (inB b o e).2)
    have ff2 : h'.FunFrames (PySem.W.hideAll B [s3.heap.objs.size]) X.stack := funFrames_at k3 (fun L hL o e => (sb.2 L (hne L hL)).trans e) fun L hL e => noB L e
    have tr2 : HandSPX.TracedZ h' (PySem.W.hideAll B [s3.heap.objs.size]) a (Zc cls d) (rawInt X.env.locals) := ⟨oe, vs, T, oT, ts, (sb.2 a aC).trans he, hz, hd1, h1v, noB T hnT, hTe, (sb.2 T TC).trans hT, hdT, h3⟩
    unfold PySem.passOn
    refine wpAny_bind (wpAny_field (s := { s' with heap := h' }) ((sb.2 a aC).trans he) hd1 h1v ?_)
    rw [if_neg (show ¬ ((Value.ref T == Value.none) = true) from by simp), hcenv, hfr]
    refine wpAny_bind (HandSPX.setFlight_anyZ (s := { s' with heap := h' }) (fr := some X.env.locals) st2 ff2 tr2 fun h2 q1 q2 q3 q4 => wpAny_throw ?_)
    have nC : H2 s3.heap.objs.size = none := by
      have z : H2 ce.locals = none := I2.free
      rw [hcL] at z
      exact z
    have I7 : Inv X pins σ H2 sI := I3.call' (ch := fp) I2.os I2.base I2.hok I2.bare fun b hb => ⟨(f3 b hb).1.2.2.2.1, (f3 b hb).1.2.1, (f3 b hb).1.2.2.2.2.1, (f3 b hb).1.2.2.2.2.2⟩
    obtain ⟨g0, g1, g2, g3, g4, g5⟩ := I3.fpOk (Nat.le_refl _) nC
    refine tk _ _ ⟨a, PySem.W.hideAll B [s3.heap.objs.size], { sI with heap := PySem.W.hideAll sI.heap [s3.heap.objs.size] }, pins, σ, H2, cls, d, rfl, ?_, fun b o e hb => ?_, fun b o e hnf => ?_, .inr (.inr ⟨q1, noB a k2, q2, q3⟩), na, os, ag, w⟩
    · exact I7.turned (it := s3.heap.objs.size) (t' := sI.toks) (fun b o hb e => PySem.W.hideAll_get _ e (by simpa using hb)) g0 g1 g3 g4 g5
    · have nb2 : b ≠ s3.heap.objs.size := fun z => by rw [z, PySem.W.hideAll_none _ (by simp)] at e; cases e
      exact PySem.W.hideAll_get _ (nb b o (PySem.W.of_hideAll _ e) hb) (by simpa using nb2)
    · have nb2 : b ≠ s3.heap.objs.size := fun z => by rw [z, PySem.W.hideAll_none _ (by simp)] at e; cases e
      obtain ⟨sl1, e1⟩ := up b o (PySem.W.of_hideAll _ e) hnf
      obtain ⟨sl2, e2⟩ := up1 b _ e1 hnf
      obtain ⟨sl3, e3⟩ := q4 b { o with slots := sl2 } ((sb.2 b nb2).trans e2) hnf
      exact ⟨sl3, e3⟩
  have sky : Sky B X.stack a (Zc cls d) ce.locals s'.heap := sky
  rcases sky with ⟨hB, hn, hl, oe, vs, he, hz, hd, h1⟩ | fl | hh
  · rw [hst] at hl fin
    exact HandSPX.look_newZ Zc.steady hfrm hl hfr he hB hn hd h1 hz fin
  · rw [hst] at fl fin
    exact HandSPX.looks_onZ Zc.steady hfrm hfr fl fin
  · obtain ⟨_, _, _, oe, vs, T, oT, ts, he, _, hd1, h1v, _, _, hT, hdT, h3⟩ := hh
    obtain ⟨_, _, _, oe', vs', T', oT', ts', he', _, hd1', h1v', _, _, hT', hdT', h3'⟩ := fl'
    rw [he] at he'; cases he'
    rw [hd1] at hd1'; cases hd1'
    rw [h1v] at h1v'; cases h1v'
    rw [hT] at hT'; cases hT'
    rw [hdT] at hdT'; cases hdT'
    rw [h3] at h3'
    have := Option.some.inj h3'
    simp [rawInt] at this
/-- [elt for target in iter if ..], the element may let an exception out -/
theorem pe_lcX {elt tg iter : Expr} {ifs : List Expr} {scope : Scope} {own : List (Str × Nat)} {pos : Pos} {wi : TI} {g : TG} {tt : TT} {te : TE} (hst : X.stack = X.env :: X.outer) (hfr : X.env.frame = some X.env.locals) (tk : Takes X (WD E)) (hc : X.calm = true) (hN : X.N.Nodup) (hi : PI X tg iter wi) (ok : BlkOk X.N X.env.scope scope own)
    (hg : ∀ (s : Shared) (H : Hp) (C : Addr) (cl : List (Str × Addr)) (fp : List Addr) (xe : Value → Shared → Prop), PG (blkE X s H scope (compEnvC scope cl C X.env) fp xe) tg g) (ht : ∀ (s : Shared) (H : Hp) (C : Addr) (cl : List (Str × Addr)) (fp : List Addr) (xe : Value → Shared → Prop), PTs (blkE X s H scope (compEnvC scope cl C X.env) fp xe) ifs tt)
    (he : ∀ (s : Shared) (H : Hp) (C : Addr) (cl : List (Str × Addr)) (fp : List Addr) (xe : Value → Shared → Prop), Pss (blkE X s H scope (compEnvC scope cl C X.env) fp xe) E → PE (blkE X s H scope (compEnvC scope cl C X.env) fp xe) elt te) (hs : ∀ x, foldedSetIterable iter X.env x = pure x := by intro _; rfl) :
    PE X (.ListComp elt [⟨tg, iter, ifs, 0⟩] scope pos) (tLc wi g tt te (own.map (·.2))) := by
  refine ⟨fun pins s σ H Q I h => ?_⟩
  rw [eval_ListComp]
  have hfree : ∀ y ∈ scope.names, y.2 = .free → ∃ c, X.env.cells.lookup y.1 = some c := fun y hy e => by
    rcases ok.free y hy e with k | k
    · exact I.ok.has _ (.inl k)
    · exact I.ok.has _ (.inr k)
  refine comp_freeX rfl hs (closure_ok hfree) ok.kind (fun y hy e => by rw [ok.uniq y hy, e])
    (thn (hi.run pins s σ H _ I h) fun xv s1 hx => thn hx fun itv s2 h2 => ?_)
  obtain ⟨it, fp, tn, J, H2, e, I2, T, st2, f2, q⟩ := h2
  subst e
  refine wpAny_newObj_type (newEnv_comp ⟨rfl, ?_⟩) (by show 0 ≤ sizeLine; decide)
  generalize hD : s2.heap.objs.size = D
  have hDn : H2 D = none := I2.hok.fresh (Nat.le_of_eq hD)
  obtain ⟨W, ⟨m0, w0⟩, turn⟩ := q D hDn
  generalize hs3 : ({ s2 with heap := s2.heap.push { cls := .type "list", data := .seq ([] : List Value).toArray } } : Shared) = s3
  have I3 : Inv X pins σ (upd H2 D (.lst [])) s3 := by
    rw [← hs3]
    refine I2.laid (t' := s2.toks) (fun b o e => Heap.get?_push_of_some _ e) (Nat.le_of_eq hD) ⟨Nat.zero_le _, [], 0, .nil, ?_⟩
    rw [← hD]
    exact Heap.get?_push_size _ rfl
  have h3 : s3.heap = s2.heap.push { cls := .type "list", data := .seq ([] : List Value).toArray } := by rw [← hs3]
  have sz : ∀ b ∈ fp, b < s2.heap.objs.size := fun b hb => by
    obtain ⟨o, e, _⟩ := T.obj _ _ st2 b hb
    exact Heap.lt_size e
  have f3 : ∀ b ∈ fp, FpOk X pins (upd H2 D (.lst [])) b ∧ b < s3.heap.objs.size := fun b hb => by
    have hlt := sz b hb
    refine ⟨⟨?_, (f2 b hb).2⟩, by rw [h3, Heap.size_push]; exact Nat.lt_succ_of_lt hlt⟩
    rw [upd_ne (by rw [← hD]; exact Nat.ne_of_lt hlt)]
    exact (f2 b hb).1
  have st3 : tn 0 s3.heap := T.keep _ _ _ st2 fun b _ o e => by rw [h3]; exact Heap.get?_push_of_some _ e
  have I4 := block_start I3 ok hN f3
  obtain ⟨cl, hcl⟩ : ∃ cl, cl = cellsFrom (s3.heap.objs.size + 1) scope.names (cloFrom X.env.cells scope.names []) := ⟨_, rfl⟩
  rw [← hcl] at I4
  obtain ⟨ce, hce⟩ : ∃ ce, ce = compEnvC scope cl s3.heap.objs.size X.env := ⟨_, rfl⟩
  show codeAny (model X.prog X.w) X.A (.compStart (.ListComp elt [⟨tg, iter, ifs, 0⟩] scope pos) 0 (.ref it) (.ref D) (compEnvC scope (cellsFrom (s3.heap.objs.size + 1) scope.names (cloFrom X.env.cells scope.names [])) s3.heap.objs.size X.env)) (cPost (model X.prog X.w) X.A X.xe X.env (EP X pins σ Q) (.ref D) s3.heap.objs.size) { s3 with heap := pushCells (s3.heap.push { cls := .type "dict", data := .dict #[] }) scope.names }
  rw [← hcl, ← hce]
  have cL : ce.locals = s3.heap.objs.size := by rw [hce]; rfl
  obtain ⟨XB, hXB⟩ : ∃ XB : Value → Shared → Prop, XB = notedBy (model X.prog X.w) X.A ce (fun e s' => cPost (model X.prog X.w) X.A X.xe X.env (EP X pins σ Q) (.ref D) s3.heap.objs.size (.error e) s') := ⟨_, rfl⟩
  have px : Pss (blkE X s3 (upd H2 D (.lst [])) scope ce fp XB) E := fun pins' σ' H' s e s' I' c => by
    show XB e s'
    rw [hXB]
    exact leave_block hst hfr tk I3 f3 hce I' c
  have pg := hg s3 (upd H2 D (.lst [])) s3.heap.objs.size cl fp XB
  have pt := ht s3 (upd H2 D (.lst [])) s3.heap.objs.size cl fp XB
  have pe := he s3 (upd H2 D (.lst [])) s3.heap.objs.size cl fp XB
  rw [← hce] at I4 pg pt pe
  have pe := pe px
  have nfp : ∀ b ∈ fp, (upd H2 D (.lst [])) b = none := fun b hb => (f3 b hb).1.1
  have I4 : Inv (blkE X s3 (upd H2 D (.lst [])) scope ce fp XB) [] _ _ _ := I4.toTry XB
  generalize hH3 : upd H2 D (.lst []) = H3 at I3 I4 pg pt pe w0 nfp f3
  generalize hs4 : ({ s3 with heap := pushCells (s3.heap.push { cls := .type "dict", data := .dict #[] }) scope.names } : Shared) = s4 at I4 ⊢
  have st4 : tn 0 s4.heap := T.keep _ _ _ st3 fun b _ o e => by rw [← hs4]; exact pushCells_keeps _ _ _ _ (Heap.get?_push_of_some _ e)
  have stat : ∀ {σ' : L2.St} {H' : Hp} {s' : Shared}, Inv (blkE X s3 H3 scope ce fp XB) [] σ' H' s' → (∀ b ∈ fp, H' b = none) → ∀ b ∈ fp, FpOk (blkE X s3 H3 scope ce fp XB) [] H' b := fun {σ' H' s'} I' hn b hb =>
    ⟨hn b hb, (I'.ok.exf b hb).1, I'.ok.exfs b hb, .inl hb, fun x c e => (I'.ok.exf b hb).2 x c e, fun p hp => absurd (show p ∈ ([] : List (Addr × Obj)) ++ [] from hp) (by simp)⟩
  have xin : ∀ {α : Type} {t : Sem α} {Q1 Q2 : α → Shared → Prop} {s0 : Shared}, wpAny (model X.prog X.w) X.A t Q1 XB s0 → (∀ a s, Q1 a s → Q2 a s) → wpAny (model X.prog X.w) X.A t Q2 (notedBy (model X.prog X.w) X.A ce (fun e s' => cPost (model X.prog X.w) X.A X.xe X.env (EP X pins σ Q) (.ref D) s3.heap.objs.size (.error e) s')) s0 := fun h k => wpAny_mono h k fun _ _ z => by rw [hXB] at z; exact z
  have loop : codeAny (model X.prog X.w) X.A (.compLoop (.ListComp elt [⟨tg, iter, ifs, 0⟩] scope pos) 0 (.ref it) (.ref D) ce) (cPost (model X.prog X.w) X.A X.xe X.env (EP X pins σ Q) (.ref D) s3.heap.objs.size) s4 := by
    refine compLoop_any (fun n s' => ∃ i H', Inv (blkE X s3 H3 scope ce fp XB) [] (wipe σ (own.map (·.2))) H' s' ∧ tn i s'.heap ∧ (∀ b ∈ fp, H' b = none) ∧ W i n H') ?_ m0 ⟨0, H3, I4, st4, nfp, w0⟩
    rintro n s5 ⟨i, H5, I5, st5, n5, w5⟩
    rcases turn i n H5 w5 with ⟨stop, qq⟩ | ⟨go, Nx, hNx, step⟩
    · have td := T.done (blkE X s3 H3 scope ce fp XB) rfl rfl rfl hc i [] s5 _ H5 (fun _ _ => False) I5 (stat I5 n5) st5 stop
      refine thnF td fun r s6 ⟨hr, I6⟩ => ?_
      subst hr
      have I7 : Inv X pins σ H5 s6 := I3.call' (ch := fp) I6.os I6.base I6.hok I6.bare fun b hb => ⟨(f3 b hb).1.2.2.2.1, (f3 b hb).1.2.1, (f3 b hb).1.2.2.2.2.1, (f3 b hb).1.2.2.2.2.2⟩
      have nC : H5 s3.heap.objs.size = none := by
        have z : H5 ce.locals = none := I6.free
        rw [cL] at z
        exact z
      obtain ⟨m, hn, _⟩ := I6.loc
      have hn : s6.heap.Ns ce.locals m := hn
      rw [cL] at hn
      obtain ⟨f0, f1, f2, f3', f4, f5⟩ := I3.fpOk (Nat.le_refl _) nC
      exact ⟨m, hn, fun h'' sb => ⟨.ref D, H5, I7.turned (t' := s6.toks) (fun b o hb e => (sb.2 b hb).trans e) f0 f1 f3' f4 f5, rfl, qq⟩⟩
    · have ti := T.item (blkE X s3 H3 scope ce fp XB) rfl rfl rfl hc i [] s5 _ H5 (fun _ _ => False) I5 (stat I5 n5) st5 go
      refine thnF ti fun r s6 ⟨u, hr, h6⟩ => ?_
      subst hr
      refine thnF h6 fun _ s7 ⟨x, H7, I7, r7, y7, st7, n7⟩ => ?_
      have I7' := I7.pinned (stat I7 n7) (T.obj _ _ st7)
      refine xin (pg.run _ s7 _ H7 x u _ I7' r7 (step x H7 y7)) fun _ s8 ⟨σ8, H8, I8, hw8, q8⟩ => ?_
      refine xin (pt.run _ s8 σ8 H8 _ I8 q8) fun b s9 ⟨H9, I9, q9⟩ => ?_
      have fin : ∀ {s' : Shared} {H' : Hp}, Inv (blkE X s3 H3 scope ce fp XB) ([] ++ pinsAt fp s7.heap) σ8 H' s' → Nx H' → ∃ m, m < n ∧ ∃ i H', Inv (blkE X s3 H3 scope ce fp XB) [] (wipe σ (own.map (·.2))) H' s' ∧ tn i s'.heap ∧ (∀ b ∈ fp, H' b = none) ∧ W i m H' := fun {s' H'} I' nx => by
        obtain ⟨m', hm, w'⟩ := hNx H' nx
        have pin' : ∀ b ∈ fp, ∀ o, s7.heap.get? b = some o → s'.heap.get? b = some o ∧ H' b = none := fun b hb o e =>
          let z := I'.pin (b, o) (List.mem_append_right _ (List.mem_append_right _ (mem_pinsAt hb e)))
          ⟨z.1, z.2.1⟩
        have hl : (wipe σ (own.map (·.2))).length = σ8.length := by rw [← hw8, wipe_length]
        refine ⟨m', hm, i + 1, H', (I'.unpinned (pins := [])).weak hl (fun j v e => ?_), T.keep _ _ _ st7 fun b hb o e => (pin' b hb o e).1, fun b hb => ?_, w'⟩
        · rw [← hw8] at e
          exact (wipe_some e).1
        · obtain ⟨o, e, _⟩ := T.obj _ _ st7 b hb
          exact (pin' b hb o e).2
      cases b with
      | false =>
        simp only [Bool.false_eq_true, if_false] at q9 ⊢
        exact fin I9 q9
      | true =>
        simp only [if_true] at q9 ⊢
        refine xin (pe.run _ s9 σ8 H9 _ I9 q9) fun z s10 ⟨yv, H10, I10, r10, acc, hD10, hz10, nx⟩ => ?_
        exact app_ok (X := blkE X s3 H3 scope ce fp XB) I10 hD10 hz10 r10 fun s11 I11 => fin I11 nx
  exact codeAny_compStart_list loop (T.self X.A 0 _ _ _ st4 loop)
theorem pe_lcLX {elt tg iter : Expr} {ifs : List Expr} {scope : Scope} {own : List (Str × Nat)} {pos : Pos} {g : TG} {tt : TT} {te tl : TE} (hst : X.stack = X.env :: X.outer) (hfr : X.env.frame = some X.env.locals) (tk : Takes X (WD E)) (hc : X.calm = true) (hN : X.N.Nodup) (hl : PE X iter tl) (ok : BlkOk X.N X.env.scope scope own)
    (hg : ∀ (s : Shared) (H : Hp) (C : Addr) (cl : List (Str × Addr)) (fp : List Addr) (xe : Value → Shared → Prop), PG (blkE X s H scope (compEnvC scope cl C X.env) fp xe) tg g) (ht : ∀ (s : Shared) (H : Hp) (C : Addr) (cl : List (Str × Addr)) (fp : List Addr) (xe : Value → Shared → Prop), PTs (blkE X s H scope (compEnvC scope cl C X.env) fp xe) ifs tt)
    (he : ∀ (s : Shared) (H : Hp) (C : Addr) (cl : List (Str × Addr)) (fp : List Addr) (xe : Value → Shared → Prop), Pss (blkE X s H scope (compEnvC scope cl C X.env) fp xe) E → PE (blkE X s H scope (compEnvC scope cl C X.env) fp xe) elt te) (hs : ∀ x, foldedSetIterable iter X.env x = pure x := by intro _; rfl) :
    PE X (.ListComp elt [⟨tg, iter, ifs, 0⟩] scope pos) (fLcL tl g tt te (own.map (·.2))) :=
  PE_imp (pe_lcX (E := E) hst hfr tk hc hN (pi_list (PE_mo hl)) ok (fun a b c d e f => PG_mo (hg a b c d e f)) (fun a b c d e f => PTs_mo (ht a b c d e f)) (fun a b c d e f px => PE_mo (he a b c d e f px)) hs) fun _ _ _ h => lcL_up h
/-- str(e) of a number or of a text; int(e) of a text -/
def gStrA : List V → Hp → VK → Prop := fun xs H Q => (∃ i : Int, xs = [.int i] ∧ i.natAbs.log2 < 1920 ∧ Q (.str (toString i)) H) ∨ ∃ a : Str, xs = [.str a] ∧ Q (.str a) H
theorem strA : CallR X (.type "str") gStrA := by
  intro pins s σ H xs us Q I r h
  rcases h with h | h
  · exact call_str_int pins s σ H xs us Q I r h
  · exact SkE.call_str_str pins s σ H xs us Q I r h
def gIntS : List V → Hp → VK → Prop := fun xs H Q => ∃ (a : Str) (n : Int), xs = [.str a] ∧ PySem.intText? a = some n ∧ a.length ≤ 640 ∧ Q (.int n) H
theorem intS : CallR X (.type "int") gIntS := call_int_str
end
end TA

set_option linter.all false
set_option maxRecDepth 100000
set_option maxHeartbeats 4000000
/-! Dicts with texts as keys. -/
namespace TA
open PySem PySem.Spec L2 PyProof.Rows
abbrev inrK (p : Str × V) : L2.Key × V := ((Sum.inr p.1 : L2.Key), p.2)
def dS (kvs : List (Str × V)) : HO := .dK (kvs.map inrK)
def lkS (kvs : List (Str × V)) (k : Str) : Option V := (kvs.find? fun p => decide (p.1 = k)).map (·.2)
def putS' (k : Str) (v : V) (kvs : List (Str × V)) : List (Str × V) := kvs.map fun p => if p.1 = k then (p.1, v) else p
theorem inrK_inj : ∀ {a b : List (Str × V)}, a.map inrK = b.map inrK → a = b
  | [], [], _ => rfl
  | [], _ :: _, h => by cases h
  | _ :: _, [], h => by cases h
  | (x, v) :: a, (y, w) :: b, h => by
    injection h with h1 h2
    cases h1
    rw [inrK_inj h2]
theorem dS_eq {a b : List (Str × V)} : (dS a = dS b) = (a = b) := by
  refine propext ⟨fun h => ?_, fun h => by rw [h]⟩
  unfold dS at h
  exact inrK_inj (HO.dK.inj h)
theorem val_S (k : Str) : ∀ kvs : List (Str × V), valV (kvs.map inrK) (Sum.inr k) = lkS kvs k
  | [] => rfl
  | p :: r => by
    have ih := val_S k r
    unfold lkS at *
    by_cases h : p.1 = k
    · rw [List.map_cons, valV_pos (by show (Sum.inr p.1 : L2.Key) = _; rw [h]), List.find?_cons_of_pos (by simpa using h)]; rfl
    · rw [List.map_cons, valV_neg (by simpa using h), List.find?_cons_of_neg (by simpa using h)]; exact ih
theorem put_S {k : Str} {v : V} {kvs : List (Str × V)} (h : (lkS kvs k).isSome = true) : L2.putK (kvs.map inrK) (Sum.inr k) v = (putS' k v kvs).map inrK := by
  unfold L2.putK
  rw [if_pos (by rw [valV_any, val_S]; exact h)]
  unfold putS'
  rw [List.map_map, List.map_map]
  refine List.map_congr_left fun p _ => ?_
  by_cases e : p.1 = k <;> simp [e]
/-- d["k"] -/
def fGetS (td : TE) (k : Str) : TE := fun σ H Q => td σ H fun x H1 => ∃ d kvs v, x = .ref d ∧ H1 d = some (dS kvs) ∧ lkS kvs k = some v ∧ Q v H1
/-- d["k"] = v, the key there -/
def fPutS (td : TE) (k : Str) (tv : TE) : TS := fun D σ H => tv σ H fun v H1 => td σ H1 fun x H2 => ∃ d kvs, x = .ref d ∧ H2 d = some (dS kvs) ∧ (lkS kvs k).isSome = true ∧ kvs.length < 1000 ∧ D.nx σ (upd H2 d (dS (putS' k v kvs)))
/-- {"k": v, ..} -/
def fDispS (ks : List Str) (ta : TA) : TE := fun σ H Q => ∀ p, H p = none → ta σ (upd H p (dS [])) fun vs H2 => H2 p = some (dS []) ∧ vs.length = ks.length ∧ Q (.ref p) (upd H2 p (dS (ks.zip vs)))
/-- d.update(e), other keys -/
def gUpdS : V → List V → Hp → VK → Prop := fun x xs H Q => ∃ a b kvs more, x = .ref a ∧ xs = [.ref b] ∧ H a = some (dS kvs) ∧ H b = some (dS more) ∧ a ≠ b ∧ ((kvs ++ more).map Prod.fst).Nodup ∧ (kvs ++ more).length < 1000 ∧ Q .non (upd H a (dS (kvs ++ more)))
theorem lk_none {kvs : List (Str × V)} {k : Str} (h : k ∉ kvs.map Prod.fst) : lkS kvs k = none := by
  unfold lkS
  rw [Option.map_eq_none_iff, List.find?_eq_none]
  intro p hp q
  exact h (List.mem_map.mpr ⟨p, hp, of_decide_eq_true q⟩)
theorem merge_S : ∀ {more kvs : List (Str × V)}, ((kvs ++ more).map Prod.fst).Nodup → L2.mergeK (kvs.map inrK) (more.map inrK) = (kvs ++ more).map inrK
  | [], kvs, _ => by rw [List.append_nil]; rfl
  | p :: r, kvs, h => by
    have e : kvs ++ p :: r = (kvs ++ [p]) ++ r := by simp
    rw [e] at h
    have ih := merge_S (more := r) (kvs := kvs ++ [p]) h
    show L2.mergeK (L2.putK (kvs.map inrK) (Sum.inr p.1) p.2) (r.map inrK) = _
    have hn : p.1 ∉ kvs.map Prod.fst := fun hm => by
      rw [List.map_append, List.map_append] at h
      have h2 := (List.nodup_append.mp h).1
      exact (List.nodup_append.mp h2).2.2 _ hm _ (by simp) rfl
    rw [putK_new p.2 (by rw [val_S]; exact lk_none hn), e, ← ih, List.map_append]; rfl
section
variable {X : Cx} {o value : Expr} {td tv : TE} {pos pos' kp : Pos} {k : Str} {n : Nat}
theorem pe_getS (hu : X.A.units + 64 < cLine) (ho : PE X o td) : PE X (.Subscript o (.Constant (.str k) n kp) pos) (fGetS td k) :=
  PE_imp (pe_dget (by omega) (PE_mo ho) (PE_mo pe_str) (fun _ _ => rfl)) fun σ H Q h => ⟨_, h, fun x H1 ⟨d, kvs, v, e1, e2, e3, q⟩ => ⟨fun y H2 => y = .str k ∧ H2 = H1, ⟨rfl, rfl⟩, fun y H2 e => by
    obtain ⟨rfl, rfl⟩ := e
    exact ⟨d, v, e1, .inl ⟨_, Sum.inr k, .inl e2, rfl, by rw [val_S, e3]⟩, q⟩⟩⟩
theorem ps_putS (hu : X.A.units + 64 < cLine) (ho : PE X o td) (hv : PE X value tv) (hs : swapsWith value (some (.Subscript o (.Constant (.str k) n kp) pos')) pos.line X.env = pure false) : PS X (.Assign [.Subscript o (.Constant (.str k) n kp) pos'] value pos) (fPutS td k tv) :=
  PS_imp (ps_dput (by omega) (PE_mo ho) (PE_mo pe_str) (PE_mo hv) hs) fun D σ H h => ⟨_, h, fun v H1 h1 => ⟨_, h1, fun x H2 ⟨d, kvs, e1, e2, e3, e4, q⟩ => ⟨fun y H3 => y = .str k ∧ H3 = H2, ⟨rfl, rfl⟩, fun y H3 e => by
    obtain ⟨rfl, rfl⟩ := e
    refine ⟨d, _, e1, .inl ⟨_, Sum.inr k, e2, rfl, by rw [List.length_map]; have := line_big; omega, rfl⟩, ?_⟩
    rw [put_S e3]; exact q⟩⟩⟩
theorem mtUpdS : MtR X "dict.update" gUpdS := by
  intro pins s σ H x xs v us Q I rx rxs h
  obtain ⟨a, b, kvs, more, rfl, rfl, ha, hb, ne, nd, hl, q⟩ := h
  cases rx
  obtain ⟨u, rfl, ru⟩ := rxs.one
  cases ru
  obtain ⟨z, hd, vs, rel, dd⟩ := dk_of I.hok ha
  obtain ⟨z2, hd2, vs2, rel2, dd2⟩ := dk_of I.hok hb
  have hlen : (kvs.map inrK).length + (more.map inrK).length ≤ sizeLine := by
    have := line_big
    rw [List.length_append] at hl
    rw [List.length_map, List.length_map]; omega
  refine call_meetsIn PySem.F.slot_dict_update dd.typeIs PySem.F.entry_dict_update (PySem.F.args_dict_update_2 _ _) (meets_dict_update (mixKind X.prog X.w) a b ne hd2)
    ⟨vs, vs2, dd, dd2, by rw [← rel.length, ← rel2.length]; exact hlen, fun h' hm _ hs => ?_⟩
  have he : ∃ q, h'.get? a = some q := let ⟨q, _, _, hq, _⟩ := hm; ⟨q, hq⟩
  refine ⟨.non, upd H a (dS (kvs ++ more)), d_write (t' := s.toks) I (by rw [ha]; exact True.intro) hs he ?_, rfl, q⟩
  have hm2 := KV.merge rel2 rel
  rw [merge_S nd] at hm2
  exact dk_new (by rw [List.length_map]; have := line_big; omega) hd hm2 hm
def taOf : List TE → TA
  | [] => tNil
  | t :: r => tCons t (taOf r)
def trsOf : List Str → List TE → List (TE × TE)
  | k :: ks, t :: ts => (tC (.str k), mo t) :: trsOf ks ts
  | _, _ => []
theorem pairs_up {σ : L2.St} : ∀ {ks : List Str} {ts : List TE} {H : Hp} {Q : List V → Hp → Prop} {G : List (V × V) → Hp → Prop}, ks.length = ts.length → taOf ts σ H Q → (∀ vs H2, vs.length = ks.length → Q vs H2 → G ((ks.zip vs).map fun p => (V.str p.1, p.2)) H2) → tPairs (trsOf ks ts) σ H G
  | [], [], H, Q, G, _, h, g => g [] H rfl h
  | [], _ :: _, _, _, _, e, _, _ => by cases e
  | _ :: _, [], _, _, _, e, _, _ => by cases e
  | k :: ks, t :: ts, H, Q, G, e, h, g => by
    refine ⟨_, h, fun v H1 h1 => ?_⟩
    exact pairs_up (ks := ks) (ts := ts) (by simpa using e) h1 fun vs H2 hl hq => g (v :: vs) H2 (by simp [hl]) hq
theorem pe_dispS {ks : List Str} {ts : List TE} {keys : List (Option Expr)} {values : List Expr} (h : PPs X pos keys values (trsOf ks ts)) (hall : keys.all (·.isSome) = true) (hl : keys.length = values.length) (h0 : keys ≠ []) (h15 : keys.length ≤ 15) (hk : ks.length = ts.length) (h15' : ks.length ≤ 15) (nd : ks.Nodup) :
    PE X (.Dict keys values pos) (fDispS ks (taOf ts)) :=
  PE_imp (pe_disp h hall hl h0 h15) fun σ H Q q p hp => pairs_up hk (q p hp) fun vs H2 hv ⟨e1, e2, q2⟩ => by
    refine ⟨e1, (ks.zip vs).map inrK, ?_, ?_, ?_⟩
    · rw [List.map_map]; rfl
    · rw [List.length_map, List.length_zip]; omega
    · have ez : ((ks.zip vs).map Prod.fst) = ks := by rw [List.map_fst_zip]; omega
      have := merge_S (kvs := []) (more := ks.zip vs) (by rw [List.nil_append, ez]; exact nd)
      rw [List.nil_append] at this
      have t2 : L2.mergeK [] ((ks.zip vs).map inrK) = (ks.zip vs).map inrK := this
      rw [t2]
      exact q2
end
/-! ### a dict by its names -/
theorem lkS_zip {ns : List Str} {vs : List V} {k : Str} {v : V} : ∀ (i : Nat), ns.Nodup → ns[i]? = some k → vs[i]? = some v → lkS (ns.zip vs) k = some v := by
  induction ns generalizing vs with
  | nil => intro i _ h; simp at h
  | cons n ns ih =>
    intro i nd h1 h2
    rw [List.nodup_cons] at nd
    cases vs with
    | nil => simp at h2
    | cons u vs =>
      cases i with
      | zero =>
        simp only [List.getElem?_cons_zero, Option.some.injEq] at h1 h2
        subst h1 h2
        unfold lkS
        rw [List.zip_cons_cons, List.find?_cons_of_pos (by simp)]; rfl
      | succ i =>
        simp only [List.getElem?_cons_succ] at h1 h2
        have hne : ¬ n = k := fun e => nd.1 (by rw [e]; exact List.mem_of_getElem? h1)
        have := ih i nd.2 h1 h2
        unfold lkS at *
        rw [List.zip_cons_cons, List.find?_cons_of_neg (by simpa using hne)]; exact this
theorem putS_zip {ns : List Str} {vs : List V} {k : Str} {v : V} : ∀ (i : Nat), ns.Nodup → ns[i]? = some k → putS' k v (ns.zip vs) = ns.zip (vs.set i v) := by
  induction ns generalizing vs with
  | nil => intro i _ h; simp at h
  | cons n ns ih =>
    intro i nd h1
    rw [List.nodup_cons] at nd
    cases vs with
    | nil => rfl
    | cons u vs =>
      cases i with
      | zero =>
        simp only [List.getElem?_cons_zero, Option.some.injEq] at h1
        subst h1
        rw [List.set_cons_zero, List.zip_cons_cons, List.zip_cons_cons]
        unfold putS'
        rw [List.map_cons, if_pos rfl]
        congr 1
        have : ∀ p ∈ ns.zip vs, ¬ p.1 = n := fun p hp e => nd.1 (by rw [← e]; exact (List.of_mem_zip hp).1)
        rw [List.map_congr_left (g := id) fun p hp => by rw [if_neg (this p hp)]; rfl]
        exact List.map_id _
      | succ i =>
        simp only [List.getElem?_cons_succ] at h1
        have hne : ¬ n = k := fun e => nd.1 (by rw [e]; exact List.mem_of_getElem? h1)
        have := ih (vs := vs) i nd.2 h1
        rw [List.set_cons_succ, List.zip_cons_cons, List.zip_cons_cons]
        unfold putS' at *
        rw [List.map_cons, if_neg hne, this]
end TA

set_option linter.all false
set_option maxRecDepth 100000
set_option maxHeartbeats 4000000
/-! What is never reached; list() of a list or a tuple. -/
namespace TA
open PySem PySem.Spec L2 PyProof.Rows
/-- a block that is never reached -/
def tNever : TS := fun _ _ _ => False
theorem pss_never {X : Cx} {b : List Stmt} : PSs X b tNever := ⟨fun _ _ _ _ _ _ h => False.elim h⟩
def gListA : List V → Hp → VK → Prop := fun xs H Q => ∃ p ys, xs = [.ref p] ∧ (H p = some (.lst ys) ∨ H p = some (.tup ys)) ∧ ∀ l, H l = none → Q (.ref l) (upd H l (.lst ys))
theorem listA {X : Cx} : CallR X (.type "list") gListA := CallR_imp call_list_of fun _ _ _ ⟨p, ys, a, b, c⟩ => ⟨p, ys, a, b.elim (fun b => .inl (SqL.of b)) fun b => .inr (SqT.of b), c⟩
end TA

set_option linter.all false
set_option maxRecDepth 100000
set_option maxHeartbeats 1000000
/-! The draws of a law: what they promise. -/
namespace TA
open PySem L2
local macro_rules | `(tactic| simp! [$as,*]) => `(tactic| first | simp only [L2.start, tSeq, tAsg, tOp, fFld, tVar, gIxL, gIxT, tCB, tCons, tNil, gLenL, gLenT, gLenS, rI, rI0, fSet, tIfS, tTest, tB, rNotN, rIsN, rEq, rNe, tC, tDrop, fBM, fBM0, gTy, rAppend, tTup, tLst, tRet, tRetN, tNext, gName, fTup, gCons, gNil, tCall, fCallS, fMeth, tMeth, fMethS, fMake, tMake, fMakeS, tUn, rU, tAnd, tOr, tNot, tAndV, tOrV, tNotV, tIf, tChain, gListL, gListT, tSl, tNoPart, tPart, gSlL, fRaise, gStrI, gCatS, gMin2, gMax2, gIntB, tYes, fLcL, fLcT, fLcS, fLcR1, fForL, fForR1, fForR2, fRev, fGetI, gGetI, gInI, gLenI, fPutI, fNewI,
  List.map_cons, List.map_nil, List.length_cons, List.length_nil, List.replicate, List.cons_append, List.nil_append, List.append_nil, List.getElem?_cons_zero, List.getElem?_cons_succ, List.set_cons_zero, List.set_cons_succ, reduceIte, Bool.not_true, Bool.not_false, Nat.reduceAdd, Nat.reduceSub, Bool.false_eq_true, eq_self,
  Option.some.injEq, V.int.injEq, V.ref.injEq, V.str.injEq, V.bl.injEq, HO.ins.injEq, HO.lst.injEq, HO.tup.injEq, HO.dK.injEq, List.cons.injEq, and_assoc, exists_eq_left', exists_and_left, and_true, true_and, true_or, or_true, false_or, or_false, exists_eq_left, exists_eq_right, exists_eq_right', exists_eq, exists_eq', exists_const, upd_same, sc_ii, sc_ss, sc_bb, sc_in, sc_ni, sc_ns, sc_sn, sc_nn, $as,*] | skip)
/-- the script stands, told by what does not change -/
def Scr (K : PySem.W.Frag) (I : Hp) (a : Addr) : Prop := ∃ ns : List Int, SqL K I a (ns.map V.int)
theorem sqL_sub {K : PySem.W.Frag} {I H : Hp} {a : Addr} {xs : List V} (s : Sub I H) (h : SqL K I a xs) : SqL K H a xs := Same.seq s h
theorem Scr.mono {K : PySem.W.Frag} {I J : Hp} {a : Addr} (s : Sub I J) (h : Scr K I a) : Scr K J a := let ⟨ns, h⟩ := h; ⟨ns, sqL_sub s h⟩
/-- the script at a, the town at t with at most n items, the rest M -/
structure Dr (K : PySem.W.Frag) (I H : Hp) (a t : Addr) (n : Nat) (M : List (Addr × HO)) : Prop where
  scr : Scr K I a
  w : ∃ zs : List V, zs.length ≤ n ∧ W I H ((t, .lst zs) :: M)
section
variable {K : PySem.W.Frag} {I I' H H' : Hp} {a t p : Addr} {n m : Nat} {M M' : List (Addr × HO)} {o o' : HO}
theorem Dr.le (d : Dr K I H a t n M) (h : n ≤ m) : Dr K I H a t m M := let ⟨s, zs, l, w⟩ := d; ⟨s, zs, Nat.le_trans l h, w⟩
theorem Dr.newM (d : Dr K I H a t n M) (h : H p = none) : Dr K I (upd H p o) a t n ((p, o) :: M) := let ⟨s, zs, l, w⟩ := d; ⟨s, zs, l, (w.newM h).swap⟩
theorem Dr.newI (d : Dr K I H a t n M) (h : H p = none) : Dr K (upd I p o) (upd H p o) a t n M := let ⟨s, zs, l, w⟩ := d; ⟨s.mono (Sub.new (w.noI h)), zs, l, w.newI h⟩
theorem Dr.skip (d : Dr K I H a t n M) (h : H p = none) : Dr K I (upd H p o) a t n M := let ⟨s, zs, l, w⟩ := d; ⟨s, zs, l, w.skip h⟩
theorem Dr.drop (d : Dr K I H a t n ((p, o) :: M)) : Dr K I H a t n M := let ⟨s, zs, l, w⟩ := d; ⟨s, zs, l, w.swap.drop⟩
theorem Dr.put (d : Dr K I H a t n ((p, o) :: M)) : Dr K I (upd H p o') a t n ((p, o') :: M) := let ⟨s, zs, l, w⟩ := d; ⟨s, zs, l, w.swap.put.swap⟩
theorem Dr.freeze (d : Dr K I H a t n ((p, o) :: M)) : Dr K (upd I p o) H a t n M := let ⟨s, zs, l, w⟩ := d; ⟨s.mono (Sub.new (w.out (p, o) (by simp))), zs, l, w.swap.freeze⟩
theorem Dr.perm (d : Dr K I H a t n M) (e : M'.Perm M) : Dr K I H a t n M' := let ⟨s, zs, l, w⟩ := d; ⟨s, zs, l, w.perm (e.cons _)⟩
theorem Dr.same (d : Dr K I H a t n M) (e : Same H H') : Dr K I H' a t n M := let ⟨s, zs, l, w⟩ := d; ⟨s, zs, l, w.same e⟩
theorem Dr.has (d : Dr K I H a t n M) : Has H M := let ⟨s, zs, l, w⟩ := d; w.has.2
theorem Dr.sub (d : Dr K I H a t n M) : Sub I H := let ⟨s, zs, l, w⟩ := d; w.sub
theorem Dr.noI (d : Dr K I H a t n M) (h : H p = none) : I p = none := let ⟨s, zs, l, w⟩ := d; w.noI h
theorem Dr.out (d : Dr K I H a t n M) : ∀ p ∈ M, I p.1 = none := let ⟨s, zs, l, w⟩ := d; fun p h => w.out p (List.mem_cons_of_mem _ h)
/-- the town among what may change -/
theorem Dr.of {zs : List V} (s : Scr K I a) (l : zs.length ≤ n) (w : W I H ((t, .lst zs) :: M)) : Dr K I H a t n M := ⟨s, zs, l, w⟩
/-- by a rule for what may change -/
theorem Dr.w2 (d : Dr K I H a t n M) (f : ∀ zs : List V, W I H ((t, .lst zs) :: M) → W I' H' ((t, .lst zs) :: M')) (e : Sub I I') : Dr K I' H' a t n M' := let ⟨s, zs, l, w⟩ := d; ⟨s.mono e, zs, l, f zs w⟩
end
def Two30 : Int := 1073741824
def sp__law_cell (K : PySem.W.Frag) : Sp := fun vs H Q _ => ∃ (a : Addr) (k : Int), vs = [.ref a, .int k] ∧ Scr K H a ∧ ∀ i : Int, Q (.int i) H
def sp__law_mix (K : PySem.W.Frag) : Sp := fun vs H Q _ => ∃ (a : Addr) (k : Int), vs = [.ref a, .int k] ∧ Scr K H a ∧ ∀ i : Int, 0 ≤ i → i < 4294967231 → Q (.int i) H
def sp__law_draw (K : PySem.W.Frag) : Sp := fun vs H Q _ => ∃ (I : Hp) (a t : Addr) (n : Nat) (M : List (Addr × HO)) (m : Int), vs = [.ref a, .ref t, .int m] ∧ Dr K I H a t n M ∧ n < 1000000 ∧ 0 < m ∧
  ∀ (d : Int) (H' : Hp), 0 ≤ d → d < m → Dr K I H' a t (n + 1) M → Q (.int d) H'
def sp__law_pick (K : PySem.W.Frag) : Sp := fun vs H Q _ => ∃ (I : Hp) (a t l : Addr) (n : Nat) (M : List (Addr × HO)) (xs : List V), vs = [.ref a, .ref t, .ref l] ∧ Dr K I H a t n M ∧ n < 1000000 ∧ (∀ H', Dr K I H' a t n M ∨ Dr K I H' a t (n + 1) M → H' l = some (.lst xs)) ∧ xs ≠ [] ∧
  ∀ (x : V) (H' : Hp), x ∈ xs → Dr K I H' a t (n + 1) M → Q x H'
def t__law_cell (K : PySem.W.Frag) (E : XK) : TS := tSeq (tIfS (tTru K (tVar 0)) (tRet (tOp (rIxL K) (tVar 0) (tOp (rI (fun _ j => 0 < j) fun i j => .int (i % j)) (tVar 1) (tCB (gLenK K) (tCons (tVar 0) (tNil)))))) (tNext)) (tRet (tC (.int 0)))
abbrev nn__law_cell : List Str := ["script", "k"]
def t__law_mix (K : PySem.W.Frag) (E : XK) : TS := tSeq (tAsg (tOp (rI (fun _ j => 0 < j) fun i j => .int (i % j)) (tOp (rI0 fun i j => .int (i + j)) (tCall (sp__law_cell K) [] E (tCons (tVar 0) (tCons (tVar 1) (tNil)))) (tOp (rI CMul fun i j => .int (i * j)) (tC (.int 104729)) (tOp (rI0 fun i j => .int (i + j)) (tVar 1) (tC (.int 1))))) (tC (.int 4294967291))) (gName 2)) (tSeq (tAsg (tOp (rI (fun _ j => 0 < j) fun i j => .int (i % j)) (tOp (rI CPow fun i j => .int (i ^ j.toNat)) (tVar 2) (tC (.int 5))) (tC (.int 4294967279))) (gName 2)) (tRet (tOp (rI (fun _ j => 0 < j) fun i j => .int (i % j)) (tOp (rI0 fun i j => .int (i + j)) (tOp (rI CMul fun i j => .int (i * j)) (tOp (rI CDiv fun i j => .int (i / j)) (tVar 2) (tC (.int 64))) (tC (.int 69621))) (tVar 2)) (tC (.int 4294967231)))))
abbrev nn__law_mix : List Str := ["script", "k", "number"]
def t__law_draw (K : PySem.W.Frag) (E : XK) : TS := tSeq (tDrop (fBM "list" rAppend (tVar 1) (tCons (tC (.int 0)) (tNil)))) (tRet (tOp (rI (fun _ j => 0 < j) fun i j => .int (i % j)) (tOp (rI CDiv fun i j => .int (i / j)) (tCall (sp__law_mix K) [] E (tCons (tVar 0) (tCons (tCB (gLenL) (tCons (tVar 1) (tNil))) (tNil)))) (tC (.int 8))) (tVar 2)))
abbrev nn__law_draw : List Str := ["script", "town", "many"]
def t__law_pick (K : PySem.W.Frag) (E : XK) : TS := tRet (tOp gIxL (tVar 2) (tCall (sp__law_draw K) [] E (tCons (tVar 0) (tCons (tVar 1) (tCons (tCB (gLenL) (tCons (tVar 2) (tNil))) (tNil))))))
abbrev nn__law_pick : List Str := ["script", "town", "some"]
section
variable {K : PySem.W.Frag}
theorem len__law_cell : ∀ vs H Q E, sp__law_cell K vs H Q E → vs.length = ["script", "k"].length := by
  rintro _ _ _ _ ⟨a, k, rfl, _⟩; rfl
theorem len__law_mix : ∀ vs H Q E, sp__law_mix K vs H Q E → vs.length = ["script", "k"].length := by
  rintro _ _ _ _ ⟨a, k, rfl, _⟩; rfl
theorem len__law_draw : ∀ vs H Q E, sp__law_draw K vs H Q E → vs.length = ["script", "town", "many"].length := by
  rintro _ _ _ _ ⟨I, a, t, n, M, m, rfl, _⟩; rfl
theorem len__law_pick : ∀ vs H Q E, sp__law_pick K vs H Q E → vs.length = ["script", "town", "some"].length := by
  rintro _ _ _ _ ⟨I, a, t, l, n, M, m, rfl, _⟩; rfl
theorem atI_ok {α : Type} {xs : List α} {i : Int} (h0 : 0 ≤ i) (h1 : i < xs.length) : ∃ x, atI xs i = some x ∧ x ∈ xs := by
  have hl : i.toNat < xs.length := by omega
  refine ⟨xs[i.toNat], ?_, List.getElem_mem hl⟩
  unfold atI ixN
  rw [if_pos h0, if_pos h1]
  simp [List.getElem?_eq_getElem hl]
theorem pure__law_cell : ∀ vs H Q E, sp__law_cell K vs H Q E → t__law_cell K E { nx := fun _ H2 => Q .non H2, rt := Q } (L2.start nn__law_cell vs) H := by
  rintro vs H Q E ⟨a, k, rfl, ⟨ns, hS⟩, hQ⟩
  unfold t__law_cell
  simp! [tTru]
  refine ⟨!(ns.map V.int).isEmpty, .inl ⟨_, hS, rfl⟩, ?_⟩
  cases ns with
  | nil => simp! [List.isEmpty_nil]; exact hQ 0
  | cons n ns =>
    simp! [List.isEmpty_cons, rIxL, gLenK]
    refine ⟨_, hS, ?_⟩
    have hp : (0 : Int) < ((List.map V.int ns).length : Int) + 1 := by omega
    refine ⟨by simpa using hp, _, hS, ?_⟩
    obtain ⟨x, h1, h2⟩ := atI_ok (xs := V.int n :: List.map V.int ns) (i := k % ((((V.int n :: List.map V.int ns).length : Nat)) : Int)) (Int.emod_nonneg _ (by simp only [List.length_cons]; omega)) (Int.emod_lt_of_pos _ (by simp only [List.length_cons]; omega))
    obtain ⟨y, hy⟩ : ∃ y, x = V.int y := by
      rcases List.mem_cons.mp h2 with e | e
      · exact ⟨n, e⟩
      · obtain ⟨z, _, e⟩ := List.mem_map.mp e; exact ⟨z, e.symm⟩
    subst hy
    exact ⟨_, h1, hQ y⟩
theorem pure__law_mix : ∀ vs H Q E, sp__law_mix K vs H Q E → t__law_mix K E { nx := fun _ H2 => Q .non H2, rt := Q } (L2.start nn__law_mix vs) H := by
  rintro vs H Q E ⟨a, k, rfl, hS, hQ⟩
  unfold t__law_mix
  simp! [and_true]
  refine ⟨a, k, rfl, hS, fun i => ?_⟩
  simp! [and_true]
  refine ⟨.inl ⟨by decide, by decide⟩, by decide, ?_⟩
  have h1 := Int.emod_nonneg (i + 104729 * (k + 1)) (b := 4294967291) (by decide)
  have h2 := Int.emod_lt_of_pos (i + 104729 * (k + 1)) (b := 4294967291) (by decide)
  generalize (i + 104729 * (k + 1)) % 4294967291 = x at h1 h2
  refine ⟨⟨by decide, by decide, by omega⟩, by decide, ?_⟩
  generalize hy : x ^ (5 : Int).toNat % 4294967279 = y
  have h3 : 0 ≤ y := by rw [← hy]; exact Int.emod_nonneg _ (by decide)
  have h4 : y < 4294967279 := by rw [← hy]; exact Int.emod_lt_of_pos _ (by decide)
  refine ⟨⟨by decide, by decide⟩, .inl ⟨by omega, by omega⟩, by decide, ?_⟩
  exact hQ _ (Int.emod_nonneg _ (by decide)) (Int.emod_lt_of_pos _ (by decide))
theorem pure__law_draw : ∀ vs H Q E, sp__law_draw K vs H Q E → t__law_draw K E { nx := fun _ H2 => Q .non H2, rt := Q } (L2.start nn__law_draw vs) H := by
  rintro vs H Q E ⟨I, a, t, n, M, m, rfl, ⟨hS, zs, hz, w⟩, hn, hm, hQ⟩
  have ht := w.has.1
  unfold t__law_draw
  simp! [ht]
  have := line_big
  refine ⟨by omega, a, _, rfl, hS.mono (w.put (o' := .lst (zs ++ [V.int 0]))).sub, fun i h0 h1 => ?_⟩
  simp! [and_true]
  refine ⟨⟨by decide, by decide⟩, hm, hQ _ _ (Int.emod_nonneg _ (by omega)) (Int.emod_lt_of_pos _ hm) ⟨hS, _, ?_, w.put⟩⟩
  simp; exact hz
theorem pure__law_pick : ∀ vs H Q E, sp__law_pick K vs H Q E → t__law_pick K E { nx := fun _ H2 => Q .non H2, rt := Q } (L2.start nn__law_pick vs) H := by
  rintro vs H Q E ⟨I, a, t, l, n, M, xs, rfl, d, hn, hl, hx, hQ⟩
  have h0 := hl H (.inl d)
  unfold t__law_pick
  simp! [h0]
  have hp : 0 < xs.length := List.length_pos_iff.mpr hx
  refine ⟨I, a, t, n, M, _, rfl, d, hn, by omega, fun i H' i0 i1 d' => ?_⟩
  simp! [hl H' (.inr d')]
  obtain ⟨x, e1, e2⟩ := atI_ok (xs := xs) i0 (by omega)
  exact ⟨x, e1, hQ x H' e2 d'⟩
end
end TA

set_option linter.all false
set_option maxRecDepth 100000
set_option maxHeartbeats 1000000
/-! How a refusal is told. -/
namespace TA
open PySem L2
local macro_rules | `(tactic| simp! [$as,*]) => `(tactic| first | simp only [L2.start, tSeq, tAsg, tOp, fFld, tVar, gIxL, gIxT, tCB, tCons, tNil, gLenL, gLenT, gLenS, rI, rI0, fSet, tIfS, tTest, tB, rNotN, rIsN, rEq, rNe, tC, tDrop, fBM, fBM0, gTy, rAppend, tTup, tLst, tRet, tRetN, tNext, gName, fTup, gCons, gNil, tCall, fCallS, fMeth, tMeth, fMethS, fMake, tMake, fMakeS, tUn, rU, tAnd, tOr, tNot, tAndV, tOrV, tNotV, tIf, tChain, gListL, gListT, tSl, tNoPart, tPart, gSlL, fRaise, gStrI, gCatS, gMin2, gMax2, gIntB, tYes, fLcL, fLcT, fLcS, fLcR1, fForL, fForR1, fForR2, fRev, fGetI, gGetI, gInI, gLenI, fPutI, fNewI,
  List.map_cons, List.map_nil, List.length_cons, List.length_nil, List.replicate, List.cons_append, List.nil_append, List.append_nil, List.getElem?_cons_zero, List.getElem?_cons_succ, List.set_cons_zero, List.set_cons_succ, reduceIte, Bool.not_true, Bool.not_false, Nat.reduceAdd, Nat.reduceSub, Bool.false_eq_true, eq_self,
  Option.some.injEq, V.int.injEq, V.ref.injEq, V.str.injEq, V.bl.injEq, HO.ins.injEq, HO.lst.injEq, HO.tup.injEq, HO.dK.injEq, List.cons.injEq, and_assoc, exists_eq_left', exists_and_left, and_true, true_and, true_or, or_true, false_or, or_false, exists_eq_left, exists_eq_right, exists_eq_right', exists_eq, exists_eq', exists_const, upd_same, sc_ii, sc_ss, sc_bb, sc_in, sc_ni, sc_ns, sc_sn, sc_nn, $as,*] | skip)
def wordOf (x : Str) : Str := if x = "BadText" then "text" else if x = "BadNumber" then "number" else "ask"
def refD : Option Str → PyData
  | none => .tuple [.str "ok"]
  | some x => .tuple [.str "refused", .str (wordOf x)]
/-- a held error of the class x, or None -/
def HeldV (K : PySem.W.Frag) (I : Hp) (v : V) : Option Str → Prop
  | none => v = .non
  | some x => x ∈ errs ∧ ∃ a, v = .ref a ∧ I a = some (ExC (.ref (He.ga K x)) a)
def sp__law_refusal (K : PySem.W.Frag) : Sp := fun vs H Q _ => ∃ (I : Hp) (M : List (Addr × HO)) (v : V) (c : Option Str), vs = [v] ∧ W I H M ∧ HeldV K I v c ∧ ∀ (I' H' : Hp) (v' : V), Sub I I' → W I' H' M → Rp I' v' (refD c) → Q v' H'
def t__law_refusal (K : PySem.W.Frag) (E : XK) : TS := tSeq (tIfS (tTest (tOp (rIsN) (tVar 0) (tC .non))) (tRet (tTup (tCons (tC (.str "ok")) (tNil)))) (tNext)) (tSeq (tAsg (tLst (tCons (tCB (gIs (.ref (He.ga K "BadText")) (tabOf K "BadText")) (tCons (tVar 0) (tCons (tC (.ref (He.ga K "BadText"))) tNil))) (tCons (tCB (gIs (.ref (He.ga K "BadNumber")) (tabOf K "BadNumber")) (tCons (tVar 0) (tCons (tC (.ref (He.ga K "BadNumber"))) tNil))) (tCons (tCB (gIs (.ref (He.ga K "BadAsk")) (tabOf K "BadAsk")) (tCons (tVar 0) (tCons (tC (.ref (He.ga K "BadAsk"))) tNil))) (tNil))))) (gName 1)) (tSeq (tIfS (tOr (tTest (tOp (rNe) (fBM "list" gCnt (tVar 1) (tCons (tC (.bl true)) (tNil))) (tC (.int 1)))) (tNot (tB (tCB (gIs (.ty "ValueError") (tabV K)) (tCons (tVar 0) (tCons (tC (.ty "ValueError")) tNil)))))) (tRet (tTup (tCons (tC (.str "wrong")) (tNil)))) (tNext)) (tRet (tTup (tCons (tC (.str "refused")) (tCons (tOp gIxL (tLst (tCons (tC (.str "text")) (tCons (tC (.str "number")) (tCons (tC (.str "ask")) (tNil))))) (fBM "list" gIdx (tVar 1) (tCons (tC (.bl true)) (tNil)))) (tNil)))))))
abbrev nn__law_refusal : List Str := ["held", "kinds"]
section
variable {K : PySem.W.Frag}
theorem len__law_refusal : ∀ vs H Q E, sp__law_refusal K vs H Q E → vs.length = ["held"].length := by
  rintro _ _ _ _ ⟨I, M, v, c, rfl, _⟩; rfl
theorem gIs_ok {c : V} {tab : List (Addr × Bool)} {H : Hp} {Q : VK} {a D : Addr} {b : Bool} (h : H a = some (ExC (.ref D) a)) (m : (D, b) ∈ tab) (q : Q (.bl b) H) : gIs c tab [.ref a, c] H Q := ⟨a, D, b, rfl, h, m, q⟩
theorem tab_in {x y : Str} {b : Bool} (hx : x ∈ errs) (e : decide (x = y) = b) : (He.ga K x, b) ∈ tabOf K y := List.mem_map.mpr ⟨x, hx, by rw [e]⟩
theorem tabV_in {x : Str} (hx : x ∈ errs) : (He.ga K x, true) ∈ tabV K := List.mem_map.mpr ⟨x, hx, rfl⟩
theorem errs_cases {x : Str} (h : x ∈ errs) : x = "BadText" ∨ x = "BadNumber" ∨ x = "BadAsk" := by simpa [errs] using h
theorem three_le : (3 : Nat) ≤ sizeLine := by have := line_big; omega
theorem two_le : (2 : Nat) ≤ sizeLine := by have := line_big; omega
theorem one_le : (1 : Nat) ≤ sizeLine := by have := line_big; omega
/-- the rest of it, the three answers known -/
theorem pure__law_refusal : ∀ vs H Q E, sp__law_refusal K vs H Q E → t__law_refusal K E { nx := fun _ H2 => Q .non H2, rt := Q } (L2.start nn__law_refusal vs) H := by
  rintro vs H Q E ⟨I, M, v, c, rfl, w, hv, hQ⟩
  unfold t__law_refusal
  cases c with
  | none =>
    obtain rfl : v = .non := hv
    simp! [decide_true]
    refine ⟨one_le, fun p hp => hQ _ _ _ (Sub.new (w.noI hp)) (w.newI hp) (.tup upd_same (.cons (.str _) .nil))⟩
  | some x =>
    obtain ⟨hx, a, rfl, ha⟩ := hv
    have h0 : H a = some (ExC (.ref (He.ga K x)) a) := w.sub _ _ ha
    simp! [decide_false, reduceCtorEq]
    refine gIs_ok h0 (tab_in hx rfl) (gIs_ok h0 (tab_in hx rfl) (gIs_ok h0 (tab_in hx rfl) ?_))
    simp! [and_true]
    refine ⟨three_le, fun l hl => ?_⟩
    have w1 := w.newI (o := .lst [.bl (decide (x = "BadText")), .bl (decide (x = "BadNumber")), .bl (decide (x = "BadAsk"))]) hl
    have e1 : decide (x = "BadText") = true ∧ decide (x = "BadNumber") = false ∧ decide (x = "BadAsk") = false ∧ wordOf x = "text" ∨ decide (x = "BadText") = false ∧ decide (x = "BadNumber") = true ∧ decide (x = "BadAsk") = false ∧ wordOf x = "number" ∨
        decide (x = "BadText") = false ∧ decide (x = "BadNumber") = false ∧ decide (x = "BadAsk") = true ∧ wordOf x = "ask" := by
      rcases errs_cases hx with rfl | rfl | rfl
      · left; decide +kernel
      · right; left; decide +kernel
      · right; right; decide +kernel
    rcases e1 with ⟨e1, e2, e3, e4⟩ | ⟨e1, e2, e3, e4⟩ | ⟨e1, e2, e3, e4⟩
    all_goals
      rw [e1, e2, e3] at w1 ⊢
      simp! [gCnt, flatV, List.all_cons, List.all_nil, Bool.and_true, scal]
      refine ite_nt (by decide) (gIs_ok (by have := w1.sub a _ (Sub.new (w.noI hl) _ _ ha); exact this) (tabV_in hx) ?_)
      simp! [and_true]
      refine ⟨three_le, fun p hp => ?_⟩
      have hI := w1.newI (o := .lst [V.str "text", V.str "number", V.str "ask"]) hp
      have hlp : l ≠ p := fun z => by rw [z, upd_same] at hp; cases hp
      have hll := hI.sub l _ (by rw [upd_ne hlp, upd_same])
      refine ⟨.inl ⟨_, hll⟩, l, _, _, _, rfl, rfl, hll, rfl, rfl, rfl, ?_⟩
      simp! [and_true]
      refine ⟨_, rfl, two_le, fun r hr => ?_⟩
      have w3 := hI.newI (o := .tup [V.str "refused", V.str (wordOf x)]) hr
      rw [e4] at w3
      refine hQ _ _ _ ((Sub.new (w.noI hl)).trans ((Sub.new (w1.noI hp)).trans (Sub.new (hI.noI hr)))) w3 ?_
      show Rp _ _ (.tuple [.str "refused", .str (wordOf x)])
      rw [e4]
      exact .tup upd_same (.cons (.str _) (.cons (.str _) .nil))
end
end TA

set_option linter.all false
set_option maxRecDepth 100000
set_option maxHeartbeats 1000000
/-! Data side by side with the values that stand for them. -/
namespace TA
open PySem L2
section
variable {H H' I : Hp} {α : Type}
theorem RpAll.length : ∀ {vs : List V} {ds : List PyData}, RpAll H vs ds → vs.length = ds.length
  | _, _, .nil => rfl
  | _, _, .cons _ r => by rw [List.length_cons, List.length_cons, r.length]
theorem RpAll.get : ∀ {vs : List V} {ds : List PyData} {i : Nat} {v : V}, RpAll H vs ds → vs[i]? = some v → ∃ d, ds[i]? = some d ∧ Rp H v d
  | _, _, _, _, .nil, h => by simp at h
  | _, _, 0, _, .cons r _, h => by simp at h; subst h; exact ⟨_, rfl, r⟩
  | _, _, i + 1, _, .cons _ t, h => by simpa using t.get (i := i) (by simpa using h)
theorem RpAll.snoc : ∀ {vs : List V} {ds : List PyData} {v : V} {d : PyData}, RpAll H vs ds → Rp H v d → RpAll H (vs ++ [v]) (ds ++ [d])
  | _, _, _, _, .nil, h => .cons h .nil
  | _, _, _, _, .cons r t, h => .cons r (t.snoc h)
/-- values paired with what they stand for -/
def Enc (H : Hp) (e : α → PyData) (zs : List (V × α)) : Prop := ∀ z ∈ zs, Rp H z.1 (e z.2)
theorem Enc.nil {e : α → PyData} : Enc H e [] := fun _ h => by cases h
theorem Enc.mono {e : α → PyData} {zs : List (V × α)} (s : Sub H H') (h : Enc H e zs) : Enc H' e zs := fun z hz => (h z hz).mono s
theorem Enc.snoc {e : α → PyData} {zs : List (V × α)} {v : V} {x : α} (h : Enc H e zs) (r : Rp H v (e x)) : Enc H e (zs ++ [(v, x)]) := fun z hz => by
  rcases List.mem_append.mp hz with q | q
  · exact h z q
  · rw [List.mem_singleton.mp q]; exact r
theorem Enc.sub {e : α → PyData} {zs ys : List (V × α)} (h : Enc H e zs) (k : ∀ z ∈ ys, z ∈ zs) : Enc H e ys := fun z hz => h z (k z hz)
theorem Enc.filter {e : α → PyData} {zs : List (V × α)} (h : Enc H e zs) (p : V × α → Bool) : Enc H e (zs.filter p) := h.sub fun z hz => (List.mem_filter.mp hz).1
theorem Enc.all {e : α → PyData} : ∀ {zs : List (V × α)}, Enc H e zs → RpAll H (zs.map Prod.fst) (zs.map fun z => e z.2)
  | [], _ => .nil
  | z :: zs, h => .cons (h z List.mem_cons_self) (Enc.all fun y hy => h y (List.mem_cons_of_mem _ hy))
/-- from values and data in two lists -/
theorem enc_of {e : α → PyData} : ∀ {vs : List V} {xs : List α}, RpAll H vs (xs.map e) → ∃ zs : List (V × α), vs = zs.map Prod.fst ∧ xs = zs.map Prod.snd ∧ Enc H e zs
  | [], [], _ => ⟨[], rfl, rfl, Enc.nil⟩
  | [], _ :: _, h => by cases h
  | _ :: _, [], h => by cases h
  | v :: vs, x :: xs, h => by
    cases h with
    | cons h1 h2 =>
      obtain ⟨zs, rfl, rfl, k⟩ := enc_of h2
      refine ⟨(v, x) :: zs, rfl, rfl, fun z hz => ?_⟩
      rcases List.mem_cons.mp hz with q | q
      · rw [q]; exact h1
      · exact k z q
end
/-! ### sorted, of typed data -/
/-- the order of sorted over data of one kind -/
def leD {α : Type} (e : α → PyData) (x y : α) : Bool := dle (e x) (e y)
def sortE {α : Type} (e : α → PyData) (l : List α) : List α := l.mergeSort (leD e)
/-- data of one kind that sorted takes -/
structure Sorts {α : Type} (e : α → PyData) : Prop where
  alike : ∀ x y, PySem.W.alike (e x) (e y) = true
  sb : (∀ x, ∃ y r, e x = .tuple (y :: r)) ∨ ∀ x, e x ≠ .none ∧ ∀ xs, e x ≠ .tuple xs
  dp : ∀ x, (e x).depth ≤ 50
theorem sortD_use {α : Type} {e : α → PyData} (S : Sorts e) {H : Hp} {a : Addr} {zs : List (V × α)} {Q : VK} (h : H a = some (.lst (zs.map Prod.fst))) (k : Enc H e zs) (q : ∀ p, H p = none → Q (.ref p) (upd H p (.lst ((zs.mergeSort fun x y => leD e x.2 y.2).map Prod.fst)))) :
    gSortD [.ref a] H Q := by
  refine ⟨a, zs.map fun z => (z.1, e z.2), rfl, ?_, ?_, ?_, ?_, ?_, fun p hp => ?_⟩
  · rw [List.map_map]; exact h
  · rw [List.map_map, List.map_map]; exact k.all
  · intro d hd d' hd'
    rw [List.map_map] at hd hd'
    obtain ⟨z, _, rfl⟩ := List.mem_map.mp hd
    obtain ⟨z', _, rfl⟩ := List.mem_map.mp hd'
    exact S.alike _ _
  · rcases S.sb with s | s
    · left; intro d hd
      rw [List.map_map] at hd
      obtain ⟨z, _, rfl⟩ := List.mem_map.mp hd
      exact s _
    · right; intro d hd
      rw [List.map_map] at hd
      obtain ⟨z, _, rfl⟩ := List.mem_map.mp hd
      exact s _
  · intro z hz
    obtain ⟨y, _, rfl⟩ := List.mem_map.mp hz
    exact S.dp _
  · have e1 := PySem.W.sort_maps (r := fun (x y : V × α) => leD e x.2 y.2) (s := fun (x y : V × PyData) => dle x.2 y.2) (fun z : V × α => (z.1, e z.2)) (l := zs) fun a _ b _ => rfl
    rw [← e1, List.map_map]
    exact q p hp
theorem sort_snd {α : Type} {e : α → PyData} (zs : List (V × α)) : (zs.mergeSort fun x y => leD e x.2 y.2).map Prod.snd = sortE e (zs.map Prod.snd) := PySem.W.sort_maps (r := fun (x y : V × α) => leD e x.2 y.2) (s := leD e) Prod.snd fun a _ b _ => rfl
theorem sort_enc {α : Type} {e : α → PyData} {H : Hp} {zs : List (V × α)} (h : Enc H e zs) : Enc H e (zs.mergeSort fun x y => leD e x.2 y.2) := h.sub fun z hz => (List.mergeSort_perm zs _).mem_iff.mp hz
/-! ### filter comprehensions: [x for x in xs if p x] -/
theorem take_succ_get {α : Type} {l : List α} {i : Nat} {x : α} (h : l[i]? = some x) : l.take (i + 1) = l.take i ++ [x] := by
  rw [List.take_succ, h]; rfl
theorem comp_filter {α : Type} {zs : List (V × α)} {p : V × α → Bool} {src : Hp → Prop} {j : Nat} {tt : TT} {σ : St} {H I : Hp} {M : List (Addr × HO)} {Q : VK} (w : W I H M) (hn : zs.length ≤ 1000000) (hj : ∀ x, wipe ((wipe σ [j]).set j x) [j] = wipe σ [j])
    (hjj : ∀ x : V, ((wipe σ [j]).set j (some x))[j]? = some (some x)) (hsrc : ∀ D o H', W I H' ((D, o) :: M) → src H')
    (ht : ∀ z ∈ zs, ∀ D o H' Q', W I H' ((D, o) :: M) → Q' (p z) H' → tt ((wipe σ [j]).set j (some z.1)) H' Q') (hd : ∀ D H', W I H' ((D, .lst ((zs.filter p).map Prod.fst)) :: M) → Q (.ref D) H') :
    CompW src (zs.map Prod.fst).length (fun i x => (zs.map Prod.fst)[i]? = some x) (gName j) tt (tVar j) [j] σ H Q := by
  refine ⟨I, M, fun i I' acc M' => I' = I ∧ M' = M ∧ acc = ((zs.take i).filter p).map Prod.fst, w, by rw [List.length_map]; exact hn, ⟨rfl, rfl, rfl⟩, ?_, ?_, ?_⟩
  · rintro i I' acc M' D H' ⟨rfl, rfl, _⟩ _ w'
    exact hsrc _ _ _ w'
  · rintro D i x H' I' acc M' hi hx _ w' ⟨rfl, rfl, rfl⟩ _
    rw [List.getElem?_map, Option.map_eq_some_iff] at hx
    obtain ⟨z, hz, rfl⟩ := hx
    refine ⟨hj _, ht z (List.mem_of_getElem? hz) _ _ _ _ w' ?_⟩
    cases hp : p z with
    | true =>
      rw [if_pos rfl]
      refine ⟨z.1, hjj _, nxt (Sub.refl _) w' ⟨rfl, rfl, ?_⟩⟩
      rw [take_succ_get hz, List.filter_append, List.map_append, List.filter_cons_of_pos (by rw [hp]), List.filter_nil]
      rfl
    | false =>
      rw [if_neg (by decide)]
      refine nxt (Sub.refl _) w' ⟨rfl, rfl, ?_⟩
      rw [take_succ_get hz, List.filter_append, List.filter_cons_of_neg (by rw [hp]; decide), List.filter_nil, List.append_nil]
  · rintro D H' I' acc M' _ w' ⟨rfl, rfl, rfl⟩ _
    refine hd D H' ?_
    rw [List.length_map, List.take_length] at w'
    exact w'
/-! ### small numbers as texts -/
theorem log2_small {i : Int} (h0 : 0 ≤ i) (h1 : i < 1000) : i.natAbs.log2 < 1920 := by
  have h2 : i.natAbs.log2 ≤ i.natAbs := Nat.log2_le_self _
  omega
theorem len_num {i : Int} (h0 : 0 ≤ i) (h1 : i < 1000) : (Str.ofString (toString i)).length ≤ 3 := by
  have e : i = ((i.toNat : Nat) : Int) := by omega
  rw [e, TL.len_tl, TL.tl_num]
  exact TL.numL_len (by decide) (by omega)
theorem ne_size {n : Nat} (h : n ≤ 1000000) : n ≤ sizeLine := by have := line_big; omega
end TA

set_option linter.all false
set_option maxRecDepth 100000
set_option maxHeartbeats 1000000
/-! Texts as rows of signs: folding, ranks. Plain. -/
namespace TA
open PySem L2 PyProof.Rows
/-- a text's sign, as the program takes it -/
def okC (c : Nat) : Bool := decide (32 ≤ c) && decide (c < 127) && !decide (c = 37)
def okL (n : Nat) (l : List Nat) : Bool := decide (l.length ≤ n) && l.all okC
def nonE (l : List Nat) : Bool := !l.isEmpty
/-- a text folded -/
def foldL (l : List Nat) : List Nat := TL.joinL [32] ((TL.spl [32] 0 [] (l.map lo1)).filter nonE)
def hasL (w m : List Nat) : Bool := (List.range (m.length + 1)).any fun k => TL.pre w (m.drop k)
def rankM (m w : List Nat) : Option Int := if m = w then some 0 else if TL.pre w m = true then some 1 else if hasL (32 :: w) m = true then some 2 else if hasL w m = true then some 3 else none
def rankL (r q : List Nat) : Option Int := rankM (foldL r) (foldL q)
/-! ### sign by sign -/
def stepL (acc : List Nat) (c : Nat) : List Nat := if c ≠ 32 then acc ++ [lo1 c] else if acc ≠ [] ∧ acc.getLast? ≠ some 32 then acc ++ [32] else acc
def finL (acc : List Nat) : List Nat := if acc.getLast? = some 32 then acc.dropLast else acc
theorem joinL_snoc (w : List Nat) (x : Nat) : ∀ ws : List (List Nat), TL.joinL [32] (ws ++ [w]) ++ [x] = TL.joinL [32] (ws ++ [w ++ [x]])
  | [] => by simp [TL.joinL]
  | [a] => by simp [TL.joinL]
  | a :: b :: r => by
    have := joinL_snoc w x (b :: r)
    simp only [List.cons_append, TL.joinL, List.nil_append, List.append_assoc] at this ⊢
    rw [this]
theorem joinL_end : ∀ ws : List (List Nat), ws ≠ [] → TL.joinL [32] (ws ++ [[]]) = TL.joinL [32] ws ++ [32]
  | [a], _ => by simp [TL.joinL]
  | a :: b :: r, _ => by
    have := joinL_end (b :: r) (by simp)
    simp only [List.cons_append, TL.joinL, List.nil_append, List.append_assoc] at this ⊢
    rw [this]
theorem last_app {a b : List Nat} (h : b ≠ []) : (a ++ b).getLast? = b.getLast? := by
  rw [List.getLast?_append]
  cases e : b.getLast? with
  | none => exact absurd (List.getLast?_eq_none_iff.mp e) h
  | some x => rfl
theorem last_cons {x : Nat} {b : List Nat} (h : b ≠ []) : (x :: b).getLast? = b.getLast? := last_app (a := [x]) h
theorem joinL_last (w : List Nat) (h : w ≠ []) : ∀ ws : List (List Nat), (TL.joinL [32] (ws ++ [w])).getLast? = w.getLast?
  | [] => by simp [TL.joinL]
  | [a] => by
    simp only [List.cons_append, List.nil_append, TL.joinL]
    rw [last_app (by simp), last_cons h]
  | a :: b :: r => by
    have := joinL_last w h (b :: r)
    simp only [List.cons_append, TL.joinL, List.nil_append] at this ⊢
    have hn : TL.joinL [32] (b :: (r ++ [w])) ≠ [] := fun e => by
      rw [e] at this
      exact h (List.getLast?_eq_none_iff.mp this.symm)
    rw [last_app (by simp), last_cons hn]
    exact this
theorem lo1_32 {c : Nat} : lo1 c = 32 ↔ c = 32 := by unfold lo1; constructor <;> intro h <;> (split at * <;> simp_all <;> omega)
theorem enc_hit (ws : List (List Nat)) (cur : List Nat) (h : 32 ∉ cur) : stepL (TL.joinL [32] (ws ++ [cur])) 32 = TL.joinL [32] ((ws ++ [cur].filter nonE) ++ [[]]) := by
  unfold stepL
  rw [if_neg (by simp)]
  cases cur with
  | nil =>
    have : ([[]] : List (List Nat)).filter nonE = [] := rfl
    rw [this, List.append_nil]
    refine if_neg ?_
    cases ws with
    | nil => simp [TL.joinL]
    | cons a r =>
      rw [joinL_end _ (by simp)]
      simp
  | cons x cur =>
    have : ([x :: cur] : List (List Nat)).filter nonE = [x :: cur] := rfl
    rw [this, joinL_end _ (by simp)]
    have hl := joinL_last (x :: cur) (by simp) ws
    refine if_pos ⟨?_, ?_⟩
    · intro e; rw [e] at hl; exact absurd (List.getLast?_eq_none_iff.mp hl.symm) (by simp)
    · rw [hl]
      intro e
      exact h (List.mem_of_getLast? e)
theorem enc_fin (ws : List (List Nat)) (cur : List Nat) (h : 32 ∉ cur) : finL (TL.joinL [32] (ws ++ [cur])) = TL.joinL [32] (ws ++ [cur].filter nonE) := by
  unfold finL
  cases cur with
  | nil =>
    have : ([[]] : List (List Nat)).filter nonE = [] := rfl
    rw [this, List.append_nil]
    cases ws with
    | nil => simp [TL.joinL]
    | cons a r =>
      rw [joinL_end _ (by simp)]
      simp
  | cons x cur =>
    have : ([x :: cur] : List (List Nat)).filter nonE = [x :: cur] := rfl
    rw [this, joinL_last (x :: cur) (by simp)]
    refine if_neg fun e => h (List.mem_of_getLast? e)
theorem pre1 {c : Nat} {r : List Nat} : TL.pre [32] (c :: r) = decide (c = 32) := by
  unfold TL.pre
  by_cases h : c = 32 <;> simp [h]
theorem fold_go : ∀ (l ws' : List Nat) (ws : List (List Nat)), 32 ∉ ws' → finL (l.foldl stepL (TL.joinL [32] (ws ++ [ws']))) = TL.joinL [32] (ws ++ (TL.spl [32] 0 ws' (l.map lo1)).filter nonE)
  | [], cur, ws, h => by rw [List.map_nil, TL.spl_nil]; exact enc_fin ws cur h
  | c :: l, cur, ws, h => by
    rw [List.foldl_cons, List.map_cons]
    by_cases hc : c = 32
    · subst hc
      have e : lo1 32 = 32 := by decide
      rw [enc_hit ws cur h, e, TL.spl_hit (by rw [pre1]; rfl), fold_go l [] (ws ++ [cur].filter nonE) (by simp)]
      show _ = TL.joinL [32] (ws ++ ([cur] ++ TL.spl [32] 0 [] (l.map lo1)).filter nonE)
      rw [List.filter_append, List.append_assoc]
    · have e : lo1 c ≠ 32 := fun z => hc (lo1_32.mp z)
      rw [TL.spl_miss (by rw [pre1]; simpa using e)]
      have : stepL (TL.joinL [32] (ws ++ [cur])) c = TL.joinL [32] (ws ++ [cur ++ [lo1 c]]) := by
        unfold stepL; rw [if_pos hc, joinL_snoc]
      rw [this, fold_go l (cur ++ [lo1 c]) ws]
      simp only [List.mem_append, List.mem_singleton, not_or]
      exact ⟨h, fun z => e z.symm⟩
theorem fold_eq (l : List Nat) : finL (l.foldl stepL []) = foldL l := by
  have := fold_go l [] [] (by simp)
  unfold foldL
  simpa [TL.joinL] using this
theorem okC_lo1 {c : Nat} (h : okC c = true) : okC (lo1 c) = true := by
  unfold okC lo1 at *
  simp at h ⊢
  split <;> omega
theorem step_ok {acc : List Nat} {c : Nat} (ha : acc.all okC = true) (hc : okC c = true) : (stepL acc c).all okC = true := by
  unfold stepL
  split
  · simp only [List.all_append, ha, List.all_cons, okC_lo1 hc]; rfl
  · split
    · simp only [List.all_append, ha]; rfl
    · exact ha
theorem step_len (acc : List Nat) (c : Nat) : (stepL acc c).length ≤ acc.length + 1 := by
  unfold stepL
  split
  · simp
  · split <;> simp
theorem foldl_ok : ∀ {l acc : List Nat}, acc.all okC = true → l.all okC = true → (l.foldl stepL acc).all okC = true ∧ (l.foldl stepL acc).length ≤ acc.length + l.length
  | [], acc, h, _ => ⟨h, by simp⟩
  | c :: l, acc, h, h2 => by
    rw [List.all_cons, Bool.and_eq_true] at h2
    have := foldl_ok (step_ok h h2.1) h2.2
    have l1 := step_len acc c
    exact ⟨this.1, by rw [List.foldl_cons, List.length_cons]; omega⟩
theorem foldl_len : ∀ {l acc : List Nat}, (l.foldl stepL acc).length ≤ acc.length + l.length
  | [], acc => by simp
  | c :: l, acc => by
    have := @foldl_len l (stepL acc c)
    have l1 := step_len acc c
    rw [List.foldl_cons, List.length_cons]; omega
theorem fold_len (l : List Nat) : (foldL l).length ≤ l.length := by
  rw [← fold_eq]
  have := @foldl_len l []
  unfold finL
  split
  · rw [List.length_dropLast]; simp at this; omega
  · simpa using this
theorem fold_all {l : List Nat} (h : l.all okC = true) : (foldL l).all okC = true := by
  rw [← fold_eq]
  have := (foldl_ok (acc := []) rfl h).1
  unfold finL
  split
  · rw [List.all_eq_true] at this ⊢
    exact fun x hx => this x ((List.dropLast_sublist _).subset hx)
  · exact this
theorem fold_okL {n : Nat} {l : List Nat} (h : okL n l = true) : okL n (foldL l) = true := by
  unfold okL at *
  rw [Bool.and_eq_true] at *
  exact ⟨decide_eq_true (Nat.le_trans (fold_len l) (of_decide_eq_true h.1)), fold_all h.2⟩
/-! ### rank, place by place -/
def spotsL (m w : List Nat) : List Nat := (List.range (m.length + 1)).filter fun k => TL.pre w (m.drop k)
theorem pre_iff {w l : List Nat} : TL.pre w l = true ↔ ∃ r, l = w ++ r := by
  unfold TL.pre
  rw [beq_iff_eq]
  constructor
  · intro h; exact ⟨l.drop w.length, by conv => lhs; rw [← List.take_append_drop w.length l, h]⟩
  · rintro ⟨r, rfl⟩; simp
theorem mem_spots {m w : List Nat} {k : Nat} : k ∈ spotsL m w ↔ k ≤ m.length ∧ TL.pre w (m.drop k) = true := by
  unfold spotsL; rw [List.mem_filter, List.mem_range]; simp; omega
theorem has_iff {m w : List Nat} : hasL w m = true ↔ ∃ k, k ∈ spotsL m w := by
  unfold hasL
  rw [List.any_eq_true]
  constructor
  · rintro ⟨k, h1, h2⟩; exact ⟨k, mem_spots.mpr ⟨by have := List.mem_range.mp h1; omega, h2⟩⟩
  · rintro ⟨k, h⟩; obtain ⟨h1, h2⟩ := mem_spots.mp h; exact ⟨k, List.mem_range.mpr (by omega), h2⟩
theorem List.ne_nil_iff_exists_mem' {l : List Nat} : l ≠ [] ↔ ∃ k, k ∈ l := by
  cases l with
  | nil => simp
  | cons x l => exact ⟨fun _ => ⟨x, by simp⟩, fun _ => by simp⟩
theorem spots_head {m w : List Nat} : (spotsL m w).head? = some 0 ↔ TL.pre w m = true := by
  unfold spotsL
  rw [List.range_succ_eq_map, List.filter_cons]
  by_cases h : TL.pre w m = true
  · simp [h]
  · simp only [List.drop_zero, h, if_false, Bool.false_eq_true, iff_false]
    intro e
    have := List.mem_of_head? e
    simp at this
def blankAt (m : List Nat) (k : Nat) : Bool := decide (m[k - 1]? = some 32)
def rankS (m w : List Nat) : Option Int :=
  if spotsL m w = [] then none else if (spotsL m w).head? = some 0 then (if m.length = w.length then some 0 else some 1) else if (spotsL m w).filter (blankAt m) ≠ [] then some 2 else some 3
theorem rank_eq (m w : List Nat) : rankS m w = rankM m w := by
  unfold rankS rankM
  by_cases h0 : spotsL m w = []
  · rw [if_pos h0]
    have n1 : ¬ ∃ k, k ∈ spotsL m w := by rw [h0]; simp
    have n2 : ¬ TL.pre w m = true := fun h => by have := spots_head.mpr h; rw [h0] at this; simp at this
    rw [if_neg (fun e => n2 (by rw [e]; exact pre_iff.mpr ⟨[], by simp⟩)), if_neg n2, if_neg, if_neg (fun h => n1 (has_iff.mp h))]
    intro h
    obtain ⟨k, hk⟩ := has_iff.mp h
    obtain ⟨h1, h2⟩ := mem_spots.mp hk
    obtain ⟨r, hr⟩ := pre_iff.mp h2
    have : m.drop (k + 1) = w ++ r := by rw [← List.drop_drop, hr]; rfl
    have hl : k < m.length := by
      have := congrArg List.length hr
      simp at this; omega
    exact n1 ⟨k + 1, mem_spots.mpr ⟨by omega, pre_iff.mpr ⟨r, this⟩⟩⟩
  rw [if_neg h0]
  by_cases h1 : TL.pre w m = true
  · rw [if_pos (spots_head.mpr h1)]
    obtain ⟨r, hr⟩ := pre_iff.mp h1
    by_cases h2 : m = w
    · rw [if_pos h2, if_pos (by rw [h2])]
    · rw [if_neg h2, if_pos h1, if_neg]
      intro e
      rw [hr] at e
      have : r = [] := by
        rw [List.length_append] at e
        exact List.length_eq_zero_iff.mp (by omega)
      rw [this, List.append_nil] at hr
      exact h2 hr
  · rw [if_neg (fun h => h1 (spots_head.mp h)), if_neg (fun (e : m = w) => h1 (by rw [e]; exact pre_iff.mpr ⟨[], by simp⟩)), if_neg h1]
    have h3 : hasL w m = true := by
      rw [has_iff]
      cases e : spotsL m w with
      | nil => exact absurd e h0
      | cons k r => exact ⟨k, List.mem_cons_self⟩
    rw [if_pos h3]
    have key : (spotsL m w).filter (blankAt m) ≠ [] ↔ hasL (32 :: w) m = true := by
      rw [has_iff, List.ne_nil_iff_exists_mem']
      constructor
      · rintro ⟨k, hk⟩
        obtain ⟨hk, hb⟩ := List.mem_filter.mp hk
        obtain ⟨h4, h5⟩ := mem_spots.mp hk
        have hk0 : k ≠ 0 := fun e => h1 (by rw [e] at h5; exact h5)
        have hb : m[k - 1]? = some 32 := of_decide_eq_true hb
        obtain ⟨r, hr⟩ := pre_iff.mp h5
        obtain ⟨hl, hg⟩ := List.getElem?_eq_some_iff.mp hb
        refine ⟨k - 1, mem_spots.mpr ⟨by omega, pre_iff.mpr ⟨r, ?_⟩⟩⟩
        rw [List.drop_eq_getElem_cons hl, hg, show k - 1 + 1 = k by omega, hr]; rfl
      · rintro ⟨k, hk⟩
        obtain ⟨h4, h5⟩ := mem_spots.mp hk
        obtain ⟨r, hr⟩ := pre_iff.mp h5
        have : m.drop (k + 1) = w ++ r := by rw [← List.drop_drop, hr]; rfl
        have hl : k < m.length := by
          have := congrArg List.length hr
          simp at this; omega
        refine ⟨k + 1, List.mem_filter.mpr ⟨mem_spots.mpr ⟨by omega, pre_iff.mpr ⟨r, this⟩⟩, decide_eq_true ?_⟩⟩
        have := congrArg (fun x => x[0]?) hr
        simpa using this
    by_cases h4 : hasL (32 :: w) m = true
    · rw [if_pos (key.mpr h4), if_pos h4]
    · rw [if_neg (fun h => h4 (key.mp h)), if_neg h4]
end TA

set_option linter.all false
set_option maxRecDepth 100000
set_option maxHeartbeats 1000000
/-! Texts: what the functions promise. -/
namespace TA
open PySem L2 PyProof.Rows
open SX (S S_len S_inj S_cat S_tl split_S join_S lower_S upper_S)
local macro_rules | `(tactic| simp! [$as,*]) => `(tactic| first | simp only [L2.start, tSeq, tAsg, tOp, fFld, tVar, gIxL, gIxT, tCB, tCons, tNil, gLenL, gLenT, gLenS, rI, rI0, fSet, tIfS, tTest, tB, rNotN, rIsN, rEq, rNe, tC, tDrop, fBM, fBM0, gTy, rAppend, tTup, tLst, tRet, tRetN, tNext, gName, fTup, gCons, gNil, tCall, fCallS, fMeth, tMeth, fMethS, fMake, tMake, fMakeS, tUn, rU, tAnd, tOr, tNot, tAndV, tOrV, tNotV, tIf, tChain, gListL, gListT, tSl, tNoPart, tPart, gSlL, fRaise, gStrI, gCatS, gMin2, gMax2, gIntB, tYes, fLcL, fLcT, fLcS, fLcR1, fForL, fForR1, fForR2, fRev, fGetI, gGetI, gInI, gLenI, fPutI, fNewI,
  List.map_cons, List.map_nil, List.length_cons, List.length_nil, List.replicate, List.cons_append, List.nil_append, List.append_nil, List.getElem?_cons_zero, List.getElem?_cons_succ, List.set_cons_zero, List.set_cons_succ, reduceIte, Bool.not_true, Bool.not_false, Nat.reduceAdd, Nat.reduceSub, Bool.false_eq_true, eq_self,
  Option.some.injEq, V.int.injEq, V.ref.injEq, V.str.injEq, V.bl.injEq, HO.ins.injEq, HO.lst.injEq, HO.tup.injEq, HO.dK.injEq, List.cons.injEq, and_assoc, exists_eq_left', exists_and_left, and_true, true_and, true_or, or_true, false_or, or_false, exists_eq_left, exists_eq_right, exists_eq_right', exists_eq, exists_eq', exists_const, upd_same, sc_ii, sc_ss, sc_bb, sc_in, sc_ni, sc_ns, sc_sn, sc_nn, $as,*] | skip)
theorem lit_b : (" " : Str) = S [32] := by kernel_rfl
theorem lit_e : ("" : Str) = S [] := by kernel_rfl
theorem S_eq {a b : List Nat} : (S a = S b) = (a = b) := propext ⟨S_inj, fun e => by rw [e]⟩
theorem S_size (a : List Nat) : (S a).cps.size = a.length := by simp [S]
theorem S_list (a : List Nat) : (S a).cps.toList = a := rfl
abbrev bT (K : PySem.W.Frag) : Value := .ref (He.ga K "BadText")
abbrev bN (K : PySem.W.Frag) : Value := .ref (He.ga K "BadNumber")
abbrev bA (K : PySem.W.Frag) : Value := .ref (He.ga K "BadAsk")
def sp_look_text (K : PySem.W.Frag) : Sp := fun vs H Q E => ∃ (l : List Nat) (n : Nat), vs = [.str (S l), .int n] ∧ l.length ≤ 1000000 ∧ ∀ H', Same H H' → if okL n l = true then Q .non H' else E (bT K) none H'
def sp_folded (K : PySem.W.Frag) : Sp := fun vs H Q E => ∃ (l : List Nat), vs = [.str (S l)] ∧ l.length ≤ 1000000 ∧ ∀ H', Same H H' → if okL 20 l = true then Q (.str (S (foldL l))) H' else E (bT K) none H'
def oiV : Option Int → V
  | none => .non
  | some i => .int i
def sp_rank (K : PySem.W.Frag) : Sp := fun vs H Q E => ∃ (r q : List Nat), vs = [.str (S r), .str (S q)] ∧ r.length ≤ 1000000 ∧ q.length ≤ 1000000 ∧ ∀ H', Same H H' → if okL 12 q = true ∧ okL 20 r = true then Q (oiV (rankL r q)) H' else E (bT K) none H'
def sp__law_folded (K : PySem.W.Frag) : Sp := fun vs H Q E => ∃ (l : List Nat), vs = [.str (S l)] ∧ l.length ≤ 1000 ∧ l.all okC = true ∧ ∀ H', Same H H' → Q (.str (S (foldL l))) H'
def sp__law_rank (K : PySem.W.Frag) : Sp := fun vs H Q E => ∃ (r q : List Nat), vs = [.str (S r), .str (S q)] ∧ r.length ≤ 1000 ∧ r.all okC = true ∧ q.length ≤ 1000 ∧ q.all okC = true ∧ ∀ H', Same H H' → Q (oiV (rankL r q)) H'
def t_look_text (K : PySem.W.Frag) (E : XK) : TS := tIfS (tOr (tTest (tOp (rI0 fun i j => .bl (decide (j < i))) (tCB (gLenS) (tCons (tVar 0) (tNil))) (tVar 1))) (tNot (tB (tCB (gAll) (tCons (fLcS (tVar 0) (gName 2) (tYes) (tAndV (tChain (rI0 fun i j => .bl (decide (i ≤ j))) (rI0 fun i j => .bl (decide (i < j))) (tC (.int 32)) (tCB (gOrd) (tCons (tVar 2) (tNil))) (tC (.int 127))) (tOp (rNe) (tCB (gOrd) (tCons (tVar 2) (tNil))) (tC (.int 37)))) [2]) (tNil)))))) (fRaise (WD E) (He.ga K "BadText")) (tNext)
abbrev nn_look_text : List Str := ["text", "most", "sign"]
def t_folded (K : PySem.W.Frag) (E : XK) : TS := tSeq (tDrop (tCall (sp_look_text K) [] E (tCons (tVar 0) (tCons (tC (.int 20)) (tNil))))) (tRet (fBM "str" gJoin (tC (.str " ")) (tCons (fLcL (fBM "str" gSplit (fBM0 "str" gLower (tVar 0)) (tCons (tC (.str " ")) (tNil))) (gName 1) (tTest (tOp (rNe) (tVar 1) (tC (.str "")))) (tVar 1) [1]) (tNil))))
abbrev nn_folded : List Str := ["text", "word"]
def t_rank (K : PySem.W.Frag) (E : XK) : TS := tSeq (tDrop (tCall (sp_look_text K) [] E (tCons (tVar 1) (tCons (tC (.int 12)) (tNil))))) (tSeq (tAsg (tCall (sp_folded K) [] E (tCons (tVar 0) (tNil))) (gName 2)) (tSeq (tAsg (tCall (sp_folded K) [] E (tCons (tVar 1) (tNil))) (gName 3)) (tSeq (tIfS (tTest (tOp (rEq) (tVar 2) (tVar 3))) (tRet (tC (.int 0))) (tNext)) (tSeq (tIfS (tB (fBM "str" gStarts (tVar 2) (tCons (tVar 3) (tNil)))) (tRet (tC (.int 1))) (tNext)) (tSeq (tIfS (tTest (tOp (gInS) (tOp (gCatS) (tC (.str " ")) (tVar 3)) (tVar 2))) (tRet (tC (.int 2))) (tNext)) (tRet (tIf (tTest (tOp (gInS) (tVar 3) (tVar 2))) (tC (.int 3)) (tC .non))))))))
abbrev nn_rank : List Str := ["row", "query", "mine", "wanted"]
def t__law_folded (K : PySem.W.Frag) (E : XK) : TS := tSeq (tAsg (tC (.str "")) (gName 1)) (tSeq (fForS (tVar 0) (gName 2) (tIfS (tTest (tOp (rNe) (tVar 2) (tC (.str " ")))) (tAsg (tOp (gCatS) (tVar 1) (fBM0 "str" gLower (tVar 2))) (gName 1)) (tIfS (tAnd (tTest (tOp (rNe) (tVar 1) (tC (.str "")))) (tTest (tOp (rNe) (tOp rIxS (tVar 1) (tUn (rU fun i => .int (-i)) (tC (.int 1)))) (tC (.str " "))))) (tAsg (tOp (gCatS) (tVar 1) (tC (.str " "))) (gName 1)) (tNext)))) (tRet (tIf (tTest (tOp (rEq) (tSl rSlS (tVar 1) (tPart (tUn (rU fun i => .int (-i)) (tC (.int 1)))) (tNoPart)) (tC (.str " ")))) (tSl rSlS (tVar 1) (tNoPart) (tPart (tUn (rU fun i => .int (-i)) (tC (.int 1))))) (tVar 1))))
abbrev nn__law_folded : List Str := ["text", "found", "sign"]
def t__law_rank (K : PySem.W.Frag) (E : XK) : TS := tSeq (tAsg (tCall (sp__law_folded K) [] E (tCons (tVar 0) (tNil))) (gName 2)) (tSeq (tAsg (tCall (sp__law_folded K) [] E (tCons (tVar 1) (tNil))) (gName 3)) (tSeq (tAsg (fLcR1 (tCons (tOp (rI0 fun i j => .int (i + j)) (tCB (gLenS) (tCons (tVar 2) (tNil))) (tC (.int 1))) (tNil)) (gName 5) (tTest (tOp (rEq) (tSl rSlS (tVar 2) (tPart (tVar 5)) (tPart (tOp (rI0 fun i j => .int (i + j)) (tVar 5) (tCB (gLenS) (tCons (tVar 3) (tNil)))))) (tVar 3))) (tVar 5) [5]) (gName 4)) (tSeq (tIfS (tTest (tOp (gEqD) (tVar 4) (tLst (tNil)))) (tRet (tC .non)) (tNext)) (tSeq (tIfS (tTest (tOp (rEq) (tOp gIxL (tVar 4) (tC (.int 0))) (tC (.int 0)))) (tRet (tIf (tTest (tOp (rEq) (tCB (gLenS) (tCons (tVar 2) (tNil))) (tCB (gLenS) (tCons (tVar 3) (tNil))))) (tC (.int 0)) (tC (.int 1)))) (tNext)) (tRet (tIf (tTest (tOp (gNeD) (fLcL (tVar 4) (gName 5) (tTest (tOp (rEq) (tOp rIxS (tVar 2) (tOp (rI0 fun i j => .int (i - j)) (tVar 5) (tC (.int 1)))) (tC (.str " ")))) (tVar 5) [5]) (tLst (tNil)))) (tC (.int 2)) (tC (.int 3))))))))
abbrev nn__law_rank : List Str := ["row", "query", "mine", "wanted", "spots", "k"]
section
variable {K : PySem.W.Frag}
theorem len_look_text : ∀ vs H Q E, sp_look_text K vs H Q E → vs.length = ["text", "most"].length := by
  rintro _ _ _ _ ⟨l, n, rfl, _⟩; rfl
theorem len_folded : ∀ vs H Q E, sp_folded K vs H Q E → vs.length = ["text"].length := by
  rintro _ _ _ _ ⟨l, rfl, _⟩; rfl
theorem len_rank : ∀ vs H Q E, sp_rank K vs H Q E → vs.length = ["row", "query"].length := by
  rintro _ _ _ _ ⟨r, q, rfl, _⟩; rfl
theorem len__law_folded : ∀ vs H Q E, sp__law_folded K vs H Q E → vs.length = ["text"].length := by
  rintro _ _ _ _ ⟨l, rfl, _⟩; rfl
theorem len__law_rank : ∀ vs H Q E, sp__law_rank K vs H Q E → vs.length = ["row", "query"].length := by
  rintro _ _ _ _ ⟨r, q, rfl, _⟩; rfl
theorem ord1 (c : Nat) : (S [c]).cps.getD 0 0 = c := rfl
theorem ordA (c : Nat) : (#[c] : Array Nat).getD 0 0 = c := rfl
theorem len1S (c : Nat) : (S [c]).length = 1 := rfl
theorem fm_range {β : Type} {l : List Nat} {f : Nat → Option β} {g : Nat → Option β} (h : ∀ i c, l[i]? = some c → f i = g c) : (List.range l.length).filterMap f = l.filterMap g := by
  induction l generalizing f with
  | nil => rfl
  | cons c l ih =>
    rw [List.length_cons, List.range_succ_eq_map, List.filterMap_cons, List.filterMap_cons, h 0 c rfl, List.filterMap_map, ih (f := f ∘ Nat.succ) fun i c hc => h (i + 1) c (by simpa using hc)]
theorem pure_look_text : ∀ vs H Q E, sp_look_text K vs H Q E → t_look_text K E { nx := fun _ H2 => Q .non H2, rt := Q } (L2.start nn_look_text vs) H := by
  rintro vs H Q E ⟨l, n, rfl, hl, hQ⟩
  unfold t_look_text
  simp! [S_len]
  have := line_big
  refine ⟨by omega, ?_⟩
  by_cases h1 : (n : Int) < l.length
  · refine ite_t h1 ?_
    have := hQ H (Same.refl H)
    rw [if_neg (by unfold okL; rw [decide_eq_false (by omega)]; simp)] at this
    exact this
  · refine ite_f h1 ?_
    refine comp_pure (fun i => (l[i]?).map fun c => V.bl (okC c)) (W.start H) (by rw [S_size]; exact hl) (fun _ _ _ _ => trivial) ?_ ?_
    · rintro D i x acc H' T F hi ⟨c, hc, rfl⟩ w' kT kF
      have hc : l[i]? = some c := hc
      simp! [wipe, gOrd, len1S, ordA]
      have out : ∀ b, b = okC c → T (V.bl b) H' := fun b e => kT _ H' (by rw [hc, e]; rfl) w'
      by_cases a : 32 ≤ c
      · refine ite_t (by omega) ?_
        by_cases b : c < 127
        · refine ite_t (by omega) (out _ ?_)
          unfold okC
          rw [decide_eq_true a, decide_eq_true b, Bool.true_and, Bool.true_and]
          exact congrArg not (decide_eq_decide.mpr (show (c : Int) = 37 ↔ c = 37 by omega))
        · refine ite_f (by omega) (out _ ?_)
          unfold okC
          rw [decide_eq_true a, decide_eq_false b]; rfl
      · refine ite_f (by omega) ?_
        refine out _ ?_
        unfold okC
        rw [decide_eq_false a]; rfl
    · intro D H' w'
      rw [S_size, fm_range (g := fun c => some (V.bl (okC c))) (fun i c hc => by rw [hc]; rfl), show (fun c => some (V.bl (okC c))) = (fun c => some ((V.bl ∘ okC) c)) from rfl, List.filterMap_eq_map'] at w'
      have hD := w'.has.1
      refine ⟨_, l.map okC, rfl, by rw [hD, List.map_map], ?_⟩
      have := hQ H' w'.sub
      have e : okL n l = l.all okC := by unfold okL; rw [decide_eq_true (by omega)]; rfl
      rw [e] at this
      have e2 : (l.map okC).all id = l.all okC := by rw [List.all_map]; rfl
      rw [e2]
      cases hb : l.all okC with
      | true => rw [hb, if_pos rfl] at this; simpa using this
      | false => rw [hb, if_neg (by decide)] at this; simpa [fRaise] using this
theorem all_lt {l : List Nat} (h : l.all okC = true) : l.all (· < 128) = true := by
  rw [List.all_eq_true] at h ⊢
  intro c hc
  have := h c hc
  unfold okC at this
  simp at this ⊢
  omega
theorem okL_all {n : Nat} {l : List Nat} (h : okL n l = true) : l.all okC = true := by
  unfold okL at h; rw [Bool.and_eq_true] at h; exact h.2
theorem okL_len {n : Nat} {l : List Nat} (h : okL n l = true) : l.length ≤ n := by
  unfold okL at h; rw [Bool.and_eq_true] at h; exact of_decide_eq_true h.1
/-- how the parts of a text add up -/
theorem spl_sum : ∀ (l acc : List Nat), ((TL.spl [32] 0 acc l).map List.length).sum + (TL.spl [32] 0 acc l).length = acc.length + l.length + 1
  | [], acc => by rw [TL.spl_nil]; simp
  | c :: l, acc => by
    by_cases h : c = 32
    · rw [TL.spl_hit (by rw [pre1]; simpa using h)]
      have := spl_sum l []
      simp at this ⊢; omega
    · rw [TL.spl_miss (by rw [pre1]; simpa using h)]
      have := spl_sum l (acc ++ [c])
      simp at this ⊢; omega
theorem filter_sum : ∀ (l : List (List Nat)), ((l.filter nonE).map List.length).sum ≤ (l.map List.length).sum
  | [] => Nat.le_refl _
  | x :: l => by
    rw [List.filter_cons]
    have := filter_sum l
    split <;> simp <;> omega
theorem pure_folded : ∀ vs H Q E, sp_folded K vs H Q E → t_folded K E { nx := fun _ H2 => Q .non H2, rt := Q } (L2.start nn_folded vs) H := by
  rintro vs H Q E ⟨l, rfl, hl, hQ⟩
  unfold t_folded
  simp! [and_true]
  refine ⟨l, 20, rfl, hl, fun H1 s1 => ?_⟩
  by_cases h1 : okL 20 l = true
  · rw [if_pos h1]
    have hl2 := okL_len h1
    have ha := all_lt (okL_all h1)
    have := line_big
    simp! [gLower, gSplit, gJoin, lit_b, lit_e, S_len, lower_S ha, List.length_map]
    refine ⟨by omega, by decide, by omega, fun p hp => ?_⟩
    have w1 := (W.start H1).newI (o := .lst ((Txt.split (S (l.map lo1)) (S [32])).map V.str)) hp
    have e := split_S (a := l.map lo1) (b := [32]) (by simp) (by decide)
    rw [e] at w1 ⊢
    have hsum := spl_sum (l.map lo1) []
    have hfs := filter_sum (TL.spl [32] 0 [] (l.map lo1))
    unfold foldL at hQ
    generalize hpp : TL.spl [32] 0 [] (l.map lo1) = parts at hsum hfs w1 hQ ⊢
    simp at hsum
    refine comp_pure (fun i => (parts[i]?).bind fun c => if nonE c = true then some (V.str (S c)) else none) w1 (by simp; omega) (fun _ _ _ w' => w'.sub _ _ upd_same) ?_ ?_
    · rintro D i x acc H' T F hi hx w' kT kF
      simp only [List.getElem?_map, Option.map_map, Option.map_eq_some_iff] at hx
      obtain ⟨c, hc, rfl⟩ := hx
      simp! [wipe, Function.comp, S_eq]
      cases c with
      | nil => rw [if_neg (by decide)]; exact kF _ (by rw [hc]; rfl) w'
      | cons x c => rw [if_pos (by simp)]; exact kT _ _ (by rw [hc]; rfl) w'
    · intro D H' w'
      have e2 : (List.range (parts.map S).length).filterMap (fun i => (parts[i]?).bind fun c => if nonE c = true then some (V.str (S c)) else none) = ((parts.filter nonE).map S).map V.str := by
        rw [List.length_map]
        clear hsum hfs w1 w' hQ e hpp
        have : ∀ (ps : List (List Nat)) (f : Nat → Option V), (∀ i, f i = (ps[i]?).bind fun c => if nonE c = true then some (V.str (S c)) else none) → (List.range ps.length).filterMap f = ((ps.filter nonE).map S).map V.str := by
          intro ps
          induction ps with
          | nil => intro f hf; rfl
          | cons p ps ih =>
            intro f hf
            rw [List.length_cons, List.range_succ_eq_map, List.filterMap_cons, List.filterMap_map, ih (f ∘ Nat.succ) (fun i => by simp [hf]), hf 0, List.filter_cons]
            by_cases hp : nonE p = true <;> simp [hp]
        exact this parts _ fun i => rfl
      rw [e2] at w'
      have hD := w'.has.1
      refine ⟨_, rfl, (parts.filter nonE).map S, hD, ?_, ?_⟩
      · rw [SX.lens]
        have := List.length_filter_le nonE parts
        have e3 : (List.map (fun x => x.length) (parts.filter nonE)).sum = ((parts.filter nonE).map List.length).sum := rfl
        rw [e3, List.length_map]; omega
      · rw [join_S]
        have := hQ H' (Same.trans s1 (Same.trans (fun b o h => (Sub.new hp) b o h) w'.sub))
        rw [if_pos h1] at this
        exact this
  · rw [if_neg h1]
    have := hQ H1 s1
    rw [if_neg h1] at this
    exact this
theorem subAt_pre (m w : List Nat) (i : Nat) : Builtin.Str.subAt (S m) (S w) i = TL.pre w (m.drop i) := by
  rw [StrLaws.subAt_eq, S_len]; rfl
theorem pre_len {w l : List Nat} (h : TL.pre w l = true) : w.length ≤ l.length := by
  obtain ⟨r, rfl⟩ := pre_iff.mp h; simp
theorem starts_S (m w : List Nat) : Txt.startswith (S m) (S w) = TL.pre w m := by
  rw [Bool.eq_iff_iff]
  unfold Txt.startswith
  rw [Bool.and_eq_true, decide_eq_true_eq, subAt_pre, List.drop_zero, S_len, S_len, Nat.zero_add]
  exact ⟨fun h => h.2, fun h => ⟨pre_len h, h⟩⟩
theorem in_S (m w : List Nat) : (!(Builtin.Str.occurrences (S m) (S w) 0 m.length 1).isEmpty) = hasL w m := by
  have e := StrLaws.found_iff (S m) (S w)
  rw [S_len, S_len] at e
  rw [Bool.eq_iff_iff, e, has_iff]
  constructor
  · rintro ⟨i, h1, h2⟩; rw [subAt_pre] at h2; exact ⟨i, mem_spots.mpr ⟨by omega, h2⟩⟩
  · rintro ⟨i, h⟩
    obtain ⟨h1, h2⟩ := mem_spots.mp h
    refine ⟨i, ?_, by rw [subAt_pre]; exact h2⟩
    have := pre_len h2
    rw [List.length_drop] at this; omega
theorem pure_rank : ∀ vs H Q E, sp_rank K vs H Q E → t_rank K E { nx := fun _ H2 => Q .non H2, rt := Q } (L2.start nn_rank vs) H := by
  rintro vs H Q E ⟨r, q, rfl, hr, hq, hQ⟩
  unfold t_rank
  simp! [and_true]
  refine ⟨q, 12, rfl, hq, fun H1 s1 => ?_⟩
  by_cases h1 : okL 12 q = true
  · rw [if_pos h1]
    refine ⟨r, rfl, hr, fun H2 s2 => ?_⟩
    by_cases h2 : okL 20 r = true
    · rw [if_pos h2]
      refine ⟨q, rfl, hq, fun H3 s3 => ?_⟩
      have h3 : okL 20 q = true := by
        unfold okL at h1 ⊢
        rw [Bool.and_eq_true] at h1 ⊢
        exact ⟨decide_eq_true (by have := of_decide_eq_true h1.1; omega), h1.2⟩
      rw [if_pos h3]
      have := hQ H3 (s1.trans (s2.trans s3))
      rw [if_pos ⟨h1, h2⟩] at this
      unfold rankL rankM at this
      generalize hm : foldL r = m at this ⊢
      generalize hw : foldL q = w at this ⊢
      simp! [S_eq, gStarts, gInS, starts_S, lit_b, S_cat, in_S, S_len]
      have hb := line_big
      have hwl := fold_len q
      rw [hw] at hwl
      by_cases c1 : m = w
      · rw [if_pos c1] at this; exact ite_t c1 this
      rw [if_neg c1] at this
      refine ite_f c1 ?_
      by_cases c2 : TL.pre w m = true
      · rw [if_pos c2] at this; rw [if_pos c2]; exact this
      rw [if_neg c2] at this; rw [if_neg c2]
      refine ⟨by omega, ?_⟩
      by_cases c3 : hasL (32 :: w) m = true
      · rw [if_pos c3] at this; rw [if_pos c3]; exact this
      rw [if_neg c3] at this; rw [if_neg c3]
      by_cases c4 : hasL w m = true
      · rw [if_pos c4] at this; rw [if_pos c4]; exact this
      rw [if_neg c4] at this; rw [if_neg c4]; exact this
    · rw [if_neg h2]
      have := hQ H2 (s1.trans s2)
      rw [if_neg (fun h => h2 h.2)] at this
      exact this
  · rw [if_neg h1]
    have := hQ H1 s1
    rw [if_neg (fun h => h1 h.1)] at this
    exact this
theorem cut_lo (z : List Nat) : cutS (S z) (some (-1)) none = S (z.drop (z.length - 1)) := by
  unfold cutS
  have e : (-1 + (z.length : Int)).toNat = z.length - 1 := by omega
  simp [S_len, HT.sIx, e]
  rw [List.take_of_length_le (by simp)]
theorem cut_hi (z : List Nat) : cutS (S z) none (some (-1)) = S z.dropLast := by
  unfold cutS
  have e : (-1 + (z.length : Int)).toNat = z.length - 1 := by omega
  simp [S_len, HT.sIx, e, List.dropLast_eq_take]
theorem last_at {z : List Nat} {c : Nat} (h : z.getLast? = some c) : atI z (-1) = some c := by
  rw [List.getLast?_eq_getElem?] at h
  obtain ⟨hl, _⟩ := List.getElem?_eq_some_iff.mp h
  unfold atI ixN
  rw [if_neg (by decide), if_pos (by omega)]
  show z[(-1 + (z.length : Int)).toNat]? = some c
  rw [show (-1 + (z.length : Int)).toNat = z.length - 1 by omega]; exact h
theorem drop_last {z : List Nat} : z.drop (z.length - 1) = z.getLast?.toList := by
  cases h : z.getLast? with
  | none => rw [List.getLast?_eq_none_iff.mp h]; rfl
  | some c =>
    obtain ⟨y, rfl⟩ := List.getLast?_eq_some_iff.mp h
    simp
theorem pure__law_folded : ∀ vs H Q E, sp__law_folded K vs H Q E → t__law_folded K E { nx := fun _ H2 => Q .non H2, rt := Q } (L2.start nn__law_folded vs) H := by
  rintro vs H Q E ⟨l, rfl, hl, ha, hQ⟩
  have hb := line_big
  unfold t__law_folded
  simp! [fForS, lit_b, lit_e, S_eq]
  refine ⟨fun i σ H' => H' = H ∧ ∃ v, σ = [some (.str (S l)), some (.str (S ((l.take i).foldl stepL []))), v], ⟨rfl, none, rfl⟩, ?_, ?_⟩
  · rintro i c σ H' hi ⟨rfl, v, rfl⟩
    have hi : l[i]? = some c := hi
    have hc : okC c = true := List.all_eq_true.mp ha c (List.mem_of_getElem? hi)
    have hlen := @foldl_len (l.take i) []
    have hlow := lower_S (a := [c]) (all_lt (by simpa using hc))
    have htk : ((l.take (i + 1)).foldl stepL []) = stepL ((l.take i).foldl stepL []) c := by
      rw [take_succ_get hi, List.foldl_append]; rfl
    simp only [htk]
    generalize (l.take i).foldl stepL [] = acc at hlen ⊢
    simp! [gLower, hlow, S_cat, S_len, S_eq]
    have hlen : acc.length ≤ 1000 := by simp at hlen; omega
    by_cases c1 : c = 32
    · refine ite_nt c1 ?_
      by_cases c2 : acc = []
      · refine ite_nt c2 ?_
        unfold stepL
        rw [if_neg (by simpa using c1), if_neg (fun h => h.1 c2)]
      · refine ite_nf c2 ?_
        obtain ⟨d, hd⟩ : ∃ d, acc.getLast? = some d := by
          cases h : acc.getLast? with
          | none => exact absurd (List.getLast?_eq_none_iff.mp h) c2
          | some d => exact ⟨d, rfl⟩
        refine ⟨_, _, d, rfl, rfl, by rw [S_len]; omega, last_at hd, rfl, ?_⟩
        simp! [S_eq]
        by_cases c3 : d = 32
        · refine ite_nt c3 ?_
          unfold stepL
          rw [if_neg (by simpa using c1), if_neg (fun h => h.2 (by rw [hd, c3]))]
        · refine ite_nf c3 ⟨by omega, ?_⟩
          unfold stepL
          rw [if_neg (by simpa using c1), if_pos ⟨c2, fun h => c3 (by rw [hd] at h; exact Option.some.inj h)⟩]
    · refine ite_nf c1 ⟨by decide, by omega, ?_⟩
      unfold stepL
      rw [if_pos c1]
  · rintro σ H' ⟨rfl, v, rfl⟩
    have e : l.take (S l).cps.size = l := by rw [S_size, List.take_length]
    rw [e]
    have hf := fold_eq l
    have hlen := @foldl_len l []
    generalize l.foldl stepL [] = acc at hf hlen ⊢
    simp! [rSlS, cut_lo, cut_hi, S_len, S_eq, drop_last]
    have hlen : acc.length ≤ 1000 := by simp at hlen; omega
    refine ⟨by omega, ?_⟩
    unfold finL at hf
    by_cases c1 : acc.getLast? = some 32
    · rw [if_pos c1] at hf
      refine ite_t (by rw [c1]; rfl) ⟨by omega, ?_⟩
      rw [hf]; exact hQ _ (Same.refl _)
    · rw [if_neg c1] at hf
      refine ite_f ?_ ?_
      · intro h
        apply c1
        cases h2 : acc.getLast? with
        | none => rw [h2] at h; simp at h
        | some d => rw [h2] at h; simp at h; rw [h]
      · rw [hf]; exact hQ _ (Same.refl _)
theorem cut_mid (m : List Nat) (k n : Nat) (h : k ≤ m.length) : cutS (S m) (some (k : Int)) (some ((k : Int) + (n : Int))) = S ((m.drop k).take n) := by
  unfold cutS
  have e1 : HT.sIx (S m).length 0 (some (k : Int)) = k := by rw [S_len]; unfold HT.sIx; simp only []; rw [if_neg (by omega)]; omega
  have e2 : HT.sIx (S m).length (S m).length (some ((k : Int) + (n : Int))) = min (k + n) m.length := by rw [S_len]; unfold HT.sIx; simp only []; rw [if_neg (by omega)]; omega
  rw [e1, e2]
  have : (List.take (min (k + n) m.length - k) (m.drop k)) = (m.drop k).take n := by
    by_cases h : k + n ≤ m.length
    · rw [Nat.min_eq_left h, Nat.add_sub_cancel_left]
    · rw [Nat.min_eq_right (by omega), List.take_of_length_le (by simp), List.take_of_length_le (by simp; omega)]
  exact congrArg S this
theorem cut_to (m : List Nat) (n : Nat) : cutS (S m) none (some (n : Int)) = S (m.take n) := by
  unfold cutS
  have e2 : HT.sIx (S m).length (S m).length (some (n : Int)) = min n m.length := by rw [S_len]; unfold HT.sIx; simp only []; rw [if_neg (by omega)]; omega
  rw [e2]
  show S ((m.drop 0).take (min n m.length - 0)) = _
  rw [List.drop_zero, Nat.sub_zero]
  by_cases h : n ≤ m.length
  · rw [Nat.min_eq_left h]
  · rw [Nat.min_eq_right (by omega), List.take_of_length_le (by simp), List.take_of_length_le (by omega)]
theorem at0 {α : Type} {x : α} {l : List α} : atI (x :: l) 0 = some x := by unfold atI ixN; simp
theorem pure__law_rank : ∀ vs H Q E, sp__law_rank K vs H Q E → t__law_rank K E { nx := fun _ H2 => Q .non H2, rt := Q } (L2.start nn__law_rank vs) H := by
  rintro vs H Q E ⟨r, q, rfl, hr, ar, hq, aq, hQ⟩
  have hb := line_big
  unfold t__law_rank
  simp! [and_true]
  refine ⟨r, rfl, hr, ar, fun H1 s1 => ⟨q, rfl, hq, aq, fun H2 s2 => ?_⟩⟩
  have h1 := fold_len r
  have h2 := fold_len q
  unfold rankL at hQ
  generalize foldL r = m at hQ h1 ⊢
  generalize foldL q = w at hQ h2 ⊢
  rw [← rank_eq] at hQ
  simp! [S_len]
  refine ⟨by omega, by omega, by omega, ?_⟩
  refine comp_pure (fun k => if TL.pre w (m.drop k) = true then some (V.int k) else none) (W.start H2) (by omega) (fun _ _ _ _ => trivial) ?_ ?_
  · rintro D k x acc H' T F hi rfl w' kT kF
    simp! [wipe, rSlS, S_len]
    have e := cut_mid m k w.length (by omega)
    refine ⟨by omega, by omega, ?_⟩
    rw [e]
    simp only [S_eq]
    by_cases c : (m.drop k).take w.length = w
    · refine ite_t c (kT _ _ ?_ w')
      rw [if_pos (by unfold TL.pre; rw [c]; simp)]
    · refine ite_f c (kF _ ?_ w')
      rw [if_neg (by unfold TL.pre; simpa using c)]
  · intro D H' w'
    have e : (List.range ((m.length : Int) + 1).toNat).filterMap (fun k => if TL.pre w (m.drop k) = true then some (V.int k) else none) = ((spotsL m w).map fun (k : Nat) => (k : Int)).map V.int := by
      unfold spotsL
      rw [show ((m.length : Int) + 1).toNat = m.length + 1 by omega, List.map_map]
      generalize List.range (m.length + 1) = ks
      induction ks with
      | nil => rfl
      | cons k ks ih =>
        rw [List.filterMap_cons, List.filter_cons]
        by_cases c : TL.pre w (m.drop k) = true <;> simp [c, ih]
    rw [e] at w'
    have sps : ∀ k ∈ spotsL m w, k ≤ m.length ∧ (k = 0 → (spotsL m w).head? = some 0) := fun k hk => by
      obtain ⟨h3, h4⟩ := mem_spots.mp hk
      exact ⟨h3, fun z => spots_head.mpr (by rw [z] at h4; exact h4)⟩
    unfold rankS at hQ
    generalize hsp : spotsL m w = sp at w' hQ sps
    refine ⟨Nat.zero_le _, fun p hp => ?_⟩
    have w2 := w'.newI (o := .lst []) hp
    have hp2 : (upd H' p (.lst [])) p = some (.lst []) := upd_same
    generalize upd H' p (.lst []) = H3 at w2 hp2 ⊢
    have hD := w2.has.1
    have sm : Same H H3 := s1.trans (s2.trans (Same.trans (fun b o h => Sub.new (w'.noI hp) b o h) w2.sub))
    refine eqD_nil hD (rpAll_ints _) hp2 ?_
    cases sp with
    | nil =>
      simp! [List.isEmpty_nil]
      exact hQ _ sm
    | cons k0 sp =>
      simp! [List.isEmpty_cons, hD]
      refine ⟨V.int k0, at0, rfl, ?_⟩
      rw [if_neg (by simp)] at hQ
      by_cases c : k0 = 0
      · subst c
        rw [if_pos (show (0 :: sp).head? = some 0 from rfl)] at hQ
        refine ite_t rfl ⟨by omega, by omega, ?_⟩
        by_cases c2 : m.length = w.length
        · rw [if_pos c2] at hQ; exact ite_t (by omega) (hQ _ sm)
        · rw [if_neg c2] at hQ; exact ite_f (by omega) (hQ _ sm)
      · rw [if_neg (by simpa using c)] at hQ
        refine ite_f (by simpa using c) ?_
        have hlen : (k0 :: sp).length ≤ m.length + 1 := by
          rw [← hsp]; unfold spotsL
          exact Nat.le_trans (List.length_filter_le _ _) (by simp)
        have nz : ∀ k ∈ k0 :: sp, 1 ≤ k ∧ k ≤ m.length := fun k hk => ⟨by
          have := (sps k hk).2
          rcases Nat.eq_zero_or_pos k with z | z
          · have := this z; simp at this; exact absurd this c
          · exact z, (sps k hk).1⟩
        have e5 : V.int (k0 : Int) :: ((sp.map fun (k : Nat) => (k : Int)).map V.int) = (k0 :: sp).map fun (k : Nat) => V.int k := by simp
        have e7 : ((sp.map fun (k : Nat) => (k : Int)).map V.int).length + 1 = (k0 :: sp).length := by simp
        rw [e5, e7]
        have hD' : H3 D = some (.lst ((k0 :: sp).map fun (k : Nat) => V.int k)) := by rw [hD, ← e5]; rfl
        generalize hks : k0 :: sp = ks at hQ hlen nz hD' ⊢
        refine comp_pure (fun i => (ks[i]?).bind fun k => if blankAt m k = true then some (V.int k) else none) w2 (by omega) (fun _ _ _ w' => by rw [w'.has.2.1, ← hks]; simp) ?_ ?_
        · rintro D2 i x acc H' T F hi hx w' kT kF
          rw [List.getElem?_map, Option.map_eq_some_iff] at hx
          obtain ⟨k, hk, rfl⟩ := hx
          obtain ⟨k1, k2⟩ := nz k (List.mem_of_getElem? hk)
          have hg : m[k - 1]? = some (m[k - 1]'(by omega)) := List.getElem?_eq_getElem (by omega)
          simp! [wipe]
          refine ⟨_, _, m[k - 1]'(by omega), rfl, rfl, by rw [S_len]; omega, ?_, rfl, ?_⟩
          · unfold atI ixN
            rw [if_pos (by omega), if_pos (show ((k : Int) - 1) < ((S m).cps.toList.length : Nat) from by show _ < ((m.length : Nat) : Int); omega)]
            show m[((k : Int) - 1).toNat]? = _
            rw [show ((k : Int) - 1).toNat = k - 1 by omega]; exact hg
          · simp! [lit_b, S_eq]
            by_cases c3 : m[k - 1]'(by omega) = 32
            · refine ite_t c3 (kT _ _ ?_ w')
              rw [hk]; show (if blankAt m k = true then _ else _) = _
              rw [if_pos (by unfold blankAt; rw [hg, c3]; rfl)]
            · refine ite_f c3 (kF _ ?_ w')
              rw [hk]; show (if blankAt m k = true then _ else _) = _
              rw [if_neg (by unfold blankAt; rw [hg]; simpa using c3)]
        · intro D2 H4 w4
          have e6 : (List.range ks.length).filterMap (fun i => (ks[i]?).bind fun k => if blankAt m k = true then some (V.int k) else none) = ((ks.filter (blankAt m)).map fun (k : Nat) => (k : Int)).map V.int := by
            rw [fm_range (g := fun k => if blankAt m k = true then some (V.int k) else none) (fun i c h => by rw [h]; rfl), List.map_map]
            clear w4 hD' nz hlen hQ hks
            induction ks with
            | nil => rfl
            | cons k ks ih =>
              rw [List.filterMap_cons, List.filter_cons]
              by_cases c : blankAt m k = true <;> simp [c, ih]
          rw [e6] at w4
          refine ⟨Nat.zero_le _, fun p2 hp2 => ?_⟩
          have w5 := w4.newI (o := .lst []) hp2
          have hp3 : (upd H4 p2 (.lst [])) p2 = some (.lst []) := upd_same
          generalize upd H4 p2 (.lst []) = H5 at w5 hp3 ⊢
          have sm5 : Same H H5 := s1.trans (s2.trans (Same.trans (Same.trans (fun b o h => Sub.new (w'.noI hp) b o h) (fun b o h => Sub.new (w4.noI hp2) b o h)) w5.sub))
          refine neD_nil w5.has.1 (rpAll_ints _) hp3 ?_
          cases hfl : ks.filter (blankAt m) with
          | nil =>
            rw [hfl, if_neg (by simp)] at hQ
            simp! [List.isEmpty_nil]
            exact hQ _ sm5
          | cons a b =>
            rw [hfl, if_pos (by simp)] at hQ
            simp! [List.isEmpty_cons]
            exact hQ _ sm5
end
end TA

set_option linter.all false
set_option maxRecDepth 100000
set_option maxHeartbeats 1000000
/-! Rows and queries drawn. -/
namespace TA
open PySem L2 PyProof.Rows
open SX (S S_len S_inj S_cat S_tl)
local macro_rules | `(tactic| simp! [$as,*]) => `(tactic| first | simp only [L2.start, tSeq, tAsg, tOp, fFld, tVar, gIxL, gIxT, tCB, tCons, tNil, gLenL, gLenT, gLenS, rI, rI0, fSet, tIfS, tTest, tB, rNotN, rIsN, rEq, rNe, tC, tDrop, fBM, fBM0, gTy, rAppend, tTup, tLst, tRet, tRetN, tNext, gName, fTup, gCons, gNil, tCall, fCallS, fMeth, tMeth, fMethS, fMake, tMake, fMakeS, tUn, rU, tAnd, tOr, tNot, tAndV, tOrV, tNotV, tIf, tChain, gListL, gListT, tSl, tNoPart, tPart, gSlL, fRaise, gStrI, gCatS, gMin2, gMax2, gIntB, tYes, fLcL, fLcT, fLcS, fLcR1, fForL, fForR1, fForR2, fRev, fGetI, gGetI, gInI, gLenI, fPutI, fNewI,
  List.map_cons, List.map_nil, List.length_cons, List.length_nil, List.replicate, List.cons_append, List.nil_append, List.append_nil, List.getElem?_cons_zero, List.getElem?_cons_succ, List.set_cons_zero, List.set_cons_succ, reduceIte, Bool.not_true, Bool.not_false, Nat.reduceAdd, Nat.reduceSub, Bool.false_eq_true, eq_self,
  Option.some.injEq, V.int.injEq, V.ref.injEq, V.str.injEq, V.bl.injEq, HO.ins.injEq, HO.lst.injEq, HO.tup.injEq, HO.dK.injEq, List.cons.injEq, and_assoc, exists_eq_left', exists_and_left, and_true, true_and, true_or, or_true, false_or, or_false, exists_eq_left, exists_eq_right, exists_eq_right', exists_eq, exists_eq', exists_const, upd_same, sc_ii, sc_ss, sc_bb, sc_in, sc_ni, sc_ns, sc_sn, sc_nn, $as,*] | skip)
def sp__law_row (K : PySem.W.Frag) : Sp := fun vs H Q _ => ∃ (I : Hp) (a t : Addr) (n : Nat) (M : List (Addr × HO)), vs = [.ref a, .ref t] ∧ Dr K I H a t n M ∧ n < 900000 ∧
  ∀ (l : List Nat) (H' : Hp), okL 15 l = true → Dr K I H' a t (n + 7) M → Q (.str (S l)) H'
def sp__law_query (K : PySem.W.Frag) : Sp := fun vs H Q _ => ∃ (I : Hp) (a t : Addr) (n : Nat) (M : List (Addr × HO)), vs = [.ref a, .ref t] ∧ Dr K I H a t n M ∧ n < 900000 ∧
  ∀ (l : List Nat) (H' : Hp), okL 8 l = true → Dr K I H' a t (n + 5) M → Q (.str (S l)) H'
def t__law_row (K : PySem.W.Frag) (E : XK) : TS := tSeq (tAsg (tC (.str "")) (gName 2)) (tSeq (fForR1 (tCons (tOp (rI0 fun i j => .int (i + j)) (tC (.int 1)) (tCall (sp__law_draw K) [] E (tCons (tVar 0) (tCons (tVar 1) (tCons (tC (.int 3)) (tNil)))))) (tNil)) (gName 3) (tSeq (tAsg (tOp (gCatS) (tVar 2) (tCall (sp__law_pick K) [] E (tCons (tVar 0) (tCons (tVar 1) (tCons (tLst (tCons (tC (.str "a")) (tCons (tC (.str "ab")) (tCons (tC (.str "Ab")) (tCons (tC (.str "b")) (tCons (tC (.str "abc")) (tCons (tC (.str "ba")) (tCons (tC (.str "c ")) (tNil))))))))) (tNil)))))) (gName 2)) (tAsg (tOp (gCatS) (tVar 2) (tCall (sp__law_pick K) [] E (tCons (tVar 0) (tCons (tVar 1) (tCons (tLst (tCons (tC (.str "")) (tCons (tC (.str " ")) (tCons (tC (.str "  ")) (tNil))))) (tNil)))))) (gName 2)))) (tRet (tVar 2)))
abbrev nn__law_row : List Str := ["script", "town", "found", "k"]
def t__law_query (K : PySem.W.Frag) (E : XK) : TS := tSeq (tAsg (tC (.str "")) (gName 2)) (tSeq (fForR1 (tCons (tCall (sp__law_draw K) [] E (tCons (tVar 0) (tCons (tVar 1) (tCons (tC (.int 5)) (tNil))))) (tNil)) (gName 3) (tAsg (tOp (gCatS) (tVar 2) (tCall (sp__law_pick K) [] E (tCons (tVar 0) (tCons (tVar 1) (tCons (tLst (tCons (tC (.str "a")) (tCons (tC (.str "b")) (tCons (tC (.str "A")) (tCons (tC (.str "ab")) (tCons (tC (.str " ")) (tCons (tC (.str "c")) (tNil)))))))) (tNil)))))) (gName 2))) (tRet (tVar 2)))
abbrev nn__law_query : List Str := ["script", "town", "found", "k"]
section
variable {K : PySem.W.Frag}
theorem len__law_row : ∀ vs H Q E, sp__law_row K vs H Q E → vs.length = ["script", "town"].length := by
  rintro _ _ _ _ ⟨_, _, _, _, _, rfl, _⟩; rfl
theorem len__law_query : ∀ vs H Q E, sp__law_query K vs H Q E → vs.length = ["script", "town"].length := by
  rintro _ _ _ _ ⟨_, _, _, _, _, rfl, _⟩; rfl
theorem okL_app {m n : Nat} {a b : List Nat} (h1 : okL m a = true) (h2 : okL n b = true) : okL (m + n) (a ++ b) = true := by
  unfold okL at *
  rw [Bool.and_eq_true] at *
  have := of_decide_eq_true h1.1
  have := of_decide_eq_true h2.1
  exact ⟨decide_eq_true (by simp; omega), by rw [List.all_append, h1.2, h2.2]; rfl⟩
theorem okL_le {m n : Nat} {a : List Nat} (h : okL m a = true) (hn : m ≤ n) : okL n a = true := by
  unfold okL at *
  rw [Bool.and_eq_true] at *
  exact ⟨decide_eq_true (Nat.le_trans (of_decide_eq_true h.1) hn), h.2⟩
/-- texts of a list of literals -/
theorem mem_texts {n : Nat} : ∀ {xs : List Str} {x : V}, (xs.all fun s => okL n s.cps.toList) = true → x ∈ xs.map V.str → ∃ l, x = .str (S l) ∧ okL n l = true := fun {xs x} h hx => by
  obtain ⟨s, hs, rfl⟩ := List.mem_map.mp hx
  exact ⟨s.cps.toList, by rw [S_tl], List.all_eq_true.mp h s hs⟩
structure PR (K : PySem.W.Frag) (I : Hp) (a t : Addr) (n : Nat) (M : List (Addr × HO)) (f g : Nat) (i : Nat) (σ : L2.St) (H : Hp) : Prop where
  ex : ∃ (l : List Nat) (v : Option V), σ = [some (.ref a), some (.ref t), some (.str (S l)), v] ∧ okL (f * i) l = true ∧ Dr K I H a t (n + 1 + g * i) M
theorem pure__law_row : ∀ vs H Q E, sp__law_row K vs H Q E → t__law_row K E { nx := fun _ H2 => Q .non H2, rt := Q } (L2.start nn__law_row vs) H := by
  rintro vs H Q E ⟨I, a, t, n, M, rfl, d, hn, hQ⟩
  have hb := line_big
  unfold t__law_row
  simp! [and_true]
  refine ⟨I, a, t, n, M, 3, rfl, d, by omega, by decide, fun j H1 j0 j1 d1 => ?_⟩
  refine ⟨_, rfl, by omega, by omega, PR K I a t n M 5 2, ⟨[], none, by rw [lit_e], rfl, d1.le (by omega)⟩, ?_, ?_⟩
  · rintro i σ H2 hi ⟨l, v, rfl, hl, d2⟩
    have l1 := okL_len hl
    simp! [and_true]
    refine ⟨by omega, fun p hp => ?_⟩
    have d3 := d2.newM (o := .lst ((["a", "ab", "Ab", "b", "abc", "ba", "c "] : List Str).map V.str)) hp
    refine ⟨I, a, t, p, _, _, _, rfl, d3, by omega, fun H' h => h.elim (fun d => d.has.1) (fun d => d.has.1), by simp, fun x H3 hx d4 => ?_⟩
    obtain ⟨l2, rfl, ok2⟩ := mem_texts (n := 3) (by decide +kernel) hx
    have l2' := okL_len ok2
    simp! [S_cat, S_len, List.length_append]
    refine ⟨by omega, by omega, fun p2 hp2 => ?_⟩
    have d5 := d4.drop.newM (o := .lst ((["", " ", "  "] : List Str).map V.str)) hp2
    refine ⟨I, a, t, p2, _, _, _, rfl, d5, by omega, fun H' h => h.elim (fun d => d.has.1) (fun d => d.has.1), by simp, fun x H4 hx d6 => ?_⟩
    obtain ⟨l3, rfl, ok3⟩ := mem_texts (n := 2) (by decide +kernel) hx
    have l3' := okL_len ok3
    simp! [S_cat, S_len, List.length_append]
    exact ⟨by omega, ⟨_, _, rfl, okL_le (okL_app (okL_app hl ok2) ok3) (by omega), d6.drop.le (by omega)⟩⟩
  · rintro σ H2 ⟨l, v, rfl, hl, d2⟩
    simp! [and_true]
    exact hQ l H2 (okL_le hl (by omega)) (d2.le (by omega))
theorem pure__law_query : ∀ vs H Q E, sp__law_query K vs H Q E → t__law_query K E { nx := fun _ H2 => Q .non H2, rt := Q } (L2.start nn__law_query vs) H := by
  rintro vs H Q E ⟨I, a, t, n, M, rfl, d, hn, hQ⟩
  have hb := line_big
  unfold t__law_query
  simp! [and_true]
  refine ⟨I, a, t, n, M, 5, rfl, d, by omega, by decide, fun j H1 j0 j1 d1 => ?_⟩
  refine ⟨_, rfl, by omega, by omega, PR K I a t n M 2 1, ⟨[], none, by rw [lit_e], rfl, d1.le (by omega)⟩, ?_, ?_⟩
  · rintro i σ H2 hi ⟨l, v, rfl, hl, d2⟩
    have l1 := okL_len hl
    simp! [and_true]
    refine ⟨by omega, fun p hp => ?_⟩
    have d3 := d2.newM (o := .lst ((["a", "b", "A", "ab", " ", "c"] : List Str).map V.str)) hp
    refine ⟨I, a, t, p, _, _, _, rfl, d3, by omega, fun H' h => h.elim (fun d => d.has.1) (fun d => d.has.1), by simp, fun x H3 hx d4 => ?_⟩
    obtain ⟨l2, rfl, ok2⟩ := mem_texts (n := 2) (by decide +kernel) hx
    have l2' := okL_len ok2
    simp! [S_cat, S_len, List.length_append]
    exact ⟨by omega, ⟨_, _, rfl, okL_le (okL_app hl ok2) (by omega), d4.drop.le (by omega)⟩⟩
  · rintro σ H2 ⟨l, v, rfl, hl, d2⟩
    simp! [and_true]
    exact hQ l H2 (okL_le hl (by omega)) (d2.le (by omega))
end
end TA

set_option linter.all false
set_option maxRecDepth 100000
set_option maxHeartbeats 1000000
/-! Comprehensions that make data; the order of rows. -/
namespace TA
open PySem L2 PyProof.Rows
open SX (S S_len S_inj S_cat S_tl)
abbrev Tx := List Nat
abbrev sV (l : Tx) : V := .str (S l)
abbrev sD (l : Tx) : PyData := .str (S l)
/-- an object that stands, never to change or to change -/
def Ls (I : Hp) (M : List (Addr × HO)) (l : Addr) (o : HO) : Prop := I l = some o ∨ (l, o) ∈ M
section
variable {I I' H : Hp} {M : List (Addr × HO)} {l : Addr} {o : HO} {x : Addr × HO}
theorem Ls.at (h : Ls I M l o) (w : W I H M) : H l = some o := h.elim (fun h => w.sub _ _ h) fun h => has_mem w.has _ h
theorem Ls.mono (h : Ls I M l o) (s : Sub I I') : Ls I' M l o := h.elim (fun h => .inl (s _ _ h)) .inr
theorem Ls.cons (h : Ls I M l o) : Ls I (x :: M) l o := h.elim .inl fun h => .inr (List.mem_cons_of_mem _ h)
theorem W.mkI {p : Addr} (w : W I H M) (hp : H p = none) (o : HO) : ∃ I', Sub I I' ∧ W I' (upd H p o) M ∧ I' p = some o := ⟨upd I p o, Sub.new (w.noI hp), w.newI hp, upd_same⟩
theorem W.frz {p : Addr} (w : W I H ((p, o) :: M)) : ∃ I', Sub I I' ∧ W I' H M ∧ I' p = some o := ⟨upd I p o, Sub.new (w.out (p, o) List.mem_cons_self), w.freeze, upd_same⟩
theorem Ls.head : Ls I ((l, o) :: M) l o := .inr List.mem_cons_self
theorem Ls.i (h : I l = some o) : Ls I M l o := .inl h
end
theorem fm_list {α β : Type} {l : List α} {out : Nat → Option β} {g : α → Option β} (h : ∀ i a, l[i]? = some a → out i = g a) : (List.range l.length).filterMap out = l.filterMap g := by
  induction l generalizing out with
  | nil => rfl
  | cons c l ih =>
    rw [List.length_cons, List.range_succ_eq_map, List.filterMap_cons, List.filterMap_cons, h 0 c rfl, List.filterMap_map, ih (out := out ∘ Nat.succ) fun i c hc => h (i + 1) c (by simpa using hc)]
/-- a comprehension that makes data that never change -/
theorem comp_data {β : Type} {src : Hp → Prop} {n : Nat} {item : Nat → V → Prop} {g : TG} {tt : TT} {te : TE} {vs : List Nat} {σ : Sl} {H : Hp} {Q : VK} {I : Hp} {M : List (Addr × HO)} (e : β → PyData) (out : Nat → Option β) (w : W I H M) (hn : n ≤ 1000000)
    (hsrc : ∀ I' D acc H', Sub I I' → W I' H' ((D, .lst acc) :: M) → src H')
    (turn : ∀ D i x acc I' H' (T : VK) (F : Hp → Prop), i < n → item i x → Sub I I' → W I' H' ((D, .lst acc) :: M) → (∀ I2 H4 y b, out i = some b → Sub I' I2 → W I2 H4 ((D, .lst acc) :: M) → Rp I2 y (e b) → T y H4) →
      (∀ I2 H3, out i = none → Sub I' I2 → W I2 H3 ((D, .lst acc) :: M) → F H3) → g x (wipe σ vs) H' fun σ2 H2 => wipe σ2 vs = wipe σ vs ∧ tt σ2 H2 fun b H3 => if b = true then te σ2 H3 T else F H3)
    (fin : ∀ I' D H' (ys : List (V × β)), Sub I I' → W I' H' ((D, .lst (ys.map Prod.fst)) :: M) → Enc I' e ys → ys.map Prod.snd = (List.range n).filterMap out → Q (.ref D) H') : CompW src n item g tt te vs σ H Q := by
  refine ⟨I, M, fun i I' acc M' => M' = M ∧ ∃ ys : List (V × β), acc = ys.map Prod.fst ∧ Enc I' e ys ∧ ys.map Prod.snd = (List.range i).filterMap out, w, hn, ⟨rfl, [], rfl, Enc.nil, rfl⟩, ?_, ?_, ?_⟩
  · rintro i I' acc M' D H' ⟨rfl, _⟩ s w'
    exact hsrc I' D _ H' s w'
  · rintro D i x H' I' acc M' hi hx s w' ⟨rfl, ys, rfl, en, es⟩ _
    refine turn D i x _ I' H' _ _ hi hx s w' (fun I2 H4 y b e2 s2 w4 r => nxt s2 w4 ⟨rfl, ys ++ [(y, b)], by simp, (en.mono s2).snoc r, ?_⟩) fun I2 H3 e2 s2 w3 => nxt s2 w3 ⟨rfl, ys, rfl, en.mono s2, ?_⟩
    · rw [List.range_succ, List.filterMap_append, List.filterMap_cons_some e2, List.map_append, es]; rfl
    · rw [List.range_succ, List.filterMap_append, List.filterMap_cons_none e2, es]
      exact (List.append_nil _).symm
  · rintro D H' I' acc M' s w' ⟨rfl, ys, rfl, en, es⟩ _
    exact fin I' D H' ys s w' en es
theorem enc_strs {I : Hp} : ∀ {ys : List (V × Tx)}, Enc I sD ys → ys.map Prod.fst = (ys.map Prod.snd).map sV
  | [], _ => rfl
  | (v, x) :: ys, h => by
    have h1 : Rp I v (.str (S x)) := h (v, x) List.mem_cons_self
    have h2 := enc_strs (ys := ys) fun z hz => h z (List.mem_cons_of_mem _ hz)
    simp only [List.map_cons, h2]
    cases h1; rfl
theorem rpAll_tx {H : Hp} : ∀ (ns : List Tx), RpAll H (ns.map sV) (ns.map sD)
  | [] => .nil
  | n :: ns => .cons (.str _) (rpAll_tx ns)
theorem txs_flat (ns : List Tx) : (ns.map sV).all flatV = true := by
  rw [List.all_map]; exact List.all_eq_true.mpr fun _ _ => rfl
theorem in_tx (k : Tx) (ns : List Tx) : inV (sV k) (ns.map sV) = decide (k ∈ ns) := by
  unfold inV
  rw [Bool.eq_iff_iff, List.any_map, List.any_eq_true, decide_eq_true_eq]
  constructor
  · rintro ⟨x, hx, e⟩
    have : S x = S k := by simpa [eqV] using e
    rw [← S_inj this]; exact hx
  · intro h; exact ⟨k, h, by simp [eqV]⟩
/-! ### sorted rows, whatever their order was -/
theorem leD_trans {α : Type} {e : α → PyData} (a b c : α) (h1 : leD e a b = true) (h2 : leD e b c = true) : leD e a c = true := by
  unfold leD dle PySem.W.dataLt at *
  rw [Bool.not_eq_true'] at *
  cases h : PyProof.Rows.lexLt PyProof.Rows.itemOrd (PySem.W.keyToks (e c)) (PySem.W.keyToks (e a)) with
  | false => rfl
  | true =>
    rcases PyProof.Rows.lex_negTrans _ (PySem.W.keyToks (e b)) _ h with q | q
    · rw [h2] at q; cases q
    · rw [h1] at q; cases q
theorem leD_total {α : Type} {e : α → PyData} (a b : α) : (leD e a b || leD e b a) = true := by
  unfold leD dle PySem.W.dataLt
  cases h : PyProof.Rows.lexLt PyProof.Rows.itemOrd (PySem.W.keyToks (e b)) (PySem.W.keyToks (e a)) with
  | false => rfl
  | true =>
    cases h2 : PyProof.Rows.lexLt PyProof.Rows.itemOrd (PySem.W.keyToks (e a)) (PySem.W.keyToks (e b)) with
    | false => rfl
    | true =>
      have := PyProof.Rows.lex_trans _ _ _ h h2
      rw [PyProof.Rows.lex_irrefl] at this; cases this
def Inj {α : Type} (e : α → PyData) : Prop := ∀ x y, PySem.W.keyToks (e x) = PySem.W.keyToks (e y) → x = y
theorem leD_anti {α : Type} {e : α → PyData} (inj : Inj e) (a b : α) (h1 : leD e a b = true) (h2 : leD e b a = true) : a = b := by
  unfold leD dle PySem.W.dataLt at *
  rw [Bool.not_eq_true'] at *
  exact inj _ _ (PyProof.Rows.lex_total _ _ h2 h1)
theorem sortE_sorted {α : Type} {e : α → PyData} (l : List α) : (sortE e l).Pairwise fun a b => leD e a b = true := List.pairwise_mergeSort leD_trans leD_total l
theorem sortE_perm {α : Type} {e : α → PyData} (inj : Inj e) {l m : List α} (h : l.Perm m) : sortE e l = sortE e m :=
  List.Perm.eq_of_pairwise (fun a b _ _ => leD_anti inj a b) (sortE_sorted l) (sortE_sorted m) (((List.mergeSort_perm l _).trans h).trans (List.mergeSort_perm m _).symm)
theorem sortE_id {α : Type} {e : α → PyData} {l : List α} (h : l.Pairwise fun a b => leD e a b = true) : sortE e l = l := List.mergeSort_of_pairwise h
theorem sortE_mem {α : Type} {e : α → PyData} {l : List α} {x : α} : x ∈ sortE e l ↔ x ∈ l := (List.mergeSort_perm l _).mem_iff
theorem sortE_len {α : Type} {e : α → PyData} {l : List α} : (sortE e l).length = l.length := List.length_mergeSort _
/-! ### the rows that fit best -/
abbrev Fit := Int × Tx × Tx
def fitD (x : Fit) : PyData := .tuple [.int x.1, sD x.2.1, sD x.2.2]
theorem fit_sorts : Sorts fitD := ⟨fun x y => by simp [fitD, PySem.W.alike, PySem.W.alikeAll], .inl fun x => ⟨_, _, rfl⟩, fun x => by simp [fitD, PyData.depth, PyData.depthAll]⟩
theorem fit_inj : Inj fitD := by
  rintro ⟨a, b, c⟩ ⟨a', b', c'⟩ h
  simp [fitD, PySem.W.keyToks, PySem.W.keyToksAll] at h
  obtain ⟨rfl, rfl, rfl⟩ := h
  rfl
def fitOf (q : Tx) (r : Tx) : Option Fit := (rankL r q).map fun k => (k, foldL r, r)
def bestL (rows : List Tx) (q : Tx) : List Tx := (sortE fitD (rows.filterMap (fitOf q))).map (·.2.2)
theorem best_perm {rows rows' : List Tx} (q : Tx) (h : rows.Perm rows') : bestL rows q = bestL rows' q := by
  unfold bestL; rw [sortE_perm fit_inj (h.filterMap _)]
theorem best_len (rows : List Tx) (q : Tx) : (bestL rows q).length ≤ rows.length := by
  unfold bestL; rw [List.length_map, sortE_len]; exact List.length_filterMap_le _ _
theorem mem_best {rows : List Tx} {q r : Tx} : r ∈ bestL rows q ↔ r ∈ rows ∧ (rankL r q).isSome = true := by
  unfold bestL fitOf
  simp only [List.mem_map, sortE_mem, List.mem_filterMap, Option.map_eq_some_iff]
  constructor
  · rintro ⟨f, ⟨a, ha, k, hk, rfl⟩, rfl⟩; exact ⟨ha, by rw [hk]; rfl⟩
  · rintro ⟨h1, h2⟩
    obtain ⟨k, hk⟩ := Option.isSome_iff_exists.mp h2
    exact ⟨_, ⟨r, h1, k, hk, rfl⟩, rfl⟩
end TA

set_option linter.all false
set_option maxRecDepth 100000
set_option maxHeartbeats 1000000
/-! Stores, and the rows that fit best. -/
namespace TA
open PySem L2 PyProof.Rows
open SX (S S_len S_inj S_cat S_tl)
local macro_rules | `(tactic| simp! [$as,*]) => `(tactic| first | simp only [L2.start, tSeq, tAsg, tOp, fFld, tVar, gIxL, gIxT, tCB, tCons, tNil, gLenL, gLenT, gLenS, rI, rI0, fSet, tIfS, tTest, tB, rNotN, rIsN, rEq, rNe, tC, tDrop, fBM, fBM0, gTy, rAppend, tTup, tLst, tRet, tRetN, tNext, gName, fTup, gCons, gNil, tCall, fCallS, fMeth, tMeth, fMethS, fMake, tMake, fMakeS, tUn, rU, tAnd, tOr, tNot, tAndV, tOrV, tNotV, tIf, tChain, gListL, gListT, tSl, tNoPart, tPart, gSlL, fRaise, gStrI, gCatS, gMin2, gMax2, gIntB, tYes, fLcL, fLcT, fLcS, fLcR1, fForL, fForR1, fForR2, fRev, fGetI, gGetI, gInI, gLenI, fPutI, fNewI,
  List.map_cons, List.map_nil, List.length_cons, List.length_nil, List.replicate, List.cons_append, List.nil_append, List.append_nil, List.getElem?_cons_zero, List.getElem?_cons_succ, List.set_cons_zero, List.set_cons_succ, reduceIte, Bool.not_true, Bool.not_false, Nat.reduceAdd, Nat.reduceSub, Bool.false_eq_true, eq_self,
  Option.some.injEq, V.int.injEq, V.ref.injEq, V.str.injEq, V.bl.injEq, HO.ins.injEq, HO.lst.injEq, HO.tup.injEq, HO.dK.injEq, List.cons.injEq, and_assoc, exists_eq_left', exists_and_left, and_true, true_and, true_or, or_true, false_or, or_false, exists_eq_left, exists_eq_right, exists_eq_right', exists_eq, exists_eq', exists_const, upd_same, sc_ii, sc_ss, sc_bb, sc_in, sc_ni, sc_ns, sc_sn, sc_nn, $as,*] | skip)
def n_Store : List Str := ["rows"]
theorem nd_Store : n_Store.Nodup := by decide +kernel
section
variable {v0 x : V}
theorem lk_Store_rows : (n_Store.zip [v0]).lookup ("rows" : Str) = some v0 := lookup_zip 0 nd_Store rfl rfl
theorem pf_Store_rows : putF ("rows" : Str) x (n_Store.zip [v0]) = n_Store.zip [x] := putF_zip 0 nd_Store rfl (by simp only [List.length_cons, List.length_nil]; omega)
theorem no_Store_add : (n_Store.zip [v0]).lookup ("add" : Str) = none := lookup_out (by decide +kernel)
theorem no_Store_remove : (n_Store.zip [v0]).lookup ("remove" : Str) = none := lookup_out (by decide +kernel)
theorem no_Store_all_rows : (n_Store.zip [v0]).lookup ("all_rows" : Str) = none := lookup_out (by decide +kernel)
theorem no_Store_answer : (n_Store.zip [v0]).lookup ("answer" : Str) = none := lookup_out (by decide +kernel)
theorem in_Store : putF "rows" v0 ([]) = n_Store.zip [v0] := by kernel_rfl
theorem il_Store_1 : (putF "rows" v0 ([])).length < 1000 := Nat.lt_of_lt_of_le (lt_putF lt0) (by omega)
theorem ln_Store : (n_Store.zip [v0]).length < 1000 := by simp only [n_Store, List.zip_cons_cons, List.zip_nil_right, List.length_cons, List.length_nil]; omega
end
def oStore (K : PySem.W.Frag) (dx r : Addr) : HO := .ins (He.ga K "Store") dx (n_Store.zip [.ref r])
/-- an end: None, or an error of a class -/
def Out (K : PySem.W.Frag) (Q : VK) (E : XK) (o : Option Str) (H : Hp) : Prop := match o with
  | none => Q .non H
  | some e => E (.ref (He.ga K e)) none H
def rowsOk (rows : List Tx) : Prop := (∀ r ∈ rows, okL 20 r = true) ∧ rows.length ≤ 1000
def manyOk (n : Int) : Bool := decide (1 ≤ n ∧ n ≤ 6)
def addE (rows : List Tx) (row : Tx) : Option Str := if okL 20 row = false ∨ foldL row = [] ∨ row ∈ rows then some "BadText" else if rows.length = 12 then some "BadNumber" else none
def addR (rows : List Tx) (row : Tx) : List Tx := if addE rows row = none then rows ++ [row] else rows
def remE (rows : List Tx) (row : Tx) : Option Str := if row ∈ rows then none else some "BadText"
def ansE (q : Tx) (n : Int) : Option Str := if manyOk n = false then some "BadNumber" else if okL 12 q = false then some "BadText" else none
def ansR (rows : List Tx) (q : Tx) (n : Int) : List Tx := (bestL rows q).take n.toNat
def ansA (rows : List Tx) (q : Tx) (n : Int) : Bool := decide (((bestL rows q).length : Int) ≤ n)
def ansD (rows : List Tx) (q : Tx) (n : Int) : PyData := .tuple [.list ((ansR rows q n).map sD), .bool (ansA rows q n)]
def sp_look_many (K : PySem.W.Frag) : Sp := fun vs H Q E => ∃ n : Int, vs = [.int n] ∧ Out K Q E (if manyOk n = true then none else some "BadNumber") H
def sp_best (K : PySem.W.Frag) : Sp := fun vs H Q _ => ∃ (I : Hp) (M : List (Addr × HO)) (l : Addr) (rows : List Tx) (q : Tx) (n : Int), vs = [.ref l, sV q, .int n] ∧ W I H M ∧ Ls I M l (.lst (rows.map sV)) ∧ rowsOk rows ∧ okL 12 q = true ∧ 0 ≤ n ∧
  ∀ (I' H' : Hp) (p : Addr), Sub I I' → W I' H' M → I' p = some (.lst ((ansR rows q n).map sV)) → Q (.ref p) H'
def sp__law_best (K : PySem.W.Frag) : Sp := sp_best K
def sp_Store___init__ (K : PySem.W.Frag) : Sp := fun vs H Q _ => ∃ (I : Hp) (M : List (Addr × HO)) (x dx : Addr), vs = [.ref x] ∧ W I H ((x, .ins (He.ga K "Store") dx []) :: M) ∧ ∀ (H' : Hp) (r : Addr), W I H' ((x, oStore K dx r) :: (r, .lst []) :: M) → Q .non H'
def sp_Store_add (K : PySem.W.Frag) : Sp := fun vs H Q E => ∃ (I : Hp) (M : List (Addr × HO)) (x dx r : Addr) (rows : List Tx) (row : Tx), vs = [.ref x, sV row] ∧ W I H ((x, oStore K dx r) :: (r, .lst (rows.map sV)) :: M) ∧ rows.length ≤ 1000 ∧ row.length ≤ 1000000 ∧
  ∀ H', W I H' ((x, oStore K dx r) :: (r, .lst ((addR rows row).map sV)) :: M) → Out K Q E (addE rows row) H'
def sp_Store_remove (K : PySem.W.Frag) : Sp := fun vs H Q E => ∃ (I : Hp) (M : List (Addr × HO)) (x dx r : Addr) (rows : List Tx) (row : Tx), vs = [.ref x, sV row] ∧ W I H ((x, oStore K dx r) :: (r, .lst (rows.map sV)) :: M) ∧ rows.length ≤ 1000 ∧
  ∀ H', W I H' ((x, oStore K dx r) :: (r, .lst ((rows.erase row).map sV)) :: M) → Out K Q E (remE rows row) H'
def sp_Store_all_rows (K : PySem.W.Frag) : Sp := fun vs H Q _ => ∃ (x dx r : Addr) (o : List V), vs = [.ref x] ∧ H x = some (oStore K dx r) ∧ H r = some (.lst o) ∧ ∀ p, H p = none → Q (.ref p) (upd H p (.lst o))
def sp_Store_answer (K : PySem.W.Frag) : Sp := fun vs H Q E => ∃ (I : Hp) (M : List (Addr × HO)) (x dx r : Addr) (rows : List Tx) (q : Tx) (n : Int), vs = [.ref x, sV q, .int n] ∧ W I H M ∧ Ls I M x (oStore K dx r) ∧ Ls I M r (.lst (rows.map sV)) ∧ rowsOk rows ∧ q.length ≤ 1000000 ∧
  (ansE q n = none → ∀ (I' H' : Hp) (v : V), Sub I I' → W I' H' M → Rp I' v (ansD rows q n) → Q v H') ∧ ∀ e, ansE q n = some e → ∀ H', W I H' M → E (.ref (He.ga K e)) none H'
def t_look_many (K : PySem.W.Frag) (E : XK) : TS := tIfS (tNot (tTest (tChain (rI0 fun i j => .bl (decide (i ≤ j))) (rI0 fun i j => .bl (decide (i ≤ j))) (tC (.int 1)) (tVar 0) (tC (.int 6))))) (fRaise (WD E) (He.ga K "BadNumber")) (tNext)
abbrev nn_look_many : List Str := ["many"]
def t_best (K : PySem.W.Frag) (E : XK) : TS := tSeq (tAsg (fLcL (tVar 0) (gName 4) (tYes) (tTup (tCons (tCall (sp_rank K) [] E0 (tCons (tVar 4) (tCons (tVar 1) (tNil)))) (tCons (tCall (sp_folded K) [] E0 (tCons (tVar 4) (tNil))) (tCons (tVar 4) (tNil))))) [4]) (gName 3)) (tRet (tSl gSlL (fLcL (tCB (gSortD) (tCons (fLcL (tVar 3) (gName 5) (tTest (tOp (rNotN) (tOp gIxT (tVar 5) (tC (.int 0))) (tC .non))) (tVar 5) [5]) (tNil))) (fTup 3 (gCons (gName 6) (gCons (gName 7) (gCons (gName 4) (gNil))))) (tYes) (tVar 4) [6, 7, 4]) (tNoPart) (tPart (tVar 2))))
abbrev nn_best : List Str := ["rows", "query", "many", "some", "row", "one", "fits", "small"]
def t__law_best (K : PySem.W.Frag) (E : XK) : TS := tSeq (tAsg (tLst (tNil)) (gName 3)) (tSeq (fForL (tVar 0) (gName 4) (tSeq (tAsg (tCall (sp__law_rank K) [] E (tCons (tVar 4) (tCons (tVar 1) (tNil)))) (gName 5)) (tIfS (tTest (tOp (rNotN) (tVar 5) (tC .non))) (tDrop (fBM "list" rAppend (tVar 3) (tCons (tTup (tCons (tVar 5) (tCons (tCall (sp__law_folded K) [] E (tCons (tVar 4) (tNil))) (tCons (tVar 4) (tNil))))) (tNil)))) (tNext)))) (tRet (tSl gSlL (fLcL (tCB (gSortD) (tCons (tVar 3) (tNil))) (fTup 3 (gCons (gName 5) (gCons (gName 6) (gCons (gName 4) (gNil))))) (tYes) (tVar 4) [5, 6, 4]) (tNoPart) (tPart (tVar 2)))))
abbrev nn__law_best : List Str := ["rows", "query", "many", "found", "row", "fits", "small"]
def t_Store___init__ (K : PySem.W.Frag) (E : XK) : TS := fSet (He.ga K "Store") "rows" (tVar 0) (tLst (tNil))
abbrev nn_Store___init__ : List Str := ["self"]
def t_Store_add (K : PySem.W.Frag) (E : XK) : TS := tSeq (tDrop (tCall (sp_look_text K) [] E (tCons (tVar 1) (tCons (tC (.int 20)) (tNil))))) (tSeq (tIfS (tOr (tTest (tOp (rEq) (tCall (sp_folded K) [] E (tCons (tVar 1) (tNil))) (tC (.str "")))) (tTest (tOp (gInL false) (tVar 1) (fFld (He.ga K "Store") "rows" (tVar 0))))) (fRaise (WD E) (He.ga K "BadText")) (tNext)) (tSeq (tIfS (tTest (tOp (rEq) (tCB (gLenL) (tCons (fFld (He.ga K "Store") "rows" (tVar 0)) (tNil))) (tC (.int 12)))) (fRaise (WD E) (He.ga K "BadNumber")) (tNext)) (tDrop (fBM "list" rAppend (fFld (He.ga K "Store") "rows" (tVar 0)) (tCons (tVar 1) (tNil))))))
abbrev nn_Store_add : List Str := ["self", "row"]
def t_Store_remove (K : PySem.W.Frag) (E : XK) : TS := tSeq (tIfS (tTest (tOp (gInL true) (tVar 1) (fFld (He.ga K "Store") "rows" (tVar 0)))) (fRaise (WD E) (He.ga K "BadText")) (tNext)) (tDrop (fBM "list" gRemS (fFld (He.ga K "Store") "rows" (tVar 0)) (tCons (tVar 1) (tNil))))
abbrev nn_Store_remove : List Str := ["self", "row"]
def t_Store_all_rows (K : PySem.W.Frag) (E : XK) : TS := tRet (tCB (gListL) (tCons (fFld (He.ga K "Store") "rows" (tVar 0)) (tNil)))
abbrev nn_Store_all_rows : List Str := ["self"]
def t_Store_answer (K : PySem.W.Frag) (E : XK) : TS := tSeq (tDrop (tCall (sp_look_many K) [] E (tCons (tVar 2) (tNil)))) (tSeq (tDrop (tCall (sp_look_text K) [] E (tCons (tVar 1) (tCons (tC (.int 12)) (tNil))))) (tSeq (tAsg (tCall (sp_best K) [] E (tCons (fFld (He.ga K "Store") "rows" (tVar 0)) (tCons (tVar 1) (tCons (tCB (gLenL) (tCons (fFld (He.ga K "Store") "rows" (tVar 0)) (tNil))) (tNil))))) (gName 3)) (tRet (tTup (tCons (tSl gSlL (tVar 3) (tNoPart) (tPart (tVar 2))) (tCons (tOp (rI0 fun i j => .bl (decide (i ≤ j))) (tCB (gLenL) (tCons (tVar 3) (tNil))) (tVar 2)) (tNil)))))))
abbrev nn_Store_answer : List Str := ["self", "query", "many", "some"]
section
variable {K : PySem.W.Frag}
theorem len_look_many : ∀ vs H Q E, sp_look_many K vs H Q E → vs.length = ["many"].length := by
  rintro _ _ _ _ ⟨_, rfl, _⟩; rfl
theorem len_best : ∀ vs H Q E, sp_best K vs H Q E → vs.length = ["rows", "query", "many"].length := by
  rintro _ _ _ _ ⟨_, _, _, _, _, _, rfl, _⟩; rfl
theorem len__law_best : ∀ vs H Q E, sp__law_best K vs H Q E → vs.length = ["rows", "query", "many"].length := by
  rintro _ _ _ _ ⟨_, _, _, _, _, _, rfl, _⟩; rfl
theorem len_Store___init__ : ∀ vs H Q E, sp_Store___init__ K vs H Q E → vs.length = ["self"].length := by
  rintro _ _ _ _ ⟨_, _, _, _, rfl, _⟩; rfl
theorem len_Store_add : ∀ vs H Q E, sp_Store_add K vs H Q E → vs.length = ["self", "row"].length := by
  rintro _ _ _ _ ⟨_, _, _, _, _, _, _, rfl, _⟩; rfl
theorem len_Store_remove : ∀ vs H Q E, sp_Store_remove K vs H Q E → vs.length = ["self", "row"].length := by
  rintro _ _ _ _ ⟨_, _, _, _, _, _, _, rfl, _⟩; rfl
theorem len_Store_all_rows : ∀ vs H Q E, sp_Store_all_rows K vs H Q E → vs.length = ["self"].length := by
  rintro _ _ _ _ ⟨_, _, _, _, rfl, _⟩; rfl
theorem len_Store_answer : ∀ vs H Q E, sp_Store_answer K vs H Q E → vs.length = ["self", "query", "many"].length := by
  rintro _ _ _ _ ⟨_, _, _, _, _, _, _, _, rfl, _⟩; rfl
theorem pure_look_many : ∀ vs H Q E, sp_look_many K vs H Q E → t_look_many K E { nx := fun _ H2 => Q .non H2, rt := Q } (L2.start nn_look_many vs) H := by
  rintro vs H Q E ⟨n, rfl, hQ⟩
  unfold t_look_many
  simp! [and_true]
  unfold manyOk at hQ
  by_cases c1 : 1 ≤ n
  · refine ite_t c1 ?_
    by_cases c2 : n ≤ 6
    · rw [decide_eq_true ⟨c1, c2⟩] at hQ
      exact ite_nt c2 hQ
    · rw [decide_eq_false fun h => c2 h.2] at hQ
      exact ite_nf c2 hQ
  · rw [decide_eq_false fun h => c1 h.1] at hQ
    exact ite_f c1 hQ
theorem pure_Store___init__ : ∀ vs H Q E, sp_Store___init__ K vs H Q E → t_Store___init__ K E { nx := fun _ H2 => Q .non H2, rt := Q } (L2.start nn_Store___init__ vs) H := by
  rintro vs H Q E ⟨I, M, x, dx, rfl, w, hQ⟩
  unfold t_Store___init__
  simp! [and_true]
  refine ⟨Nat.zero_le _, fun p hp => ?_⟩
  have w1 := (w.newM (o := .lst []) hp).swap
  refine ⟨_, _, w1.has.1, by simp, ?_⟩
  rw [in_Store]
  exact hQ _ p (w1.put (o' := oStore K dx p))
theorem pure_Store_all_rows : ∀ vs H Q E, sp_Store_all_rows K vs H Q E → t_Store_all_rows K E { nx := fun _ H2 => Q .non H2, rt := Q } (L2.start nn_Store_all_rows vs) H := by
  rintro vs H Q E ⟨x, dx, r, o, rfl, h1, h2, hQ⟩
  unfold t_Store_all_rows oStore at *
  simp! [h1, lk_Store_rows, h2]
  exact hQ
theorem erase_S (row : Tx) : ∀ rows : List Tx, (rows.map S).erase (S row) = (rows.erase row).map S
  | [] => rfl
  | a :: t => by
    have ih := erase_S row t
    simp only [List.map_cons, List.erase_cons]
    have : (S a == S row) = (a == row) := by rw [Bool.eq_iff_iff]; simp [S_eq]
    rw [this, ih]
    split <;> rfl
theorem pure_Store_remove : ∀ vs H Q E, sp_Store_remove K vs H Q E → t_Store_remove K E { nx := fun _ H2 => Q .non H2, rt := Q } (L2.start nn_Store_remove vs) H := by
  rintro vs H Q E ⟨I, M, x, dx, r, rows, row, rfl, w, hl, hQ⟩
  have h1 := w.has.1
  have h2 := w.has.2.1
  unfold t_Store_remove oStore at *
  simp! [h1, lk_Store_rows, gInL, h2, in_tx, txs_flat]
  refine ⟨rfl, ?_⟩
  unfold remE at hQ
  by_cases c : row ∈ rows
  · rw [if_pos c] at hQ
    refine ite_nt c ?_
    refine ⟨r, rows.map S, S row, rfl, rfl, ?_, List.mem_map.mpr ⟨row, c, rfl⟩, ?_⟩
    · rw [List.map_map]; exact h2
    · have e := erase_S row rows
      rw [e, List.map_map]
      exact hQ _ (w.swap.put (o' := .lst ((rows.erase row).map sV))).swap
  · rw [if_neg c] at hQ
    refine ite_nf c ?_
    have := hQ H (by rw [List.erase_of_not_mem c]; exact w)
    exact this
theorem pure_Store_add : ∀ vs H Q E, sp_Store_add K vs H Q E → t_Store_add K E { nx := fun _ H2 => Q .non H2, rt := Q } (L2.start nn_Store_add vs) H := by
  rintro vs H Q E ⟨I, M, x, dx, r, rows, row, rfl, w, hl, hr, hQ⟩
  have hb := line_big
  unfold t_Store_add oStore at *
  simp! [and_true]
  refine ⟨row, 20, rfl, hr, fun H1 s1 => ?_⟩
  unfold addR at hQ
  have w1 := w.same s1
  by_cases c0 : okL 20 row = true
  · rw [if_pos c0]
    refine ⟨row, rfl, hr, fun H2 s2 => ?_⟩
    rw [if_pos c0]
    have w2 := w1.same s2
    have h1 := w2.has.1
    have h2 := w2.has.2.1
    simp! [lit_e, S_eq, h1, lk_Store_rows, gInL, h2, in_tx, txs_flat, List.length_map]
    by_cases c1 : foldL row = []
    · have e : addE rows row = some "BadText" := if_pos (.inr (.inl c1))
      rw [e, if_neg (by simp)] at hQ
      exact ite_t c1 (hQ H2 w2)
    refine ite_f c1 ⟨rfl, ?_⟩
    by_cases c2 : row ∈ rows
    · have e : addE rows row = some "BadText" := if_pos (.inr (.inr c2))
      rw [e, if_neg (by simp)] at hQ
      exact ite_t c2 (hQ H2 w2)
    refine ite_f c2 ?_
    have e1 : addE rows row = (if rows.length = 12 then some ("BadNumber" : Str) else none : Option Str) := if_neg (by simp [c0, c1, c2])
    by_cases c3 : rows.length = 12
    · rw [if_pos c3] at e1
      rw [e1, if_neg (by simp)] at hQ
      exact ite_t (by omega) (hQ H2 w2)
    refine ite_f (by omega) ⟨by omega, ?_⟩
    rw [if_neg c3] at e1
    rw [e1, if_pos rfl] at hQ
    have := hQ _ (by rw [List.map_append]; exact (w2.swap.put (o' := .lst (rows.map sV ++ [row].map sV))).swap)
    exact this
  · rw [if_neg c0]
    have e : addE rows row = some "BadText" := if_pos (.inl (by simpa using c0))
    rw [e, if_neg (by simp)] at hQ
    exact hQ H1 w1
theorem cut_take (l : List Tx) {n : Int} (n0 : 0 ≤ n) : cutV (l.map sV) none (some n) = (l.take n.toNat).map sV := by
  unfold cutV
  obtain ⟨m, rfl⟩ := Int.eq_ofNat_of_zero_le n0
  have e2 : HT.sIx (l.map sV).length (l.map sV).length (some ((m : Nat) : Int)) = min m l.length := by rw [List.length_map]; unfold HT.sIx; simp only []; rw [if_neg (by omega)]; omega
  rw [e2, HT.sIx_none, List.drop_zero, Nat.sub_zero, Int.toNat_natCast, ← List.map_take]
  by_cases h : m ≤ l.length
  · rw [Nat.min_eq_left h]
  · rw [Nat.min_eq_right (by omega), List.take_of_length_le (by omega), List.take_of_length_le (by omega)]
theorem pure_Store_answer : ∀ vs H Q E, sp_Store_answer K vs H Q E → t_Store_answer K E { nx := fun _ H2 => Q .non H2, rt := Q } (L2.start nn_Store_answer vs) H := by
  rintro vs H Q E ⟨I, M, x, dx, r, rows, q, n, rfl, w, l1, l2, ro, hq, hQ, hE⟩
  have hb := line_big
  unfold t_Store_answer
  simp! [and_true]
  refine ⟨n, rfl, ?_⟩
  unfold ansE at hQ hE
  by_cases c1 : manyOk n = true
  · rw [if_pos c1]
    rw [if_neg (by simp [c1])] at hQ hE
    refine ⟨q, 12, rfl, hq, fun H1 s1 => ?_⟩
    have w1 := w.same s1
    by_cases c2 : okL 12 q = true
    · rw [if_neg (by simp [c2])] at hQ hE
      rw [if_pos c2]
      have h1 := l1.at w1
      have h2 := l2.at w1
      unfold oStore at h1
      simp! [h1, lk_Store_rows, h2]
      refine ⟨I, M, r, rows, q, _, rfl, w1, l2, ro, c2, Int.natCast_nonneg _, fun I2 H2 p s2 w2 hp => ?_⟩
      have h3 := w2.sub _ _ hp
      simp! [h3]
      have e3 : ansR rows q ((rows.map sV).length : Nat) = bestL rows q := by
        unfold ansR
        rw [List.length_map, Int.toNat_natCast, List.take_of_length_le (best_len rows q)]
      rw [e3] at hp h3 ⊢
      intro p4 hp4
      have n0 : 0 ≤ n := by unfold manyOk at c1; have := of_decide_eq_true c1; omega
      have e4 : cutV ((bestL rows q).map sV) none (some n) = (ansR rows q n).map sV := cut_take _ n0
      rw [e4]
      have w3 := w2.newI (o := .lst ((ansR rows q n).map sV)) hp4
      have s3 := Sub.new (o := .lst ((ansR rows q n).map sV)) (w2.noI hp4)
      have h5 := w3.sub _ _ (s3 _ _ hp)
      refine ⟨_, h5, two_le, fun p5 hp5 => ?_⟩
      have w4 := w3.newI (o := .tup [V.ref p4, V.bl (decide (((((bestL rows q).map sV).length : Nat) : Int) ≤ n))]) hp5
      have s4 := Sub.new (o := .tup [V.ref p4, V.bl (decide (((((bestL rows q).map sV).length : Nat) : Int) ≤ n))]) (w3.noI hp5)
      refine hQ rfl _ _ _ (s2.trans (s3.trans s4)) w4 (.tup upd_same (.cons (.lst (s4 _ _ upd_same) (rpAll_tx _)) (.cons ?_ .nil)))
      unfold ansA
      rw [List.length_map]
      exact .bl _
    · rw [if_pos (by simpa using c2)] at hE
      rw [if_neg c2]
      exact hE _ rfl _ w1
  · rw [if_neg c1]
    rw [if_pos (by simpa using c1)] at hE
    exact hE _ rfl _ w
theorem rankV_none {o : Option Int} : (oiV o = V.non) ↔ o = none := by cases o <;> simp [oiV]
/-- the end of best: sorted, rows alone, so many -/
theorem best_end {I H : Hp} {M : List (Addr × HO)} {Q : VK} {D : Addr} {zs : List (V × Fit)} {q : Tx} {n : Int} {rows : List Tx} {σ : L2.St} {j6 j7 j4 : Nat} (w : W I H M) (hD : H D = some (.lst (zs.map Prod.fst))) (en : Enc I fitD zs) (hz : zs.map Prod.snd = rows.filterMap (fitOf q)) (hl : rows.length ≤ 1000) (n0 : 0 ≤ n)
    (g : TG) (te : TE) (hg : ∀ (a b c : V) (t : Addr) H' (Q' : L2.St → Hp → Prop), H' t = some (.tup [a, b, c]) → (∀ σ2, wipe σ2 [j6, j7, j4] = wipe σ [j6, j7, j4] → te σ2 H' = (fun Q2 => Q2 c H') → Q' σ2 H') → g (.ref t) (wipe σ [j6, j7, j4]) H' Q')
    (hQ : ∀ (I' H' : Hp) (p : Addr), Sub I I' → W I' H' M → I' p = some (.lst ((ansR rows q n).map sV)) → Q (.ref p) H') :
    gSortD [.ref D] H fun x H1 => ∃ a, x = .ref a ∧ ∃ xs, H1 a = some (.lst xs) ∧ CompW (fun H => H a = some (.lst xs)) xs.length (fun i x => xs[i]? = some x) g tYes te [j6, j7, j4] σ H1 fun x H1 => ∃ a, x = .ref a ∧ ∃ xs, H1 a = some (.lst xs) ∧ ∀ p, H1 p = none → Q (.ref p) (upd H1 p (.lst (cutV xs none (some n)))) := by
  refine sortD_use fit_sorts hD (en.mono w.sub) fun f hf => ?_
  have en2 := sort_enc (e := fitD) en
  have es := sort_snd (e := fitD) zs
  rw [hz] at es
  generalize (zs.mergeSort fun x y => leD fitD x.2 y.2) = ys at en2 es ⊢
  have w1 := w.newI (o := .lst (ys.map Prod.fst)) hf
  have s1 := Sub.new (o := .lst (ys.map Prod.fst)) (w.noI hf)
  refine ⟨f, rfl, _, upd_same, ?_⟩
  have hlen : ys.length ≤ 1000 := by
    have := congrArg List.length es
    rw [List.length_map, sortE_len] at this
    have := List.length_filterMap_le (fitOf q) rows
    omega
  refine comp_data sD (fun i => (ys[i]?).map fun z => z.2.2.2) w1 (by rw [List.length_map]; omega) (fun I' D acc H' s w' => w'.sub _ _ (s _ _ upd_same)) ?_ ?_
  · rintro D2 i x acc I' H' T F hi hx s w' kT kF
    rw [List.getElem?_map, Option.map_eq_some_iff] at hx
    obtain ⟨z, hzz, rfl⟩ := hx
    have r := (en2 z (List.mem_of_getElem? hzz)).mono (s1.trans s)
    obtain ⟨v, k, a, b⟩ := z
    cases r with
    | tup h1 h2 =>
      cases h2 with
      | cons x1 h2 =>
        cases h2 with
        | cons x2 h2 =>
          cases h2 with
          | cons x3 h2 =>
            cases h2
            refine hg _ _ _ _ H' _ (w'.sub _ _ h1) fun σ2 e1 e2 => ⟨e1, ?_⟩
            show if true = true then te σ2 H' T else F H'
            rw [if_pos rfl, e2]
            exact kT I' H' _ b (by rw [hzz]; rfl) (Sub.refl _) w' x3
  · intro I' D2 H' zs2 s2 w2 en3 es3
    have e5 : (List.range (ys.map Prod.fst).length).filterMap (fun i => (ys[i]?).map fun z => z.2.2.2) = bestL rows q := by
      rw [List.length_map, fm_list (g := fun z : V × Fit => some z.2.2.2) (fun i a h => by rw [h]; rfl)]
      unfold bestL
      rw [← es, List.map_map]
      rw [← List.filterMap_eq_map']; rfl
    rw [e5] at es3
    rw [enc_strs en3, es3] at w2
    refine ⟨D2, rfl, _, w2.has.1, fun p hp => ?_⟩
    have e4 : cutV ((bestL rows q).map sV) none (some n) = (ansR rows q n).map sV := cut_take _ n0
    rw [e4]
    exact hQ _ _ _ (s1.trans (s2.trans (Sub.new (w2.drop.noI hp)))) (w2.drop.newI hp) upd_same
theorem pure_best : ∀ vs H Q E, sp_best K vs H Q E → t_best K E { nx := fun _ H2 => Q .non H2, rt := Q } (L2.start nn_best vs) H := by
  rintro vs H Q E ⟨I, M, l, rows, q, n, rfl, w, hl, ⟨ro, rl⟩, hq, n0, hQ⟩
  have hb := line_big
  have h1 := hl.at w
  unfold t_best
  simp! [h1]
  refine comp_data (fun x : Option Int × Tx × Tx => .tuple [(match x.1 with | none => .none | some i => .int i), sD x.2.1, sD x.2.2]) (fun i => (rows[i]?).map fun r => (rankL r q, foldL r, r)) w (by simp; omega) (fun I' D acc H' s w' => (hl.mono s).cons.at w') ?_ ?_
  · rintro D i x acc I' H' T F hi hx s w' kT kF
    rw [List.getElem?_map, Option.map_eq_some_iff] at hx
    obtain ⟨r, hr, rfl⟩ := hx
    have okr := ro r (List.mem_of_getElem? hr)
    simp! [wipe]
    refine ⟨r, q, rfl, by have := okL_len okr; omega, by have := okL_len hq; omega, fun H2 s2 => ?_⟩
    rw [if_pos ⟨hq, okr⟩]
    refine ⟨r, rfl, by have := okL_len okr; omega, fun H3 s3 => ?_⟩
    rw [if_pos okr]
    have w3 := (w'.same s2).same s3
    simp! [and_true]
    refine ⟨three_le, fun p hp => ?_⟩
    refine kT _ _ _ (rankL r q, foldL r, r) (by rw [hr]; rfl) (Sub.new (w3.noI hp)) (w3.newI hp) (.tup upd_same (.cons ?_ (.cons (.str _) (.cons (.str _) .nil))))
    cases rankL r q <;> constructor
  · intro I2 D H2 ys s2 w2 en es
    have e1 : (List.range (rows.map sV).length).filterMap (fun i => (rows[i]?).map fun r => (rankL r q, foldL r, r)) = rows.map fun r => (rankL r q, foldL r, r) := by
      rw [List.length_map, fm_list (g := fun r => some (rankL r q, foldL r, r)) (fun i a h => by rw [h]; rfl), List.filterMap_eq_map']
    rw [e1] at es
    simp! [w2.has.1, List.length_map]
    have hlen : ys.length = rows.length := by have := congrArg List.length es; simpa using this
    have el : ys.length = (ys.map Prod.fst).length := by simp
    rw [el]
    refine comp_filter (p := fun z => z.2.1.isSome) w2 (by omega) (fun _ => rfl) (fun _ => rfl) (fun D' o H' w' => w'.has.2.1) (fun z hz D' o H' Q' w' q' => ?_) (fun D3 H3 w3 => ?_)
    · have r := (en z hz).mono w'.sub
      obtain ⟨v, o, a, b⟩ := z
      cases r with
      | tup h1 h2 =>
        cases h2 with
        | cons x1 h2 =>
          simp! [wipe, h1, at0]
          cases o with
          | none => cases x1; simpa using q'
          | some k => cases x1; simpa using q'
    · have e3 : (ys.filter fun z => z.2.1.isSome).map Prod.fst = ((ys.filter fun z => z.2.1.isSome).map fun z => ((z.1, (z.2.1.getD 0, z.2.2.1, z.2.2.2)) : V × Fit)).map Prod.fst := by rw [List.map_map]; rfl
      have en3 : Enc I2 fitD ((ys.filter fun z => z.2.1.isSome).map fun z => ((z.1, (z.2.1.getD 0, z.2.2.1, z.2.2.2)) : V × Fit)) := by
        intro z hz
        obtain ⟨y, hy, rfl⟩ := List.mem_map.mp hz
        obtain ⟨hy1, hy2⟩ := List.mem_filter.mp hy
        have := en y hy1
        obtain ⟨v, o, a, b⟩ := y
        cases o with
        | none => simp at hy2
        | some k => exact this
      have es3 : ((ys.filter fun z => z.2.1.isSome).map fun z => ((z.1, (z.2.1.getD 0, z.2.2.1, z.2.2.2)) : V × Fit)).map Prod.snd = rows.filterMap (fitOf q) := by
        have : ∀ (ys : List (V × (Option Int × Tx × Tx))), ((ys.filter fun z => z.2.1.isSome).map fun z => ((z.1, (z.2.1.getD 0, z.2.2.1, z.2.2.2)) : V × Fit)).map Prod.snd = (ys.map Prod.snd).filterMap fun x => x.1.map fun k => (k, x.2.1, x.2.2) := by
          intro ys
          induction ys with
          | nil => rfl
          | cons y ys ih =>
            obtain ⟨v, o, a, b⟩ := y
            cases o <;> simp [List.filter_cons] <;> simpa using ih
        rw [this, es, List.filterMap_map]
        rfl
      rw [e3] at w3
      refine best_end (q := q) (n := n) (rows := rows) w3.drop.drop w3.has.1 en3 es3 rl n0 _ _ ?_ (fun I4 H4 p s4 w4 h4 => hQ I4 H4 p (s2.trans s4) w4 h4)
      intro a b c t H' Q' ht k
      simp! [ht, wipe]
      refine k _ rfl ?_
      funext Q2
      simp! [and_true]
structure PBest (I : Hp) (M : List (Addr × HO)) (l p : Addr) (rows : List Tx) (q : Tx) (n : Int) (i : Nat) (σ : L2.St) (H : Hp) : Prop where
  ex : ∃ (I' : Hp) (zs : List (V × Fit)) (r4 r5 r6 : Option V), σ = [some (.ref l), some (sV q), some (.int n), some (.ref p), r4, r5, r6] ∧ Sub I I' ∧ W I' H ((p, .lst (zs.map Prod.fst)) :: M) ∧ Enc I' fitD zs ∧ zs.map Prod.snd = (rows.take i).filterMap (fitOf q)
theorem pure__law_best : ∀ vs H Q E, sp__law_best K vs H Q E → t__law_best K E { nx := fun _ H2 => Q .non H2, rt := Q } (L2.start nn__law_best vs) H := by
  rintro vs H Q E ⟨I, M, l, rows, q, n, rfl, w, hl, ⟨ro, rl⟩, hq, n0, hQ⟩
  have hb := line_big
  have h1 := hl.at w
  unfold t__law_best
  simp! [h1]
  refine ⟨Nat.zero_le _, fun p hp => ?_⟩
  have w1 := w.newM (o := .lst []) hp
  refine ⟨_, hl.cons.at w1, PBest I M l p rows q n, ⟨I, [], _, _, _, rfl, Sub.refl _, w1, Enc.nil, rfl⟩, ?_, ?_, ?_⟩
  · rintro i σ H' _ ⟨I', zs, r4, r5, r6, rfl, s, w', en, es⟩
    exact (hl.mono s).cons.at w'
  · rintro i x σ H' hx ⟨I', zs, r4, r5, r6, rfl, s, w', en, es⟩
    rw [List.getElem?_map, Option.map_eq_some_iff] at hx
    obtain ⟨r, hr, rfl⟩ := hx
    have okr := ro r (List.mem_of_getElem? hr)
    have lr := okL_len okr
    have lq := okL_len hq
    have hz : zs.length ≤ 1000 := by
      have := congrArg List.length es
      rw [List.length_map] at this
      have := List.length_filterMap_le (fitOf q) (rows.take i)
      rw [List.length_take] at this; omega
    simp! [and_true]
    refine ⟨r, q, rfl, by omega, okL_all okr, by omega, okL_all hq, fun H2 s2 => ?_⟩
    have es2 : (rows.take (i + 1)).filterMap (fitOf q) = zs.map Prod.snd ++ (fitOf q r).toList := by
      rw [take_succ_get hr, List.filterMap_append, es]
      cases h : fitOf q r <;> simp [h]
    have w2 := w'.same s2
    cases hk : rankL r q with
    | none =>
      have e : fitOf q r = none := by unfold fitOf; rw [hk]; rfl
      simp! [oiV, decide_true]
      exact ⟨I', zs, _, _, _, rfl, s, w2, en, by rw [es2, e]; simp⟩
    | some k =>
      have e : fitOf q r = some (k, foldL r, r) := by unfold fitOf; rw [hk]; rfl
      have hp2 := w2.has.1
      simp! [oiV, decide_false, reduceCtorEq, hp2]
      refine ⟨r, rfl, by omega, okL_all okr, fun H3 s3 => ?_⟩
      have w3 := w2.same s3
      refine ⟨three_le, fun t ht => ?_⟩
      have w4 := w3.newI (o := .tup [V.int k, sV (foldL r), sV r]) ht
      have s4 := Sub.new (o := .tup [V.int k, sV (foldL r), sV r]) (w3.noI ht)
      refine ⟨_, w4.has.1, by rw [List.length_map]; omega, ?_⟩
      refine ⟨_, zs ++ [(.ref t, (k, foldL r, r))], _, _, _, rfl, s.trans s4, ?_, (en.mono s4).snoc (.tup upd_same (.cons (.int _) (.cons (.str _) (.cons (.str _) .nil)))), by rw [es2, e]; simp⟩
      have := w4.put (o' := .lst ((zs ++ [((.ref t : V), ((k, foldL r, r) : Fit))]).map Prod.fst))
      simpa using this
  · rintro σ H' ⟨I', zs, r4, r5, r6, rfl, s, w', en, es⟩
    rw [List.length_map, List.take_length] at es
    simp! [and_true]
    refine best_end (q := q) (n := n) (rows := rows) w'.drop w'.has.1 en es rl n0 _ _ ?_ (fun I4 H4 p s4 w4 h4 => hQ I4 H4 p (s.trans s4) w4 h4)
    intro a b c t H' Q' ht k
    simp! [ht, wipe]
    refine k _ rfl ?_
    funext Q2
    simp! [and_true]
end
end TA

set_option linter.all false
set_option maxRecDepth 100000
set_option maxHeartbeats 1000000
/-! Shelves. -/
namespace TA
open PySem L2 PyProof.Rows
open SX (S S_len S_inj S_cat S_tl)
local macro_rules | `(tactic| simp! [$as,*]) => `(tactic| first | simp only [L2.start, tSeq, tAsg, tOp, fFld, tVar, gIxL, gIxT, tCB, tCons, tNil, gLenL, gLenT, gLenS, rI, rI0, fSet, tIfS, tTest, tB, rNotN, rIsN, rEq, rNe, tC, tDrop, fBM, fBM0, gTy, rAppend, tTup, tLst, tRet, tRetN, tNext, gName, fTup, gCons, gNil, tCall, fCallS, fMeth, tMeth, fMethS, fMake, tMake, fMakeS, tUn, rU, tAnd, tOr, tNot, tAndV, tOrV, tNotV, tIf, tChain, gListL, gListT, tSl, tNoPart, tPart, gSlL, fRaise, gStrI, gCatS, gMin2, gMax2, gIntB, tYes, fLcL, fLcT, fLcS, fLcR1, fForL, fForR1, fForR2, fRev, fGetI, gGetI, gInI, gLenI, fPutI, fNewI,
  List.map_cons, List.map_nil, List.length_cons, List.length_nil, List.replicate, List.cons_append, List.nil_append, List.append_nil, List.getElem?_cons_zero, List.getElem?_cons_succ, List.set_cons_zero, List.set_cons_succ, reduceIte, Bool.not_true, Bool.not_false, Nat.reduceAdd, Nat.reduceSub, Bool.false_eq_true, eq_self,
  Option.some.injEq, V.int.injEq, V.ref.injEq, V.str.injEq, V.bl.injEq, HO.ins.injEq, HO.lst.injEq, HO.tup.injEq, HO.dK.injEq, List.cons.injEq, and_assoc, exists_eq_left', exists_and_left, and_true, true_and, true_or, or_true, false_or, or_false, exists_eq_left, exists_eq_right, exists_eq_right', exists_eq, exists_eq', exists_const, upd_same, sc_ii, sc_ss, sc_bb, sc_in, sc_ni, sc_ns, sc_sn, sc_nn, $as,*] | skip)
def n_Shelf : List Str := ["most", "term", "kept"]
theorem nd_Shelf : n_Shelf.Nodup := by decide +kernel
section
variable {v0 v1 v2 x : V}
theorem lk_Shelf_most : (n_Shelf.zip [v0, v1, v2]).lookup ("most" : Str) = some v0 := lookup_zip 0 nd_Shelf rfl rfl
theorem pf_Shelf_most : putF ("most" : Str) x (n_Shelf.zip [v0, v1, v2]) = n_Shelf.zip [x, v1, v2] := putF_zip 0 nd_Shelf rfl (by simp only [List.length_cons, List.length_nil]; omega)
theorem lk_Shelf_term : (n_Shelf.zip [v0, v1, v2]).lookup ("term" : Str) = some v1 := lookup_zip 1 nd_Shelf rfl rfl
theorem pf_Shelf_term : putF ("term" : Str) x (n_Shelf.zip [v0, v1, v2]) = n_Shelf.zip [v0, x, v2] := putF_zip 1 nd_Shelf rfl (by simp only [List.length_cons, List.length_nil]; omega)
theorem lk_Shelf_kept : (n_Shelf.zip [v0, v1, v2]).lookup ("kept" : Str) = some v2 := lookup_zip 2 nd_Shelf rfl rfl
theorem pf_Shelf_kept : putF ("kept" : Str) x (n_Shelf.zip [v0, v1, v2]) = n_Shelf.zip [v0, v1, x] := putF_zip 2 nd_Shelf rfl (by simp only [List.length_cons, List.length_nil]; omega)
theorem no_Shelf_put : (n_Shelf.zip [v0, v1, v2]).lookup ("put" : Str) = none := lookup_out (by decide +kernel)
theorem no_Shelf_queries : (n_Shelf.zip [v0, v1, v2]).lookup ("queries" : Str) = none := lookup_out (by decide +kernel)
theorem no_Shelf_source : (n_Shelf.zip [v0, v1, v2]).lookup ("source" : Str) = none := lookup_out (by decide +kernel)
theorem no_Shelf_get : (n_Shelf.zip [v0, v1, v2]).lookup ("get" : Str) = none := lookup_out (by decide +kernel)
theorem no_Shelf_clear : (n_Shelf.zip [v0, v1, v2]).lookup ("clear" : Str) = none := lookup_out (by decide +kernel)
theorem in_Shelf : putF "kept" v2 (putF "term" v1 (putF "most" v0 ([]))) = n_Shelf.zip [v0, v1, v2] := by kernel_rfl
theorem il_Shelf_1 : (putF "most" v0 ([])).length < 1000 := Nat.lt_of_lt_of_le (lt_putF lt0) (by omega)
theorem il_Shelf_2 : (putF "term" v1 (putF "most" v0 ([]))).length < 1000 := Nat.lt_of_lt_of_le (lt_putF (lt_putF lt0)) (by omega)
theorem il_Shelf_3 : (putF "kept" v2 (putF "term" v1 (putF "most" v0 ([])))).length < 1000 := Nat.lt_of_lt_of_le (lt_putF (lt_putF (lt_putF lt0))) (by omega)
theorem ln_Shelf : (n_Shelf.zip [v0, v1, v2]).length < 1000 := by simp only [n_Shelf, List.zip_cons_cons, List.zip_nil_right, List.length_cons, List.length_nil]; omega
end
abbrev Kp := Tx × List Tx × Bool × Int
def kpD (k : Kp) : PyData := .tuple [sD k.1, .list (k.2.1.map sD), .bool k.2.2.1, .int k.2.2.2]
def oShelf (K : PySem.W.Frag) (dx : Addr) (most term : Int) (u : Addr) : HO := .ins (He.ga K "Shelf") dx (n_Shelf.zip [.int most, .int term, .ref u])
/-- a shelf's object, by what does not change -/
structure ShO (K : PySem.W.Frag) (I : Hp) (dx : Addr) (most term : Int) (ks : List Kp) (o : HO) : Prop where
  ex : ∃ (u : Addr) (zs : List (V × Kp)), o = oShelf K dx most term u ∧ I u = some (.lst (zs.map Prod.fst)) ∧ Enc I kpD zs ∧ zs.map Prod.snd = ks
theorem ShO.mono {K : PySem.W.Frag} {I I' : Hp} {dx : Addr} {most term : Int} {ks : List Kp} {o : HO} (s : Sub I I') (h : ShO K I dx most term ks o) : ShO K I' dx most term ks o := by
  obtain ⟨u, zs, h1, h2, h3, h4⟩ := h
  exact ⟨u, zs, h1, s _ _ h2, h3.mono s, h4⟩
def shelfOk (most term : Int) : Bool := decide (0 ≤ most ∧ most ≤ 6) && decide (1 ≤ term ∧ term ≤ 60)
def kpOk (key : Tx) (time term : Int) (k : Kp) : Bool := decide (time - k.2.2.2 < term) && (decide (k.1 = key) || (k.2.2.1 && hasL k.1 key))
def srcStep {α : Type} (f : α → Kp) (key : Tx) (time term : Int) (found : Option α) (z : α) : Option α :=
  if kpOk key time term (f z) = true ∧ (∀ y, found = some y → (f y).1.length < (f z).1.length) then some z else found
def srcG {α : Type} (f : α → Kp) (key : Tx) (time term : Int) (zs : List α) : Option α := zs.foldl (srcStep f key time term) none
abbrev srcK (ks : List Kp) (key : Tx) (time term : Int) : Option Kp := srcG (fun k => k) key time term ks
def lastN {α : Type} (m : Int) (l : List α) : List α := l.drop ((l.length : Int) - m).toNat
def dropK (ks : List Kp) (key : Tx) : List Kp := ks.filter fun o => !decide (o.1 = key)
def putK (most : Int) (ks : List Kp) (k : Kp) : List Kp := lastN most (dropK ks k.1 ++ [k])
def useK (ks : List Kp) (one : Kp) : List Kp := dropK ks one.1 ++ [one]
def kpsOk (ks : List Kp) : Prop := (∀ k ∈ ks, rowsOk k.2.1 ∧ okL 20 k.1 = true) ∧ ks.length ≤ 1000
def sp_Shelf___init__ (K : PySem.W.Frag) : Sp := fun vs H Q E => ∃ (I : Hp) (M : List (Addr × HO)) (x dx : Addr) (most term : Int), vs = [.ref x, .int most, .int term] ∧ W I H ((x, .ins (He.ga K "Shelf") dx []) :: M) ∧
  (shelfOk most term = true → ∀ (I' H' : Hp) (o : HO), Sub I I' → W I' H' ((x, o) :: M) → ShO K I' dx most term [] o → Q .non H') ∧ (shelfOk most term = false → E (bN K) none H)
def sp_Shelf_put (K : PySem.W.Frag) : Sp := fun vs H Q _ => ∃ (I : Hp) (M : List (Addr × HO)) (x dx : Addr) (most term : Int) (ks : List Kp) (o : HO) (q : Tx) (l : Addr) (rows : List Tx) (all : Bool) (time : Int), vs = [.ref x, sV q, .ref l, .bl all, .int time] ∧ W I H ((x, o) :: M) ∧ ShO K I dx most term ks o ∧ Ls I M l (.lst (rows.map sV)) ∧
  okL 20 q = true ∧ kpsOk ks ∧ rows.length ≤ 1000 ∧ ∀ (I' H' : Hp) (o' : HO), Sub I I' → W I' H' ((x, o') :: M) → ShO K I' dx most term (putK most ks (foldL q, rows, all, time)) o' → Q .non H'
def sp_Shelf_queries (K : PySem.W.Frag) : Sp := fun vs H Q _ => ∃ (I : Hp) (M : List (Addr × HO)) (x dx : Addr) (most term : Int) (ks : List Kp) (o : HO) (time : Int), vs = [.ref x, .int time] ∧ W I H M ∧ Ls I M x o ∧ ShO K I dx most term ks o ∧ kpsOk ks ∧
  ∀ (I' H' : Hp) (p : Addr), Sub I I' → W I' H' M → I' p = some (.lst (((ks.filter fun k => decide (time - k.2.2.2 < term)).map (·.1)).map sV)) → Q (.ref p) H'
def sp_Shelf_source (K : PySem.W.Frag) : Sp := fun vs H Q _ => ∃ (I : Hp) (M : List (Addr × HO)) (x dx u : Addr) (most term : Int) (zs : List (V × Kp)) (q : Tx) (time : Int), vs = [.ref x, sV q, .int time] ∧ W I H M ∧ Ls I M x (oShelf K dx most term u) ∧ I u = some (.lst (zs.map Prod.fst)) ∧ Enc I kpD zs ∧ okL 20 q = true ∧ kpsOk (zs.map Prod.snd) ∧
  ∀ (H' : Hp), W I H' M → Q (match srcG Prod.snd (foldL q) time term zs with | none => V.non | some z => z.1) H'
def sp_Shelf_get (K : PySem.W.Frag) : Sp := fun vs H Q _ => ∃ (I : Hp) (M : List (Addr × HO)) (x dx : Addr) (most term : Int) (ks : List Kp) (o : HO) (q : Tx) (n time : Int), vs = [.ref x, sV q, .int n, .int time] ∧ W I H ((x, o) :: M) ∧ ShO K I dx most term ks o ∧ okL 12 q = true ∧ kpsOk ks ∧ 0 ≤ n ∧
  (srcK ks (foldL q) time term = none → ∀ H', W I H' ((x, o) :: M) → Q .non H') ∧
  (∀ one, srcK ks (foldL q) time term = some one → ∀ (I' H' : Hp) (o' : HO) (p : Addr), Sub I I' → W I' H' ((x, o') :: M) → ShO K I' dx most term (useK ks one) o' → I' p = some (.lst ((ansR one.2.1 q n).map sV)) → Q (.ref p) H')
def sp_Shelf_clear (K : PySem.W.Frag) : Sp := fun vs H Q _ => ∃ (I : Hp) (M : List (Addr × HO)) (x dx : Addr) (most term : Int) (ks : List Kp) (o : HO), vs = [.ref x] ∧ W I H ((x, o) :: M) ∧ ShO K I dx most term ks o ∧ ∀ (I' H' : Hp) (o' : HO), Sub I I' → W I' H' ((x, o') :: M) → ShO K I' dx most term [] o' → Q .non H'
def t_Shelf___init__ (K : PySem.W.Frag) (E : XK) : TS := tSeq (tIfS (tOr (tNot (tTest (tChain (rI0 fun i j => .bl (decide (i ≤ j))) (rI0 fun i j => .bl (decide (i ≤ j))) (tC (.int 0)) (tVar 1) (tC (.int 6))))) (tNot (tTest (tChain (rI0 fun i j => .bl (decide (i ≤ j))) (rI0 fun i j => .bl (decide (i ≤ j))) (tC (.int 1)) (tVar 2) (tC (.int 60)))))) (fRaise (WD E) (He.ga K "BadNumber")) (tNext)) (tSeq (fSet (He.ga K "Shelf") "most" (tVar 0) (tVar 1)) (tSeq (fSet (He.ga K "Shelf") "term" (tVar 0) (tVar 2)) (fSet (He.ga K "Shelf") "kept" (tVar 0) (tLst (tNil)))))
abbrev nn_Shelf___init__ : List Str := ["self", "most", "term"]
def t_Shelf_put (K : PySem.W.Frag) (E : XK) : TS := tSeq (tAsg (tCall (sp_folded K) [] E (tCons (tVar 1) (tNil))) (gName 5)) (tSeq (fSet (He.ga K "Shelf") "kept" (tVar 0) (tOp (rCat) (fLcL (fFld (He.ga K "Shelf") "kept" (tVar 0)) (gName 6) (tTest (tOp (rNe) (tOp gIxT (tVar 6) (tC (.int 0))) (tVar 5))) (tVar 6) [6]) (tLst (tCons (tTup (tCons (tVar 5) (tCons (tCB (gListL) (tCons (tVar 2) (tNil))) (tCons (tVar 3) (tCons (tVar 4) (tNil)))))) (tNil))))) (fSet (He.ga K "Shelf") "kept" (tVar 0) (tSl gSlL (fFld (He.ga K "Shelf") "kept" (tVar 0)) (tPart (tCB (gMax2) (tCons (tC (.int 0)) (tCons (tOp (rI0 fun i j => .int (i - j)) (tCB (gLenL) (tCons (fFld (He.ga K "Shelf") "kept" (tVar 0)) (tNil))) (fFld (He.ga K "Shelf") "most" (tVar 0))) (tNil))))) (tNoPart))))
abbrev nn_Shelf_put : List Str := ["self", "query", "rows", "is_all", "time", "key", "one"]
def t_Shelf_queries (K : PySem.W.Frag) (E : XK) : TS := tRet (fLcL (fFld (He.ga K "Shelf") "kept" (tVar 0)) (gName 2) (tTest (tOp (rI0 fun i j => .bl (decide (i < j))) (tOp (rI0 fun i j => .int (i - j)) (tVar 1) (tOp gIxT (tVar 2) (tC (.int 3)))) (fFld (He.ga K "Shelf") "term" (tVar 0)))) (tOp gIxT (tVar 2) (tC (.int 0))) [2])
abbrev nn_Shelf_queries : List Str := ["self", "time", "one"]
def t_Shelf_source (K : PySem.W.Frag) (E : XK) : TS := tSeq (tAsg (tCall (sp_folded K) [] E (tCons (tVar 1) (tNil))) (gName 3)) (tSeq (tAsg (tC .non) (gName 4)) (tSeq (fForL (fFld (He.ga K "Shelf") "kept" (tVar 0)) (gName 5) (tIfS (tAnd (tTest (tOp (rI0 fun i j => .bl (decide (i < j))) (tOp (rI0 fun i j => .int (i - j)) (tVar 2) (tOp gIxT (tVar 5) (tC (.int 3)))) (fFld (He.ga K "Shelf") "term" (tVar 0)))) (tOr (tTest (tOp (rEq) (tOp gIxT (tVar 5) (tC (.int 0))) (tVar 3))) (tAnd (tB (tOp gIxT (tVar 5) (tC (.int 2)))) (tTest (tOp (gInS) (tOp gIxT (tVar 5) (tC (.int 0))) (tVar 3)))))) (tIfS (tOr (tTest (tOp (rIsN) (tVar 4) (tC .non))) (tTest (tOp (rI0 fun i j => .bl (decide (j < i))) (tCB (gLenS) (tCons (tOp gIxT (tVar 5) (tC (.int 0))) (tNil))) (tCB (gLenS) (tCons (tOp gIxT (tVar 4) (tC (.int 0))) (tNil)))))) (tAsg (tVar 5) (gName 4)) (tNext)) (tNext))) (tRet (tVar 4))))
abbrev nn_Shelf_source : List Str := ["self", "query", "time", "key", "found", "one"]
def t_Shelf_get (K : PySem.W.Frag) (E : XK) : TS := tSeq (tAsg (fMeth (He.ga K "Shelf") "source" (sp_Shelf_source K) E (tVar 0) (tCons (tVar 1) (tCons (tVar 3) (tNil)))) (gName 4)) (tSeq (tIfS (tTest (tOp (rIsN) (tVar 4) (tC .non))) (tRet (tC .non)) (tNext)) (tSeq (fSet (He.ga K "Shelf") "kept" (tVar 0) (tOp (rCat) (fLcL (fFld (He.ga K "Shelf") "kept" (tVar 0)) (gName 5) (tTest (tOp (rNe) (tOp gIxT (tVar 5) (tC (.int 0))) (tOp gIxT (tVar 4) (tC (.int 0))))) (tVar 5) [5]) (tLst (tCons (tVar 4) (tNil))))) (tRet (tCall (sp_best K) [] E (tCons (tOp gIxT (tVar 4) (tC (.int 1))) (tCons (tVar 1) (tCons (tVar 2) (tNil))))))))
abbrev nn_Shelf_get : List Str := ["self", "query", "many", "time", "one", "other"]
def t_Shelf_clear (K : PySem.W.Frag) (E : XK) : TS := fSet (He.ga K "Shelf") "kept" (tVar 0) (tLst (tNil))
abbrev nn_Shelf_clear : List Str := ["self"]
section
variable {K : PySem.W.Frag}
theorem len_Shelf___init__ : ∀ vs H Q E, sp_Shelf___init__ K vs H Q E → vs.length = ["self", "most", "term"].length := by
  rintro _ _ _ _ ⟨_, _, _, _, _, _, rfl, _⟩; rfl
theorem len_Shelf_put : ∀ vs H Q E, sp_Shelf_put K vs H Q E → vs.length = ["self", "query", "rows", "is_all", "time"].length := by
  rintro _ _ _ _ ⟨_, _, _, _, _, _, _, _, _, _, _, _, _, rfl, _⟩; rfl
theorem len_Shelf_queries : ∀ vs H Q E, sp_Shelf_queries K vs H Q E → vs.length = ["self", "time"].length := by
  rintro _ _ _ _ ⟨_, _, _, _, _, _, _, _, _, rfl, _⟩; rfl
theorem len_Shelf_source : ∀ vs H Q E, sp_Shelf_source K vs H Q E → vs.length = ["self", "query", "time"].length := by
  rintro _ _ _ _ ⟨_, _, _, _, _, _, _, _, _, _, rfl, _⟩; rfl
theorem len_Shelf_get : ∀ vs H Q E, sp_Shelf_get K vs H Q E → vs.length = ["self", "query", "many", "time"].length := by
  rintro _ _ _ _ ⟨_, _, _, _, _, _, _, _, _, _, _, rfl, _⟩; rfl
theorem len_Shelf_clear : ∀ vs H Q E, sp_Shelf_clear K vs H Q E → vs.length = ["self"].length := by
  rintro _ _ _ _ ⟨_, _, _, _, _, _, _, _, rfl, _⟩; rfl
/-- a kept answer's tuple -/
theorem rp_kp {I : Hp} {v : V} {k : Kp} (h : Rp I v (kpD k)) : ∃ t l, v = .ref t ∧ I t = some (.tup [sV k.1, .ref l, .bl k.2.2.1, .int k.2.2.2]) ∧ I l = some (.lst (k.2.1.map sV)) := by
  obtain ⟨a, b, c, d⟩ := k
  cases h with
  | tup h1 h2 =>
    cases h2 with
    | cons x1 h2 =>
      cases h2 with
      | cons x2 h2 =>
        cases h2 with
        | cons x3 h2 =>
          cases h2 with
          | cons x4 h2 =>
            cases h2; cases x1; cases x3; cases x4
            cases x2 with
            | lst y1 y2 =>
              obtain ⟨zs, rfl, e, en⟩ := enc_of (e := sD) y2
              rw [enc_strs en, ← e] at y1
              exact ⟨_, _, rfl, h1, y1⟩
theorem kp_rp {I : Hp} {t l : Addr} {k : Kp} (h1 : I t = some (.tup [sV k.1, .ref l, .bl k.2.2.1, .int k.2.2.2])) (h2 : I l = some (.lst (k.2.1.map sV))) : Rp I (.ref t) (kpD k) :=
  .tup h1 (.cons (.str _) (.cons (.lst h2 (rpAll_tx _)) (.cons (.bl _) (.cons (.int _) .nil))))
theorem atN {α : Type} {xs : List α} {i : Nat} {x : α} (h : xs[i]? = some x) : atI xs (i : Int) = some x := by
  obtain ⟨hl, e⟩ := List.getElem?_eq_some_iff.mp h
  unfold atI ixN
  rw [if_pos (by omega), if_pos (by omega), Int.toNat_natCast]; exact h
theorem at4_0 {a b c d : V} : atI [a, b, c, d] 0 = some a := atN (i := 0) rfl
theorem at4_1 {a b c d : V} : atI [a, b, c, d] 1 = some b := atN (i := 1) rfl
theorem at4_2 {a b c d : V} : atI [a, b, c, d] 2 = some c := atN (i := 2) rfl
theorem at4_3 {a b c d : V} : atI [a, b, c, d] 3 = some d := atN (i := 3) rfl
theorem pure_Shelf___init__ : ∀ vs H Q E, sp_Shelf___init__ K vs H Q E → t_Shelf___init__ K E { nx := fun _ H2 => Q .non H2, rt := Q } (L2.start nn_Shelf___init__ vs) H := by
  rintro vs H Q E ⟨I, M, x, dx, most, term, rfl, w, hQ, hE⟩
  have h0 := w.has.1
  unfold t_Shelf___init__
  simp! [h0]
  unfold shelfOk at hQ hE
  by_cases c1 : 0 ≤ most
  · refine ite_t c1 ?_
    by_cases c2 : most ≤ 6
    · refine ite_nt c2 ?_
      by_cases c3 : 1 ≤ term
      · refine ite_t c3 ?_
        by_cases c4 : term ≤ 60
        · refine ite_nt c4 ?_
          rw [decide_eq_true ⟨c1, c2⟩, decide_eq_true ⟨c3, c4⟩] at hQ
          have l1 : (putF (Str.ofString "most") (V.int most) []).length < 2 := lt_putF lt0
          have l2 : (putF (Str.ofString "term") (V.int term) (putF (Str.ofString "most") (V.int most) [])).length < 3 := lt_putF l1
          refine ⟨by decide, by omega, Nat.zero_le _, fun p hp => ?_⟩
          have w1 := (w.put (o' := .ins (He.ga K "Shelf") dx (putF "most" (.int most) []))).put (o' := .ins (He.ga K "Shelf") dx (putF "term" (.int term) (putF "most" (.int most) [])))
          obtain ⟨I2, s2, w2, h2⟩ := w1.mkI hp (.lst [])
          refine ⟨_, _, w2.has.1, by omega, ?_⟩
          rw [in_Shelf]
          exact hQ rfl I2 _ _ s2 (w2.put (o' := oShelf K dx most term p)) ⟨p, [], rfl, h2, Enc.nil, rfl⟩
        · exact ite_nf c4 (hE (by simp [c4]))
      · exact ite_f c3 (hE (by simp [c3]))
    · exact ite_nf c2 (hE (by simp [c2]))
  · exact ite_f c1 (hE (by simp [c1]))
theorem pure_Shelf_clear : ∀ vs H Q E, sp_Shelf_clear K vs H Q E → t_Shelf_clear K E { nx := fun _ H2 => Q .non H2, rt := Q } (L2.start nn_Shelf_clear vs) H := by
  rintro vs H Q E ⟨I, M, x, dx, most, term, ks, o, rfl, w, ⟨u, zs, rfl, hu, en, es⟩, hQ⟩
  unfold t_Shelf_clear
  simp! [and_true]
  refine ⟨Nat.zero_le _, fun p hp => ?_⟩
  obtain ⟨I2, s2, w2, h2⟩ := w.mkI hp (.lst [])
  refine ⟨_, _, w2.has.1, ln_Shelf, ?_⟩
  rw [pf_Shelf_kept]
  exact hQ I2 _ _ s2 (w2.put (o' := oShelf K dx most term p)) ⟨p, [], rfl, h2, Enc.nil, rfl⟩
theorem fm_keys {time term : Int} : ∀ zs : List (V × Kp), zs.filterMap (fun z => if time - z.2.2.2.2 < term then some z.2.1 else none) = ((zs.map Prod.snd).filter fun k => decide (time - k.2.2.2 < term)).map (·.1)
  | [] => rfl
  | z :: zs => by
    have ih := fm_keys (time := time) (term := term) zs
    rw [List.filterMap_cons, List.map_cons, List.filter_cons]
    by_cases c : time - z.2.2.2.2 < term <;> simp [c] <;> simpa using ih
theorem pure_Shelf_queries : ∀ vs H Q E, sp_Shelf_queries K vs H Q E → t_Shelf_queries K E { nx := fun _ H2 => Q .non H2, rt := Q } (L2.start nn_Shelf_queries vs) H := by
  rintro vs H Q E ⟨I, M, x, dx, most, term, ks, o, time, rfl, w, lx, ⟨u, zs, rfl, hu, en, es⟩, ⟨ko, kl⟩, hQ⟩
  have hx := lx.at w
  have hu1 := w.sub _ _ hu
  have hl : zs.length = ks.length := by rw [← es, List.length_map]
  unfold t_Shelf_queries oShelf at *
  simp! [hx, lk_Shelf_kept, hu1, List.length_map]
  refine comp_data sD (fun i => (zs[i]?).bind fun z => if time - z.2.2.2.2 < term then some z.2.1 else none) w (by omega) (fun I' D acc H' s w' => w'.sub _ _ (s _ _ hu)) ?_ ?_
  · rintro D i y acc I' H' T F hi hy s w' kT kF
    rw [List.getElem?_map, Option.map_eq_some_iff] at hy
    obtain ⟨z, hz, rfl⟩ := hy
    obtain ⟨t, l, e1, e2, e3⟩ := rp_kp (en z (List.mem_of_getElem? hz))
    have e2' := w'.sub _ _ (s _ _ e2)
    have hx' := (lx.mono s).cons.at w'
    simp! [wipe, e1, e2', at4_3, at4_0, hx', lk_Shelf_term]
    by_cases c : time - z.2.2.2.2 < term
    · exact ite_t c (kT I' H' _ z.2.1 (by rw [hz]; simp [c]) (Sub.refl _) w' (.str _))
    · exact ite_f c (kF I' H' (by rw [hz]; simp [c]) (Sub.refl _) w')
  · intro I2 D H2 ys s2 w2 en2 es2
    have e5 : (List.range zs.length).filterMap (fun i => (zs[i]?).bind fun z => if time - z.2.2.2.2 < term then some z.2.1 else none) = (ks.filter fun k => decide (time - k.2.2.2 < term)).map (·.1) := by
      rw [fm_list (g := fun z : V × Kp => if time - z.2.2.2.2 < term then some z.2.1 else none) (fun i a h => by rw [h]; rfl), ← es]
      exact fm_keys zs
    rw [e5] at es2
    rw [enc_strs en2, es2] at w2
    obtain ⟨I3, s3, w3, h3⟩ := w2.frz
    exact hQ I3 H2 D (s2.trans s3) w3 h3
theorem dropK_len (ks : List Kp) (key : Tx) : (dropK ks key).length ≤ ks.length := List.length_filter_le _ _
/-- the tuple's key is not the key -/
theorem keep_turn {zs : List (V × Kp)} {I I' H' : Hp} {M : List (Addr × HO)} (en : Enc I kpD zs) (s : Sub I I') (w' : W I' H' M) {z : V × Kp} (hz : z ∈ zs) : ∃ t l, z.1 = .ref t ∧ H' t = some (.tup [sV z.2.1, .ref l, .bl z.2.2.2.1, .int z.2.2.2.2]) := by
  obtain ⟨t, l, e1, e2, e3⟩ := rp_kp (en z hz)
  exact ⟨t, l, e1, w'.sub _ _ (s _ _ e2)⟩
theorem cut_from (xs : List V) {k : Int} (h : 0 ≤ k) : cutV xs (some k) none = xs.drop k.toNat := by
  unfold cutV
  obtain ⟨m, rfl⟩ := Int.eq_ofNat_of_zero_le h
  have e2 : HT.sIx xs.length 0 (some ((m : Nat) : Int)) = min m xs.length := by unfold HT.sIx; simp only []; rw [if_neg (by omega)]; omega
  rw [e2, HT.sIx_none, Int.toNat_natCast]
  rw [List.take_of_length_le (by simp)]
  by_cases c : m ≤ xs.length
  · rw [Nat.min_eq_left c]
  · rw [Nat.min_eq_right (by omega), List.drop_of_length_le (by omega), List.drop_of_length_le (by omega)]
theorem pure_Shelf_put : ∀ vs H Q E, sp_Shelf_put K vs H Q E → t_Shelf_put K E { nx := fun _ H2 => Q .non H2, rt := Q } (L2.start nn_Shelf_put vs) H := by
  rintro vs H Q E ⟨I, M, x, dx, most, term, ks, o, q, l, rows, all, time, rfl, w, ⟨u, zs, rfl, hu, en, es⟩, ll, okq, ⟨ko, kl⟩, rl, hQ⟩
  have hb := line_big
  have hl : zs.length = ks.length := by rw [← es, List.length_map]
  unfold t_Shelf_put
  simp! [and_true]
  refine ⟨q, rfl, by have := okL_len okq; omega, fun H1 sm1 => ?_⟩
  rw [if_pos okq]
  have w1 := w.same sm1
  have hx := w1.has.1
  have hu1 := w1.sub _ _ hu
  unfold oShelf at *
  simp! [hx, lk_Shelf_kept, hu1]
  refine comp_filter (p := fun z => !decide (z.2.1 = foldL q)) w1 (by omega) (fun _ => rfl) (fun _ => rfl) (fun D o H' w' => w'.sub _ _ hu) (fun z hz D o H' Q' w' q' => ?_) (fun D H2 w2 => ?_)
  · obtain ⟨t, l2, e1, e2⟩ := keep_turn en (Sub.refl _) w' hz
    simp! [wipe, e1, e2, at4_0, S_eq]
    exact q'
  have hl2 := ll.cons.cons.at w2
  simp! [hl2]
  intro p3 hp3
  obtain ⟨I3, s3, w3, h3⟩ := w2.mkI hp3 (.lst (rows.map sV))
  refine ⟨by omega, fun p4 hp4 => ?_⟩
  obtain ⟨I4, s4, w4, h4⟩ := w3.mkI hp4 (.tup [sV (foldL q), .ref p3, .bl all, .int time])
  refine ⟨one_le, fun p5 hp5 => ?_⟩
  have w5 := w4.skip (o := .lst [V.ref p4]) hp5
  have w5' := w4.newM (o := .lst [V.ref p4]) hp5
  refine ⟨D, p5, _, _, rfl, rfl, w5.has.1, w5'.has.1, by simp; have := List.length_filter_le (fun z : V × Kp => !decide (z.2.1 = foldL q)) zs; omega, fun p6 hp6 => ?_⟩
  generalize hys : zs.filter (fun z => !decide (z.2.1 = foldL q)) ++ [((V.ref p4 : V), ((foldL q, rows, all, time) : Kp))] = ys
  have e6 : (zs.filter (fun z => !decide (z.2.1 = foldL q))).map Prod.fst ++ [V.ref p4] = ys.map Prod.fst := by rw [← hys]; simp
  have es6 : ys.map Prod.snd = dropK ks (foldL q) ++ [(foldL q, rows, all, time)] := by
    rw [← hys, ← es]; unfold dropK
    rw [List.map_append, List.filter_map]; rfl
  have en6 : Enc I4 kpD ys := by
    rw [← hys]
    exact ((en.filter _).mono (s3.trans s4)).snoc (kp_rp (k := (foldL q, rows, all, time)) h4 (s4 _ _ h3))
  rw [e6]
  obtain ⟨I6, s6, w6, h6⟩ := w5.drop.mkI hp6 (.lst (ys.map Prod.fst))
  have hx6 := w6.has.1
  simp! [hx6, ln_Shelf, pf_Shelf_kept]
  have w7 := w6.put (o' := oShelf K dx most term p6)
  unfold oShelf at w7
  have hp7 := w7.sub _ _ h6
  simp! [lk_Shelf_kept, lk_Shelf_most, hp7]
  intro p8 hp8
  have hcut : cutV (ys.map Prod.fst) (some (if (((ys.map Prod.fst).length : Int) - most) > 0 then (((ys.map Prod.fst).length : Int) - most) else 0)) none = (lastN most ys).map Prod.fst := by
    rw [List.length_map, cut_from _ (by split <;> omega)]
    unfold lastN
    rw [List.map_drop]
    congr 1
    split <;> omega
  rw [hcut]
  obtain ⟨I8, s8, w8, h8⟩ := w7.mkI hp8 (.lst ((lastN most ys).map Prod.fst))
  refine ⟨_, _, w8.has.1, ln_Shelf, ?_⟩
  rw [pf_Shelf_kept]
  refine hQ I8 _ _ (s3.trans (s4.trans (s6.trans s8))) (w8.put (o' := oShelf K dx most term p8)) ⟨p8, lastN most ys, rfl, h8, (en6.mono (s6.trans s8)).sub fun z hz => List.mem_of_mem_drop hz, ?_⟩
  unfold putK lastN
  rw [List.map_drop, es6, ← List.length_map (f := Prod.snd) (as := ys), es6]
theorem src_map {key : Tx} {time term : Int} (zs : List (V × Kp)) : (srcG Prod.snd key time term zs).map Prod.snd = srcK (zs.map Prod.snd) key time term := by
  unfold srcK srcG
  have : ∀ (zs : List (V × Kp)) (f : Option (V × Kp)), (zs.foldl (srcStep Prod.snd key time term) f).map Prod.snd = (zs.map Prod.snd).foldl (srcStep (fun k => k) key time term) (f.map Prod.snd) := by
    intro zs
    induction zs with
    | nil => intro f; rfl
    | cons z zs ih =>
      intro f
      rw [List.foldl_cons, List.map_cons, List.foldl_cons, ih]
      congr 1
      unfold srcStep
      cases f with
      | none => by_cases c : kpOk key time term z.2 = true <;> simp [c]
      | some y => by_cases c : kpOk key time term z.2 = true ∧ y.2.1.length < z.2.1.length <;> simp [c]
  exact this zs none
theorem src_mem {α : Type} {f : α → Kp} {key : Tx} {time term : Int} {zs : List α} {z : α} (h : srcG f key time term zs = some z) : z ∈ zs := by
  have : ∀ (zs : List α) (o : Option α), zs.foldl (srcStep f key time term) o = some z → z ∈ zs ∨ o = some z := by
    intro zs
    induction zs with
    | nil => intro o h; exact .inr h
    | cons y zs ih =>
      intro o h
      rcases ih _ h with q | q
      · exact .inl (List.mem_cons_of_mem _ q)
      · unfold srcStep at q
        split at q
        · cases q; exact .inl List.mem_cons_self
        · exact .inr q
  rcases this zs none h with q | q
  · exact q
  · cases q
structure PSrc (I : Hp) (M : List (Addr × HO)) (x : Addr) (q : Tx) (time term : Int) (zs : List (V × Kp)) (i : Nat) (σ : L2.St) (H : Hp) : Prop where
  ex : ∃ r5 : Option V, σ = [some (.ref x), some (sV q), some (.int time), some (sV (foldL q)), some (match (zs.take i).foldl (srcStep Prod.snd (foldL q) time term) none with | none => V.non | some z => z.1), r5] ∧ W I H M
theorem find_S (m w : Tx) : (0 ≤ Txt.find (S m) (S w)) ↔ hasL w m = true := by
  have e := in_S m w
  unfold Txt.find
  rw [S_len, ← e]
  cases Builtin.Str.occurrences (S m) (S w) 0 m.length 1 with
  | nil => simp
  | cons i r => simp
theorem pure_Shelf_source : ∀ vs H Q E, sp_Shelf_source K vs H Q E → t_Shelf_source K E { nx := fun _ H2 => Q .non H2, rt := Q } (L2.start nn_Shelf_source vs) H := by
  rintro vs H Q E ⟨I, M, x, dx, u, most, term, zs, q, time, rfl, w, lx, hu, en, okq, ⟨ko, kl⟩, hQ⟩
  have hb := line_big
  unfold t_Shelf_source
  simp! [and_true]
  refine ⟨q, rfl, by have := okL_len okq; omega, fun H1 sm1 => ?_⟩
  rw [if_pos okq]
  have w1 := w.same sm1
  have hx := lx.at w1
  have hu1 := w1.sub _ _ hu
  unfold oShelf at hx
  simp! [hx, lk_Shelf_kept, hu1]
  refine ⟨PSrc I M x q time term zs, ⟨_, rfl, w1⟩, ?_, ?_, ?_⟩
  · rintro i σ H' _ ⟨r5, rfl, w'⟩
    exact w'.sub _ _ hu
  · rintro i y σ H' hy ⟨r5, rfl, w'⟩
    rw [List.getElem?_map, Option.map_eq_some_iff] at hy
    obtain ⟨z, hz, rfl⟩ := hy
    obtain ⟨t, l, e1, e2⟩ := keep_turn en (Sub.refl _) w' (List.mem_of_getElem? hz)
    have hx' := lx.at w'
    unfold oShelf at hx'
    have okz := ko z.2 (List.mem_map.mpr ⟨z, List.mem_of_getElem? hz, rfl⟩)
    have lz := okL_len okz.2
    have fin : ∀ (o : Option (V × Kp)), srcStep Prod.snd (foldL q) time term ((zs.take i).foldl (srcStep Prod.snd (foldL q) time term) none) z = o → ∀ v, v = (match o with | none => V.non | some z => z.1) → ∀ r5', PSrc I M x q time term zs (i + 1) [some (.ref x), some (sV q), some (.int time), some (sV (foldL q)), some v, r5'] H' := by
      rintro o rfl v rfl r5'
      refine ⟨r5', ?_, w'⟩
      rw [take_succ_get hz, List.foldl_append]; rfl
    have hpf := fun f (h : (zs.take i).foldl (srcStep Prod.snd (foldL q) time term) none = some f) => (src_mem (f := Prod.snd) (zs := zs.take i) h)
    generalize (zs.take i).foldl (srcStep Prod.snd (foldL q) time term) none = o at fin hpf ⊢
    have no : kpOk (foldL q) time term z.2 = false → ∀ r5', PSrc I M x q time term zs (i + 1) [some (.ref x), some (sV q), some (.int time), some (sV (foldL q)), some (match o with | none => V.non | some z => z.1), r5'] H' := fun h r5' => fin o (if_neg (by simp [h])) _ rfl r5'
    have ok : ∀ b, kpOk (foldL q) time term z.2 = b → (decide (time - z.2.2.2.2 < term) && (decide (z.2.1 = foldL q) || (z.2.2.2.1 && hasL z.2.1 (foldL q)))) = b := fun b h => h
    cases o with
    | none =>
      have yes : kpOk (foldL q) time term z.2 = true → ∀ r5', PSrc I M x q time term zs (i + 1) [some (.ref x), some (sV q), some (.int time), some (sV (foldL q)), some (V.ref t), r5'] H' := fun h r5' => fin (some z) (if_pos ⟨h, fun y hy => by cases hy⟩) _ e1.symm r5'
      simp! [e1, e2, at4_0, at4_1, at4_2, at4_3, hx', lk_Shelf_term, S_eq, gInS, S_len, in_S, decide_true]
      unfold kpOk at yes no
      by_cases c1 : time - z.2.2.2.2 < term
      · refine ite_t c1 ?_
        by_cases c2 : z.2.1 = foldL q
        · exact ite_t c2 (yes (by simp [c1, c2]) _)
        · refine ite_f c2 ?_
          by_cases c3 : z.2.2.2.1 = true
          · rw [if_pos c3]
            by_cases c4 : hasL z.2.1 (foldL q) = true
            · rw [if_pos c4]; exact yes (by simp [c1, c3, c4]) _
            · rw [if_neg c4]; exact no (by simp [c2, c4]) _
          · rw [if_neg c3]; exact no (by simp [c2, c3]) _
      · exact ite_f c1 (no (by simp [c1]) _)
    | some f =>
      obtain ⟨tf, lf, f1, f2⟩ := keep_turn en (Sub.refl _) w' (List.mem_of_mem_take (hpf f rfl))
      have okf := ko f.2 (List.mem_map.mpr ⟨f, List.mem_of_mem_take (hpf f rfl), rfl⟩)
      have lf' := okL_len okf.2
      have yes : kpOk (foldL q) time term z.2 = true → ∀ r5', (if decide ((f.2.1.length : Int) < (z.2.1.length : Int)) = true then PSrc I M x q time term zs (i + 1) [some (.ref x), some (sV q), some (.int time), some (sV (foldL q)), some (V.ref t), r5'] H' else PSrc I M x q time term zs (i + 1) [some (.ref x), some (sV q), some (.int time), some (sV (foldL q)), some (V.ref tf), r5'] H') := fun h r5' => by
        by_cases c : f.2.1.length < z.2.1.length
        · exact ite_t (by omega) (fin (some z) (if_pos ⟨h, fun y hy => by cases hy; exact c⟩) _ e1.symm r5')
        · exact ite_f (by omega) (fin (some f) (if_neg fun hh => c (hh.2 f rfl)) _ f1.symm r5')
      have no' : kpOk (foldL q) time term z.2 = false → ∀ r5', PSrc I M x q time term zs (i + 1) [some (.ref x), some (sV q), some (.int time), some (sV (foldL q)), some (V.ref tf), r5'] H' := fun h r5' => by rw [← f1]; exact no h r5'
      simp! [e1, e2, f1, f2, at4_0, at4_1, at4_2, at4_3, hx', lk_Shelf_term, S_eq, gInS, S_len, in_S, decide_false, reduceCtorEq]
      unfold kpOk at yes no'
      have a1 : z.2.1.length ≤ sizeLine := by omega
      have a2 : f.2.1.length ≤ sizeLine := by omega
      by_cases c1 : time - z.2.2.2.2 < term
      · refine ite_t c1 ?_
        by_cases c2 : z.2.1 = foldL q
        · exact ite_t c2 ⟨a1, a2, yes (by simp [c1, c2]) _⟩
        · refine ite_f c2 ?_
          by_cases c3 : z.2.2.2.1 = true
          · rw [if_pos c3]
            by_cases c4 : hasL z.2.1 (foldL q) = true
            · rw [if_pos c4]; exact ⟨a1, a2, yes (by simp [c1, c3, c4]) _⟩
            · rw [if_neg c4]; exact no' (by simp [c2, c4]) _
          · rw [if_neg c3]; exact no' (by simp [c2, c3]) _
      · exact ite_f c1 (no' (by simp [c1]) _)
  · rintro σ H' ⟨r5, rfl, w'⟩
    rw [List.length_map, List.take_length]
    simp! [and_true]
    exact hQ _ w'
theorem pure_Shelf_get : ∀ vs H Q E, sp_Shelf_get K vs H Q E → t_Shelf_get K E { nx := fun _ H2 => Q .non H2, rt := Q } (L2.start nn_Shelf_get vs) H := by
  rintro vs H Q E ⟨I, M, x, dx, most, term, ks, o, q, n, time, rfl, w, ⟨u, zs, rfl, hu, en, es⟩, okq, ⟨ko, kl⟩, n0, hno, hyes⟩
  have hb := line_big
  have hl : zs.length = ks.length := by rw [← es, List.length_map]
  have hx := w.has.1
  have hm := src_map (key := foldL q) (time := time) (term := term) zs
  rw [es] at hm
  unfold t_Shelf_get
  simp! [and_true]
  refine ⟨_, _, hx, no_Shelf_source, ?_⟩
  refine ⟨I, _, x, dx, u, most, term, zs, q, time, rfl, w, Ls.head, hu, en, okL_le okq (by decide), by rw [es]; exact ⟨ko, kl⟩, fun H1 w1 => ?_⟩
  cases hs : srcG Prod.snd (foldL q) time term zs with
  | none =>
    rw [hs] at hm
    simp! [decide_true]
    exact hno hm.symm H1 w1
  | some z =>
    rw [hs] at hm
    have hz := src_mem hs
    obtain ⟨t, l, e1, e2, e3⟩ := rp_kp (en z hz)
    have e2' := w1.sub _ _ e2
    have hx1 := w1.has.1
    have hu1 := w1.sub _ _ hu
    unfold oShelf at *
    simp! [e1, decide_false, reduceCtorEq, hx1, lk_Shelf_kept, hu1]
    refine comp_filter (p := fun y => !decide (y.2.1 = z.2.1)) w1 (by omega) (fun _ => rfl) (fun _ => rfl) (fun D o H' w' => w'.sub _ _ hu) (fun y hy D o H' Q' w' q' => ?_) (fun D H2 w2 => ?_)
    · obtain ⟨t2, l2, f1, f2⟩ := keep_turn en (Sub.refl _) w' hy
      have e2'' := w'.sub _ _ e2
      simp! [wipe, f1, f2, at4_0, S_eq, e2'']
      exact q'
    simp! [and_true]
    refine ⟨one_le, fun p5 hp5 => ?_⟩
    have w5 := w2.skip (o := .lst [V.ref t]) hp5
    have w5' := w2.newM (o := .lst [V.ref t]) hp5
    refine ⟨D, p5, _, _, rfl, rfl, w5.has.1, w5'.has.1, by simp; have := List.length_filter_le (fun y : V × Kp => !decide (y.2.1 = z.2.1)) zs; omega, fun p6 hp6 => ?_⟩
    generalize hys : zs.filter (fun y => !decide (y.2.1 = z.2.1)) ++ [z] = ys
    have e6 : (zs.filter (fun y => !decide (y.2.1 = z.2.1))).map Prod.fst ++ [V.ref t] = ys.map Prod.fst := by rw [← hys, ← e1]; simp
    have es6 : ys.map Prod.snd = useK ks z.2 := by
      rw [← hys, ← es]; unfold useK dropK
      rw [List.map_append, List.filter_map]; rfl
    have en6 : Enc I kpD ys := by
      rw [← hys]
      exact (en.filter _).snoc (en z hz)
    rw [e6]
    obtain ⟨I6, s6, w6, h6⟩ := w5.drop.mkI hp6 (.lst (ys.map Prod.fst))
    refine ⟨_, _, w6.has.1, ln_Shelf, ?_⟩
    rw [pf_Shelf_kept]
    have w7 := w6.put (o' := oShelf K dx most term p6)
    have e2' := w7.sub _ _ (s6 _ _ e2)
    unfold oShelf at w7
    refine ⟨_, e2', _, at4_1, ?_⟩
    have okz := ko z.2 (by rw [← es]; exact List.mem_map.mpr ⟨z, hz, rfl⟩)
    refine ⟨I6, _, l, z.2.2.1, q, n, rfl, w7, Ls.i (s6 _ _ e3), okz.1, okq, n0, fun I8 H8 p8 s8 w8 h8 => ?_⟩
    exact hyes z.2 hm.symm I8 H8 _ p8 (s6.trans s8) w8 ⟨p6, ys, rfl, s8 _ _ h6, en6.mono (s6.trans s8), es6⟩ h8
end
end TA

set_option linter.all false
set_option maxRecDepth 100000
set_option maxHeartbeats 1000000
/-! The law's own shelf: the longest that fits, the first of these. -/
namespace TA
open PySem L2 PyProof.Rows
open SX (S S_len S_inj S_cat S_tl)
local macro_rules | `(tactic| simp! [$as,*]) => `(tactic| first | simp only [L2.start, tSeq, tAsg, tOp, fFld, tVar, gIxL, gIxT, tCB, tCons, tNil, gLenL, gLenT, gLenS, rI, rI0, fSet, tIfS, tTest, tB, rNotN, rIsN, rEq, rNe, tC, tDrop, fBM, fBM0, gTy, rAppend, tTup, tLst, tRet, tRetN, tNext, gName, fTup, gCons, gNil, tCall, fCallS, fMeth, tMeth, fMethS, fMake, tMake, fMakeS, tUn, rU, tAnd, tOr, tNot, tAndV, tOrV, tNotV, tIf, tChain, gListL, gListT, tSl, tNoPart, tPart, gSlL, fRaise, gStrI, gCatS, gMin2, gMax2, gIntB, tYes, fLcL, fLcT, fLcS, fLcR1, fForL, fForR1, fForR2, fRev, fGetI, gGetI, gInI, gLenI, fPutI, fNewI,
  List.map_cons, List.map_nil, List.length_cons, List.length_nil, List.replicate, List.cons_append, List.nil_append, List.append_nil, List.getElem?_cons_zero, List.getElem?_cons_succ, List.set_cons_zero, List.set_cons_succ, reduceIte, Bool.not_true, Bool.not_false, Nat.reduceAdd, Nat.reduceSub, Bool.false_eq_true, eq_self,
  Option.some.injEq, V.int.injEq, V.ref.injEq, V.str.injEq, V.bl.injEq, HO.ins.injEq, HO.lst.injEq, HO.tup.injEq, HO.dK.injEq, List.cons.injEq, and_assoc, exists_eq_left', exists_and_left, and_true, true_and, true_or, or_true, false_or, or_false, exists_eq_left, exists_eq_right, exists_eq_right', exists_eq, exists_eq', exists_const, upd_same, sc_ii, sc_ss, sc_bb, sc_in, sc_ni, sc_ns, sc_sn, sc_nn, $as,*] | skip)
abbrev Tri := Int × Int × Int
def triD (x : Tri) : PyData := .tuple ([x.1, x.2.1, x.2.2].map .int)
def mtc (ks : List Kp) (key : Tx) (time term : Int) (k : Nat) : Option Tri := (ks[k]?).bind fun e => if kpOk key time term e = true then some ((e.1.length : Int), 0 - (k : Int), (k : Int)) else none
def mtch (ks : List Kp) (key : Tx) (time term : Int) (i : Nat) : List Tri := (List.range i).filterMap (mtc ks key time term)
theorem tri_lt (x y : Tri) : PySem.W.dataLt (triD x) (triD y) = decide ([x.1, x.2.1, x.2.2] < [y.1, y.2.1, y.2.2]) := by
  unfold triD
  rw [PySem.W.dataLt_tuple]
  exact PySem.W.dataLt_ints _ _
theorem tri_inj {x y : Tri} (h : triD x = triD y) : x = y := by
  obtain ⟨a, b, c⟩ := x
  obtain ⟨a', b', c'⟩ := y
  simp [triD] at h
  obtain ⟨rfl, rfl, rfl⟩ := h
  rfl
theorem maxD_ge : ∀ (xs : List PyData) (x y : PyData), y ∈ x :: xs → PySem.W.dataLt (PySem.W.maxD x xs) y = false
  | [], x, y, h => by
    rw [List.mem_singleton.mp h]
    exact PyProof.Rows.lex_irrefl _
  | z :: xs, x, y, h => by
    have e : PySem.W.maxD x (z :: xs) = PySem.W.maxD (if PySem.W.dataLt x z then z else x) xs := rfl
    rw [e]
    have ih := maxD_ge xs (if PySem.W.dataLt x z then z else x)
    have key : ∀ y, PySem.W.dataLt (if PySem.W.dataLt x z then z else x) y = false → PySem.W.dataLt (PySem.W.maxD (if PySem.W.dataLt x z then z else x) xs) y = false := by
      intro y hy
      have h1 := ih _ List.mem_cons_self
      cases hc : PySem.W.dataLt (PySem.W.maxD (if PySem.W.dataLt x z then z else x) xs) y with
      | false => rfl
      | true =>
        rcases PyProof.Rows.lex_negTrans _ (PySem.W.keyToks (if PySem.W.dataLt x z then z else x)) _ hc with q | q
        · have h1 : PyProof.Rows.lexLt PyProof.Rows.itemOrd _ _ = false := h1
          rw [h1] at q; cases q
        · have hy : PyProof.Rows.lexLt PyProof.Rows.itemOrd _ _ = false := hy
          rw [hy] at q; cases q
    rcases List.mem_cons.mp h with rfl | h
    · refine key _ ?_
      cases hc : PySem.W.dataLt y z with
      | false => simp; exact PyProof.Rows.lex_irrefl _
      | true =>
        simp
        cases hd : PySem.W.dataLt z y with
        | false => rfl
        | true =>
          have := PyProof.Rows.lex_trans _ _ _ hc hd
          rw [PyProof.Rows.lex_irrefl] at this; cases this
    · rcases List.mem_cons.mp h with rfl | h
      · refine key _ ?_
        cases hc : PySem.W.dataLt x y with
        | false => simpa using hc
        | true => simp; exact PyProof.Rows.lex_irrefl _
      · exact ih y (List.mem_cons_of_mem _ h)
theorem src_char (ks : List Kp) (key : Tx) (time term : Int) : ∀ i, i ≤ ks.length → match (ks.take i).foldl (srcStep (fun k => k) key time term) none with
    | none => ∀ (k : Nat) e, k < i → ks[k]? = some e → kpOk key time term e = false
    | some e => ∃ k : Nat, k < i ∧ ks[k]? = some e ∧ kpOk key time term e = true ∧ ∀ (j : Nat) e', j < i → ks[j]? = some e' → kpOk key time term e' = true → e'.1.length ≤ e.1.length ∧ (j < k → e'.1.length < e.1.length)
  | 0, _ => by simp
  | i + 1, hi => by
    have ih := src_char ks key time term i (by omega)
    have hz : ks[i]? = some ks[i] := List.getElem?_eq_getElem (by omega)
    rw [take_succ_get hz, List.foldl_append, List.foldl_cons, List.foldl_nil]
    generalize ks[i] = z at hz
    cases ho : (ks.take i).foldl (srcStep (fun k => k) key time term) none with
    | none =>
      rw [ho] at ih
      by_cases c : kpOk key time term z = true
      · rw [show srcStep (fun k => k) key time term none z = some z from if_pos ⟨c, fun y hy => by cases hy⟩]
        refine ⟨i, by omega, hz, c, fun j e' hj he' ok' => ?_⟩
        by_cases q : j = i
        · subst q; rw [hz] at he'; cases he'; exact ⟨Nat.le_refl _, fun h => by omega⟩
        · have := ih j e' (by omega) he'; rw [ok'] at this; cases this
      · rw [show srcStep (fun k => k) key time term none z = none from if_neg fun h => c h.1]
        intro k e hk he
        by_cases q : k = i
        · subst q; rw [hz] at he; cases he; simpa using c
        · exact ih k e (by omega) he
    | some f =>
      rw [ho] at ih
      obtain ⟨k, hk, hke, okf, hall⟩ := ih
      by_cases c : kpOk key time term z = true ∧ f.1.length < z.1.length
      · rw [show srcStep (fun k => k) key time term (some f) z = some z from if_pos ⟨c.1, fun y hy => by cases hy; exact c.2⟩]
        refine ⟨i, by omega, hz, c.1, fun j e' hj he' ok' => ?_⟩
        by_cases q : j = i
        · subst q; rw [hz] at he'; cases he'; exact ⟨Nat.le_refl _, fun h => by omega⟩
        · have := (hall j e' (by omega) he' ok').1
          exact ⟨by omega, fun _ => by omega⟩
      · rw [show srcStep (fun k => k) key time term (some f) z = some f from if_neg fun h => c ⟨h.1, h.2 f rfl⟩]
        refine ⟨k, by omega, hke, okf, fun j e' hj he' ok' => ?_⟩
        by_cases q : j = i
        · subst q; rw [hz] at he'; cases he'
          have : ¬ f.1.length < z.1.length := fun h => c ⟨ok', h⟩
          exact ⟨by omega, fun h => by omega⟩
        · exact hall j e' (by omega) he' ok'
theorem mem_mtch {ks : List Kp} {key : Tx} {time term : Int} {i : Nat} {x : Tri} : x ∈ mtch ks key time term i ↔ ∃ (k : Nat) (e : Kp), k < i ∧ ks[k]? = some e ∧ kpOk key time term e = true ∧ x = ((e.1.length : Int), 0 - (k : Int), (k : Int)) := by
  unfold mtch mtc
  rw [List.mem_filterMap]
  constructor
  · rintro ⟨k, hk, h⟩
    rw [Option.bind_eq_some_iff] at h
    obtain ⟨e, he, h⟩ := h
    split at h
    · rename_i ok; cases h; exact ⟨k, e, List.mem_range.mp hk, he, ok, rfl⟩
    · cases h
  · rintro ⟨k, e, hk, he, ok, rfl⟩
    exact ⟨k, List.mem_range.mpr hk, by rw [he]; simp [ok]⟩
theorem src_none {ks : List Kp} {key : Tx} {time term : Int} (h : mtch ks key time term ks.length = []) : srcK ks key time term = none := by
  have := src_char ks key time term ks.length (Nat.le_refl _)
  rw [List.take_length] at this
  unfold srcK srcG
  cases ho : ks.foldl (srcStep (fun k => k) key time term) none with
  | none => rfl
  | some e =>
    rw [ho] at this
    obtain ⟨k, hk, hke, ok, _⟩ := this
    have : ((e.1.length : Int), 0 - (k : Int), (k : Int)) ∈ mtch ks key time term ks.length := mem_mtch.mpr ⟨k, e, hk, hke, ok, rfl⟩
    rw [h] at this; cases this
theorem src_max {ks : List Kp} {key : Tx} {time term : Int} {x : Tri} (hx : x ∈ mtch ks key time term ks.length) (hm : triD x = maxOf ((mtch ks key time term ks.length).map triD)) :
    ∃ (k : Nat) (e : Kp), x.2.2 = (k : Int) ∧ ks[k]? = some e ∧ srcK ks key time term = some e := by
  have ge : ∀ y ∈ mtch ks key time term ks.length, ¬ ([x.1, x.2.1, x.2.2] < [y.1, y.2.1, y.2.2]) := by
    intro y hy
    have h1 : triD y ∈ (mtch ks key time term ks.length).map triD := List.mem_map.mpr ⟨y, hy, rfl⟩
    cases hc : (mtch ks key time term ks.length).map triD with
    | nil => rw [hc] at h1; cases h1
    | cons a r =>
      rw [hc] at h1 hm
      have := maxD_ge r a (triD y) h1
      have hm : triD x = PySem.W.maxD a r := hm
      rw [← hm, tri_lt] at this
      exact of_decide_eq_false this
  obtain ⟨k, e, hk, he, ok, rfl⟩ := mem_mtch.mp hx
  refine ⟨k, e, rfl, he, ?_⟩
  have := src_char ks key time term ks.length (Nat.le_refl _)
  rw [List.take_length] at this
  unfold srcK srcG
  cases ho : ks.foldl (srcStep (fun k => k) key time term) none with
  | none =>
    rw [ho] at this
    have := this k e hk he
    rw [ok] at this; cases this
  | some f =>
    rw [ho] at this
    obtain ⟨k', hk', hke', ok', hall⟩ := this
    have g := ge _ (mem_mtch.mpr ⟨k', f, hk', hke', ok', rfl⟩)
    obtain ⟨l1, l2⟩ := hall k e hk he ok
    have hkk : k = k' := by
      have h1 : ¬ ((e.1.length : Int) < (f.1.length : Int)) := fun h => g (by rw [List.cons_lt_cons_iff]; exact .inl h)
      have h2 : ¬ ((e.1.length : Int) = (f.1.length : Int) ∧ 0 - (k : Int) < 0 - (k' : Int)) := fun h => g (by rw [List.cons_lt_cons_iff]; exact .inr ⟨h.1, by rw [List.cons_lt_cons_iff]; exact .inl h.2⟩)
      have h3 : k' ≤ k := by
        rcases Nat.lt_or_ge k k' with q | q
        · have := l2 q; omega
        · exact q
      omega
    subst hkk
    rw [hke'] at he
    cases he; rfl
theorem tri_alike (xs : List Tri) : PySem.W.AlikeAll (xs.map triD) := by
  refine ⟨fun x hx y hy => ?_, fun x hx => ?_⟩
  · obtain ⟨a, _, rfl⟩ := List.mem_map.mp hx
    obtain ⟨b, _, rfl⟩ := List.mem_map.mp hy
    simp [triD, PySem.W.alike, PySem.W.alikeAll]
  · obtain ⟨a, _, rfl⟩ := List.mem_map.mp hx
    simp [triD]
theorem erase_drop : ∀ {ks : List Kp} {k : Nat} {e : Kp}, (ks.map (·.1)).Nodup → ks[k]? = some e → ks.eraseIdx k = dropK ks e.1
  | [], _, _, _, h => by simp at h
  | a :: ks, 0, e, nd, h => by
    simp at h; subst h
    rw [List.map_cons, List.nodup_cons] at nd
    unfold dropK
    rw [List.eraseIdx_cons_zero, List.filter_cons, if_neg (by simp)]
    refine (List.filter_eq_self.mpr fun x hx => ?_).symm
    have : x.1 ≠ a.1 := fun z => nd.1 (List.mem_map.mpr ⟨x, hx, z⟩)
    simpa using this
  | a :: ks, k + 1, e, nd, h => by
    rw [List.map_cons, List.nodup_cons] at nd
    have h' : ks[k]? = some e := by simpa using h
    have ih := erase_drop nd.2 h'
    unfold dropK at *
    have : a.1 ≠ e.1 := fun z => nd.1 (List.mem_map.mpr ⟨e, List.mem_of_getElem? h', z.symm⟩)
    rw [List.eraseIdx_cons_succ, List.filter_cons, if_pos (by simpa using this), ih]
/-- keys that differ, still -/
theorem nd_drop {ks : List Kp} (key : Tx) (nd : (ks.map (·.1)).Nodup) : ((dropK ks key).map (·.1)).Nodup := nd.sublist ((List.filter_sublist).map _)
theorem nd_snoc {ks : List Kp} {k : Kp} (nd : (ks.map (·.1)).Nodup) : ((dropK ks k.1 ++ [k]).map (·.1)).Nodup := by
  rw [List.map_append, List.nodup_append]
  refine ⟨nd_drop _ nd, by simp, fun a ha b hb => ?_⟩
  obtain ⟨x, hx, rfl⟩ := List.mem_map.mp ha
  have := (List.mem_filter.mp hx).2
  simp at hb this
  rw [hb]; exact this
theorem nd_use {ks : List Kp} (one : Kp) (nd : (ks.map (·.1)).Nodup) : ((useK ks one).map (·.1)).Nodup := nd_snoc nd
theorem nd_put {ks : List Kp} (most : Int) (k : Kp) (nd : (ks.map (·.1)).Nodup) : ((putK most ks k).map (·.1)).Nodup := by
  unfold putK lastN
  exact (nd_snoc nd).sublist ((List.drop_sublist _ _).map _)
theorem len_use {ks : List Kp} {one : Kp} (hm : one ∈ ks) : (useK ks one).length ≤ ks.length := by
  unfold useK dropK
  have : (ks.filter fun o => !decide (o.1 = one.1)).length < ks.length := by
    rw [List.length_filter_lt_length_iff_exists]
    exact ⟨one, hm, by simp⟩
  simp; omega
theorem ok_use {ks : List Kp} {one : Kp} (h : kpsOk ks) (hm : one ∈ ks) : kpsOk (useK ks one) := by
  obtain ⟨h1, h2⟩ := h
  refine ⟨fun k hk => ?_, ?_⟩
  · unfold useK at hk
    rcases List.mem_append.mp hk with q | q
    · exact h1 k (List.mem_filter.mp q).1
    · rw [List.mem_singleton.mp q]; exact h1 one hm
  · exact Nat.le_trans (len_use hm) h2
theorem ok_put {ks : List Kp} {k : Kp} {most : Int} (h : ∀ k ∈ ks, rowsOk k.2.1 ∧ okL 20 k.1 = true) (hk : rowsOk k.2.1 ∧ okL 20 k.1 = true) : ∀ e ∈ putK most ks k, rowsOk e.2.1 ∧ okL 20 e.1 = true := by
  intro e he
  unfold putK lastN at he
  rcases List.mem_append.mp (List.mem_of_mem_drop he) with q | q
  · exact h e (List.mem_filter.mp q).1
  · rw [List.mem_singleton.mp q]; exact hk
theorem len_put {ks : List Kp} {k : Kp} {most : Int} (h : 0 ≤ most) : (putK most ks k).length ≤ most.toNat := by
  unfold putK lastN
  rw [List.length_drop]; omega
def sp__law_rows (K : PySem.W.Frag) : Sp := fun vs H Q _ => ∃ (I : Hp) (a t : Addr) (n m : Nat) (M : List (Addr × HO)), vs = [.ref a, .ref t, .int m] ∧ Dr K I H a t n M ∧ n < 800000 ∧ m ≤ 100 ∧
  ∀ (rows : List Tx) (H' : Hp) (p : Addr), (∀ r ∈ rows, okL 15 r = true ∧ foldL r ≠ []) → rows.Nodup → rows.length ≤ m → Dr K I H' a t (n + 1 + 7 * m) ((p, .lst (rows.map sV)) :: M) → Q (.ref p) H'
def sp__law_get (K : PySem.W.Frag) : Sp := fun vs H Q _ => ∃ (I : Hp) (M : List (Addr × HO)) (l : Addr) (zs : List (V × Kp)) (q : Tx) (n time term : Int), vs = [.ref l, sV q, .int n, .int time, .int term] ∧ W I H ((l, .lst (zs.map Prod.fst)) :: M) ∧ Enc I kpD zs ∧ okL 12 q = true ∧ kpsOk (zs.map Prod.snd) ∧ ((zs.map Prod.snd).map (·.1)).Nodup ∧ 0 ≤ n ∧
  (srcK (zs.map Prod.snd) (foldL q) time term = none → ∀ I' H', Sub I I' → W I' H' ((l, .lst (zs.map Prod.fst)) :: M) → Q .non H') ∧
  (∀ one, srcK (zs.map Prod.snd) (foldL q) time term = some one → ∀ (I' H' : Hp) (zs' : List (V × Kp)) (p : Addr), Sub I I' → W I' H' ((l, .lst (zs'.map Prod.fst)) :: M) → Enc I' kpD zs' → zs'.map Prod.snd = useK (zs.map Prod.snd) one → I' p = some (.lst ((ansR one.2.1 q n).map sV)) → Q (.ref p) H')
def t__law_rows (K : PySem.W.Frag) (E : XK) : TS := tSeq (tAsg (tLst (tNil)) (gName 3)) (tSeq (fForR1 (tCons (tCall (sp__law_draw K) [] E (tCons (tVar 0) (tCons (tVar 1) (tCons (tOp (rI0 fun i j => .int (i + j)) (tVar 2) (tC (.int 1))) (tNil))))) (tNil)) (gName 4) (tSeq (tAsg (tCall (sp__law_row K) [] E (tCons (tVar 0) (tCons (tVar 1) (tNil)))) (gName 5)) (tIfS (tAnd (tTest (tOp (gInL true) (tVar 5) (tVar 3))) (tTest (tOp (rNe) (tCall (sp__law_folded K) [] E (tCons (tVar 5) (tNil))) (tC (.str ""))))) (tDrop (fBM "list" rAppend (tVar 3) (tCons (tVar 5) (tNil)))) (tNext)))) (tRet (tVar 3)))
abbrev nn__law_rows : List Str := ["script", "town", "most", "found", "k", "row"]
def t__law_get (K : PySem.W.Frag) (E : XK) : TS := tSeq (tAsg (tCall (sp__law_folded K) [] E (tCons (tVar 1) (tNil))) (gName 5)) (tSeq (tAsg (tLst (tNil)) (gName 6)) (tSeq (fForR1 (tCons (tCB (gLenL) (tCons (tVar 0) (tNil))) (tNil)) (gName 7) (tSeq (tAsg (tOp gIxL (tVar 0) (tVar 7)) (fTup 4 (gCons (gName 8) (gCons (gName 9) (gCons (gName 10) (gCons (gName 11) (gNil))))))) (tIfS (tAnd (tTest (tOp (rI0 fun i j => .bl (decide (i < j))) (tOp (rI0 fun i j => .int (i - j)) (tVar 3) (tVar 11)) (tVar 4))) (tOr (tTest (tOp (rEq) (tVar 8) (tVar 5))) (tAnd (tB (tVar 10)) (tTest (tOp (rI0 fun i j => .bl (decide (j ≤ i))) (fBM "str" gFind (tVar 5) (tCons (tVar 8) (tNil))) (tC (.int 0))))))) (tDrop (fBM "list" rAppend (tVar 6) (tCons (tTup (tCons (tCB (gLenS) (tCons (tVar 8) (tNil))) (tCons (tOp (rI0 fun i j => .int (i - j)) (tC (.int 0)) (tVar 7)) (tCons (tVar 7) (tNil))))) (tNil)))) (tNext)))) (tSeq (tIfS (tTest (tOp (gEqD) (tVar 6) (tLst (tNil)))) (tRet (tC .non)) (tNext)) (tSeq (tAsg (fBM "list" gPopAt (tVar 0) (tCons (tOp gIxT (tCB (gMaxD) (tCons (tVar 6) (tNil))) (tC (.int 2))) (tNil))) (gName 12)) (tSeq (tDrop (fBM "list" rAppend (tVar 0) (tCons (tVar 12) (tNil)))) (tRet (tCall (sp__law_best K) [] E (tCons (tOp gIxT (tVar 12) (tC (.int 1))) (tCons (tVar 1) (tCons (tVar 2) (tNil)))))))))))
abbrev nn__law_get : List Str := ["kept", "query", "many", "time", "term", "key", "some", "k", "name", "rows", "is_all", "when", "used"]
section
variable {K : PySem.W.Frag}
theorem len__law_rows : ∀ vs H Q E, sp__law_rows K vs H Q E → vs.length = ["script", "town", "most"].length := by
  rintro _ _ _ _ ⟨_, _, _, _, _, _, rfl, _⟩; rfl
theorem len__law_get : ∀ vs H Q E, sp__law_get K vs H Q E → vs.length = ["kept", "query", "many", "time", "term"].length := by
  rintro _ _ _ _ ⟨_, _, _, _, _, _, _, _, rfl, _⟩; rfl
structure PRows (K : PySem.W.Frag) (I : Hp) (a t p : Addr) (n m : Nat) (M : List (Addr × HO)) (i : Nat) (σ : L2.St) (H : Hp) : Prop where
  ex : ∃ (rows : List Tx) (r4 r5 : Option V), σ = [some (.ref a), some (.ref t), some (.int m), some (.ref p), r4, r5] ∧ (∀ r ∈ rows, okL 15 r = true ∧ foldL r ≠ []) ∧ rows.Nodup ∧ rows.length ≤ i ∧ Dr K I H a t (n + 1 + 7 * i) ((p, .lst (rows.map sV)) :: M)
theorem pure__law_rows : ∀ vs H Q E, sp__law_rows K vs H Q E → t__law_rows K E { nx := fun _ H2 => Q .non H2, rt := Q } (L2.start nn__law_rows vs) H := by
  rintro vs H Q E ⟨I, a, t, n, m, M, rfl, d, hn, hm, hQ⟩
  have hb := line_big
  unfold t__law_rows
  simp! [and_true]
  refine ⟨Nat.zero_le _, fun p hp => ?_⟩
  have d1 := d.newM (o := .lst []) hp
  refine ⟨I, a, t, n, _, _, rfl, d1, by omega, by omega, fun j H2 j0 j1 d2 => ?_⟩
  refine ⟨_, rfl, by omega, by omega, PRows K I a t p n m M, ⟨[], _, _, rfl, by simp, List.nodup_nil, by simp, d2.le (by omega)⟩, ?_, ?_⟩
  · rintro i σ H3 hi ⟨rows, r4, r5, rfl, ro, nd, rl, d3⟩
    simp! [and_true]
    refine ⟨I, a, t, _, _, rfl, d3, by omega, fun r H4 okr d4 => ?_⟩
    have hp4 := d4.has.1
    simp! [gInL, hp4, txs_flat, in_tx]
    refine ⟨rfl, ?_⟩
    by_cases c : r ∈ rows
    · exact ite_nt c ⟨rows, _, _, rfl, ro, nd, by omega, d4.le (by omega)⟩
    refine ite_nf c ⟨r, rfl, by have := okL_len okr; omega, okL_all okr, fun H5 s5 => ?_⟩
    have d5 := d4.same s5
    have hp5 := d5.has.1
    simp! [lit_e, S_eq, hp5]
    by_cases c2 : foldL r = []
    · exact ite_nt c2 ⟨rows, _, _, rfl, ro, nd, by omega, d5.le (by omega)⟩
    refine ite_nf c2 ⟨by simp; omega, ?_⟩
    refine ⟨rows ++ [r], _, _, rfl, fun x hx => ?_, ?_, by simp; omega, ?_⟩
    · rcases List.mem_append.mp hx with q | q
      · exact ro x q
      · rw [List.mem_singleton.mp q]; exact ⟨okr, c2⟩
    · rw [List.nodup_append]
      exact ⟨nd, by simp, fun a ha b hb => by rw [List.mem_singleton.mp hb]; exact fun e => c (e ▸ ha)⟩
    · rw [List.map_append]
      exact (d5.put (o' := .lst (rows.map sV ++ [r].map sV))).le (by omega)
  · rintro σ H3 ⟨rows, r4, r5, rfl, ro, nd, rl, d3⟩
    simp! [and_true]
    exact hQ rows H3 p ro nd (by omega) (d3.le (by omega))
structure PGet (I : Hp) (l ps : Addr) (M : List (Addr × HO)) (zs : List (V × Kp)) (q : Tx) (n time term : Int) (i : Nat) (σ : L2.St) (H : Hp) : Prop where
  ex : ∃ (I' : Hp) (ts : List (V × Tri)) (rest : List (Option V)), σ = some (.ref l) :: some (sV q) :: some (.int n) :: some (.int time) :: some (.int term) :: some (sV (foldL q)) :: some (.ref ps) :: rest ∧ rest.length = 6 ∧ Sub I I' ∧
    W I' H ((ps, .lst (ts.map Prod.fst)) :: (l, .lst (zs.map Prod.fst)) :: M) ∧ Enc I' triD ts ∧ ts.map Prod.snd = mtch (zs.map Prod.snd) (foldL q) time term i
theorem er_map {α β : Type} (f : α → β) : ∀ (l : List α) (k : Nat), (l.map f).eraseIdx k = (l.eraseIdx k).map f
  | [], _ => by simp
  | a :: l, 0 => by simp
  | a :: l, k + 1 => by simp [er_map f l k]
theorem at3_2 {a b c : V} : atI [a, b, c] 2 = some c := atN (i := 2) rfl
theorem pure__law_get : ∀ vs H Q E, sp__law_get K vs H Q E → t__law_get K E { nx := fun _ H2 => Q .non H2, rt := Q } (L2.start nn__law_get vs) H := by
  rintro vs H Q E ⟨I, M, l, zs, q, n, time, term, rfl, w, en, okq, ⟨ko, kl⟩, nd, n0, hno, hyes⟩
  have hb := line_big
  have lq := okL_len okq
  rw [List.length_map] at kl
  unfold t__law_get
  simp! [and_true]
  refine ⟨q, rfl, by omega, okL_all okq, fun H1 s1 => ⟨Nat.zero_le _, fun ps hps => ?_⟩⟩
  have w1 := (w.same s1).newM (o := .lst []) hps
  have hl1 := w1.has.2.1
  simp! [hl1, List.length_map]
  refine ⟨by omega, by omega, PGet I l ps M zs q n time term, ⟨I, [], _, rfl, rfl, Sub.refl _, w1, Enc.nil, rfl⟩, ?_, ?_⟩
  · rintro i σ H2 hi ⟨I2, ts, rest, rfl, hr, s2, w2, en2, es2⟩
    match rest, hr with
    | [r7, r8, r9, r10, r11, r12], _ =>
    have hi : i < zs.length := by omega
    have hz : zs[i]? = some zs[i] := List.getElem?_eq_getElem hi
    have hin : zs[i] ∈ zs := List.getElem_mem hi
    have hl2 := w2.has.2.1
    generalize zs[i] = z at hz hin
    obtain ⟨t, l2, e1, e2⟩ := keep_turn en s2 w2 hin
    have okz := ko z.2 (List.mem_map.mpr ⟨z, hin, rfl⟩)
    have lz := okL_len okz.2
    have hat : atI (zs.map Prod.fst) (i : Int) = some (.ref t) := by rw [← e1]; exact atN (by rw [List.getElem?_map, hz]; rfl)
    have hps2 := w2.has.1
    have hts : ts.length ≤ i := by
      have := congrArg List.length es2
      rw [List.length_map] at this
      rw [this]; unfold mtch
      exact Nat.le_trans (List.length_filterMap_le _ _) (by simp)
    have em : mtch (zs.map Prod.snd) (foldL q) time term (i + 1) = ts.map Prod.snd ++ (mtc (zs.map Prod.snd) (foldL q) time term i).toList := by
      unfold mtch at *
      rw [List.range_succ, List.filterMap_append, es2]
      cases h : mtc (zs.map Prod.snd) (foldL q) time term i <;> simp [h]
    have hmt : mtc (zs.map Prod.snd) (foldL q) time term i = if kpOk (foldL q) time term z.2 = true then some ((z.2.1.length : Int), 0 - (i : Int), (i : Int)) else none := by
      unfold mtc; rw [List.getElem?_map, hz]; rfl
    have no : kpOk (foldL q) time term z.2 = false → ∀ rest', rest'.length = 6 → PGet I l ps M zs q n time term (i + 1) (some (.ref l) :: some (sV q) :: some (.int n) :: some (.int time) :: some (.int term) :: some (sV (foldL q)) :: some (.ref ps) :: rest') H2 := fun h rest' hr' =>
      ⟨I2, ts, rest', rfl, hr', s2, w2, en2, by rw [em, hmt, h]; simp⟩
    simp! [Int.zero_add, hl2, hat, e2, S_eq, gFind, hps2, S_len]
    have yes : kpOk (foldL q) time term z.2 = true → z.2.1.length ≤ sizeLine ∧ 3 ≤ sizeLine ∧ ∀ (p : Addr), H2 p = none → (∃ x, upd H2 p (.tup [.int (z.2.1.length : Int), .int (0 - (i : Int)), .int (i : Int)]) ps = some (.lst x) ∧ x.length < sizeLine ∧
        PGet I l ps M zs q n time term (i + 1) [some (.ref l), some (sV q), some (.int n), some (.int time), some (.int term), some (sV (foldL q)), some (.ref ps), some (.int i), some (sV z.2.1), some (.ref l2), some (.bl z.2.2.2.1), some (.int z.2.2.2.2), r12] (upd (upd H2 p (.tup [.int (z.2.1.length : Int), .int (0 - (i : Int)), .int (i : Int)])) ps (.lst (x ++ [.ref p])))) := by
      intro h
      refine ⟨by omega, three_le, fun p hp => ?_⟩
      obtain ⟨I3, s3, w3, h3⟩ := w2.mkI hp (.tup [.int (z.2.1.length : Int), .int (0 - (i : Int)), .int (i : Int)])
      refine ⟨_, w3.has.1, by rw [List.length_map]; omega, ?_⟩
      refine ⟨I3, ts ++ [(.ref p, ((z.2.1.length : Int), 0 - (i : Int), (i : Int)))], _, rfl, rfl, s2.trans s3, ?_, (en2.mono s3).snoc (.tup h3 (.cons (.int _) (.cons (.int _) (.cons (.int _) .nil)))), by rw [em, hmt, h]; simp⟩
      have := w3.put (o' := .lst ((ts ++ [((.ref p : V), (((z.2.1.length : Int), 0 - (i : Int), (i : Int)) : Tri))]).map Prod.fst))
      simpa using this
    unfold kpOk at yes no
    by_cases c1 : time - z.2.2.2.2 < term
    · refine ite_t c1 ?_
      by_cases c2 : z.2.1 = foldL q
      · exact ite_t c2 (yes (by simp [c1, c2]))
      · refine ite_f c2 ?_
        by_cases c3 : z.2.2.2.1 = true
        · rw [if_pos c3]
          by_cases c4 : hasL z.2.1 (foldL q) = true
          · exact ite_t ((find_S _ _).mpr c4) (yes (by simp [c1, c3, c4]))
          · exact ite_f (fun h => c4 ((find_S _ _).mp h)) (no (by simp [c2, c4]) _ rfl)
        · rw [if_neg c3]; exact no (by simp [c2, c3]) _ rfl
    · exact ite_f c1 (no (by simp [c1]) _ rfl)
  · rintro σ H2 ⟨I2, ts, rest, rfl, hr, s2, w2, en2, es2⟩
    match rest, hr with
    | [r7, r8, r9, r10, r11, r12], _ =>
    simp! [and_true]
    refine ⟨Nat.zero_le _, fun p hp => ?_⟩
    obtain ⟨I3, s3, w3, h3⟩ := w2.mkI hp (.lst [])
    have es2 : ts.map Prod.snd = mtch (zs.map Prod.snd) (foldL q) time term (zs.map Prod.snd).length := by rw [es2, List.length_map]; rfl
    refine eqD_nil w3.has.1 ((en2.mono s3).mono w3.sub).all (w3.sub _ _ h3) ?_
    cases hts : ts with
    | nil =>
      subst hts
      simp! [List.isEmpty_nil]
      exact hno (src_none es2.symm) I3 _ (s2.trans s3) w3.drop
    | cons t0 ts' =>
      have hne : ts ≠ [] := by rw [hts]; simp
      simp! [List.isEmpty_cons, w3.has.2.1]
      clear hts t0 ts'
      refine ⟨ps, ts.map fun t => (t.1, triD t.2), rfl, by simpa using hne, by rw [List.map_map]; exact w3.has.1, ?_, ?_, ?_, ?_⟩
      · rw [List.map_map, List.map_map]; exact ((en2.mono s3).mono w3.sub).all
      · rw [List.map_map]
        have := tri_alike (ts.map Prod.snd)
        rw [List.map_map] at this
        exact this
      · intro z hz
        obtain ⟨y, _, rfl⟩ := List.mem_map.mp hz
        simp [triD, PyData.depth, PyData.depthAll]
      · intro z hz hmx
        obtain ⟨y, hy, rfl⟩ := List.mem_map.mp hz
        have hyt : y.2 ∈ mtch (zs.map Prod.snd) (foldL q) time term (zs.map Prod.snd).length := by rw [← es2]; exact List.mem_map.mpr ⟨y, hy, rfl⟩
        have hmx : triD y.2 = maxOf ((mtch (zs.map Prod.snd) (foldL q) time term (zs.map Prod.snd).length).map triD) := by
          rw [← es2, List.map_map]
          rw [List.map_map] at hmx
          exact hmx
        obtain ⟨k, e, hk1, hk2, hsrc⟩ := src_max hyt hmx
        rw [List.getElem?_map, Option.map_eq_some_iff] at hk2
        obtain ⟨z, hzk, rfl⟩ := hk2
        have ry := (en2 y hy).mono s3
        obtain ⟨v, a1, a2, a3⟩ := y
        have hk1 : a3 = (k : Int) := hk1
        subst hk1
        cases ry with
        | tup y1 y2 =>
          cases y2 with
          | cons b1 y2 =>
            cases y2 with
            | cons b2 y2 =>
              cases y2 with
              | cons b3 y2 =>
                cases y2; cases b1; cases b2; cases b3
                have y1' := w3.sub _ _ y1
                have hinz := List.mem_of_getElem? hzk
                obtain ⟨t, l2, e1, e2, e3⟩ := rp_kp ((en z hinz).mono (s2.trans s3))
                refine ⟨_, rfl, _, y1', _, at3_2, l, zs.map Prod.fst, k, .ref t, rfl, rfl, w3.has.2.1, by rw [List.length_map]; omega, by rw [List.getElem?_map, hzk, ← e1]; rfl, ?_⟩
                have w4 := w3.swap.put (o' := .lst ((zs.map Prod.fst).eraseIdx k))
                generalize hys : zs.eraseIdx k ++ [z] = ys
                have e6 : (zs.map Prod.fst).eraseIdx k ++ [V.ref t] = ys.map Prod.fst := by rw [← hys, ← e1, er_map]; simp
                have es6 : ys.map Prod.snd = useK (zs.map Prod.snd) z.2 := by
                  rw [← hys]; unfold useK
                  rw [List.map_append, ← er_map, erase_drop nd (by rw [List.getElem?_map, hzk]; rfl)]; rfl
                have en6 : Enc I3 kpD ys := by
                  rw [← hys]
                  exact ((en.mono (s2.trans s3)).sub fun z hz => List.mem_of_mem_eraseIdx hz).snoc ((en z hinz).mono (s2.trans s3))
                refine ⟨.inl ⟨_, w4.has.1⟩, _, w4.has.1, by have := List.length_eraseIdx_le (zs.map Prod.fst) k; rw [List.length_map] at this; omega, ?_⟩
                rw [e6]
                have w5 := w4.put (o' := .lst (ys.map Prod.fst))
                refine ⟨t, rfl, _, w5.sub _ _ e2, _, at4_1, ?_⟩
                have okz := ko z.2 (List.mem_map.mpr ⟨z, hinz, rfl⟩)
                refine ⟨I3, _, l2, z.2.2.1, q, n, rfl, w5, Ls.i e3, okz.1, okq, n0, fun I8 H8 p8 s8 w8 h8 => ?_⟩
                exact hyes z.2 hsrc I8 H8 ys p8 (s2.trans (s3.trans s8)) (w8.swap.drop) (en6.mono s8) es6 h8
end
end TA

set_option linter.all false
set_option maxRecDepth 100000
set_option maxHeartbeats 1000000
/-! What is told from less. Plain. -/
namespace TA
open PySem L2 PyProof.Rows
open SX (S S_len S_inj S_cat S_tl)
/-! ### folded texts -/
def clean : Bool → Tx → Bool
  | _, [] => true
  | b, c :: l => decide (lo1 c = c) && (if c = 32 then !b && clean true l else clean false l)
def endB (acc : Tx) : Bool := decide (acc = [] ∨ acc.getLast? = some 32)
theorem endB_snoc (acc : Tx) (c : Nat) : endB (acc ++ [c]) = decide (c = 32) := by
  unfold endB; simp
theorem lo1_idem (c : Nat) : lo1 (lo1 c) = lo1 c := by unfold lo1; split <;> simp <;> omega
theorem step_clean (acc : Tx) (c : Nat) : ∃ m, stepL acc c = acc ++ m ∧ clean (endB acc) m = true := by
  unfold stepL
  by_cases h : c = 32
  · rw [if_neg (by simpa using h)]
    by_cases h2 : acc ≠ [] ∧ acc.getLast? ≠ some 32
    · rw [if_pos h2]
      refine ⟨[32], rfl, ?_⟩
      have : endB acc = false := by unfold endB; exact decide_eq_false fun q => q.elim h2.1 h2.2
      rw [this]; decide
    · rw [if_neg h2]; exact ⟨[], by simp, rfl⟩
  · rw [if_pos h]
    refine ⟨[lo1 c], rfl, ?_⟩
    unfold clean clean
    rw [if_neg (fun q => h (lo1_32.mp q))]
    simp [lo1_idem]
theorem clean_app : ∀ {b : Bool} {m k : Tx}, clean b m = true → clean (if m = [] then b else endB m) k = true → clean b (m ++ k) = true
  | b, [], k, _, h2 => by simpa using h2
  | b, c :: m, k, h1, h2 => by
    rw [if_neg (by simp)] at h2
    rw [List.cons_append]
    unfold clean at h1 ⊢
    rw [Bool.and_eq_true] at h1 ⊢
    refine ⟨h1.1, ?_⟩
    have h1 := h1.2
    have e : ∀ d, (if m = [] then decide (c = 32) else endB m) = d → endB (c :: m) = d := by
      intro d hd
      rw [← hd]
      by_cases q : m = []
      · subst q; simp [endB]
      · rw [if_neg q]; unfold endB; rw [last_cons q]; simp [q]
    split at h1
    · rename_i hc
      rw [Bool.and_eq_true] at h1
      rw [if_pos hc, Bool.and_eq_true]
      exact ⟨h1.1, clean_app h1.2 (by rw [e _ rfl] at h2; simpa [hc] using h2)⟩
    · rename_i hc
      rw [if_neg hc]
      exact clean_app h1 (by rw [e _ rfl] at h2; simpa [hc] using h2)
theorem endB_app {acc m : Tx} (h : m ≠ []) : endB (acc ++ m) = endB m := by
  unfold endB; rw [last_app h]; simp [h]
theorem foldl_clean : ∀ (l acc : Tx), ∃ m, l.foldl stepL acc = acc ++ m ∧ clean (endB acc) m = true
  | [], acc => ⟨[], by simp, rfl⟩
  | c :: l, acc => by
    obtain ⟨m1, e1, c1⟩ := step_clean acc c
    obtain ⟨m2, e2, c2⟩ := foldl_clean l (stepL acc c)
    refine ⟨m1 ++ m2, by rw [List.foldl_cons, e2, e1, List.append_assoc], clean_app c1 ?_⟩
    rw [e1] at c2
    by_cases q : m1 = []
    · rw [if_pos q]; rw [q, List.append_nil] at c2; exact c2
    · rw [if_neg q]; rw [endB_app q] at c2; exact c2
theorem clean_pre : ∀ {b : Bool} {m k : Tx}, clean b (m ++ k) = true → clean b m = true
  | b, [], k, _ => by cases b <;> rfl
  | b, c :: m, k, h => by
    rw [List.cons_append] at h
    unfold clean at h ⊢
    rw [Bool.and_eq_true] at h ⊢
    refine ⟨h.1, ?_⟩
    have h := h.2
    split at h
    · rename_i hc
      rw [Bool.and_eq_true] at h
      rw [if_pos hc, Bool.and_eq_true]
      exact ⟨h.1, clean_pre h.2⟩
    · rename_i hc
      rw [if_neg hc]; exact clean_pre h
theorem fold_clean (l : Tx) : clean true (foldL l) = true := by
  rw [← fold_eq]
  obtain ⟨m, e, c⟩ := foldl_clean l []
  rw [e]
  rw [show endB [] = true by decide] at c
  unfold finL
  split
  · rename_i h
    have hm : m ≠ [] := fun q => by rw [q] at h; simp at h
    rw [List.nil_append]
    have : m = m.dropLast ++ [m.getLast hm] := (List.dropLast_concat_getLast hm).symm
    rw [this] at c
    exact clean_pre c
  · exact c
theorem clean_weak : ∀ {m : Tx}, clean true m = true → clean false m = true
  | [], _ => rfl
  | c :: m, h => by
    unfold clean at h ⊢
    rw [Bool.and_eq_true] at h ⊢
    refine ⟨h.1, ?_⟩
    have h := h.2
    split at h
    · simp at h
    · rename_i hc; rw [if_neg hc]; exact h
theorem clean_foldl : ∀ (m acc : Tx), clean (endB acc) m = true → m.foldl stepL acc = acc ++ m
  | [], acc, _ => by simp
  | c :: m, acc, h => by
    unfold clean at h
    rw [Bool.and_eq_true] at h
    have h1 := of_decide_eq_true h.1
    have h := h.2
    have e : stepL acc c = acc ++ [c] := by
      unfold stepL
      split at h
      · rename_i hc
        rw [Bool.and_eq_true] at h
        rw [if_neg (by simpa using hc), if_pos, hc]
        have := h.1
        unfold endB at this
        simp at this
        exact ⟨this.1, this.2⟩
      · rename_i hc
        rw [if_pos hc, h1]
    rw [List.foldl_cons, e, clean_foldl m (acc ++ [c]), List.append_assoc]
    · rfl
    · rw [endB_snoc]
      split at h
      · rename_i hc; rw [Bool.and_eq_true] at h; rw [decide_eq_true hc]; exact h.2
      · rename_i hc; rw [decide_eq_false hc]; exact h
theorem spl_free' : ∀ (l acc : Tx), 32 ∉ acc → ∀ p ∈ TL.spl [32] 0 acc l, 32 ∉ p
  | [], acc, h, p, hp => by rw [TL.spl_nil] at hp; rw [List.mem_singleton.mp hp]; exact h
  | c :: l, acc, h, p, hp => by
    by_cases hc : c = 32
    · rw [TL.spl_hit (by rw [pre1]; simpa using hc)] at hp
      rcases List.mem_cons.mp hp with q | q
      · rw [q]; exact h
      · exact spl_free' l [] (by simp) p q
    · rw [TL.spl_miss (by rw [pre1]; simpa using hc)] at hp
      refine spl_free' l (acc ++ [c]) ?_ p hp
      simp only [List.mem_append, List.mem_singleton, not_or]
      exact ⟨h, fun z => hc z.symm⟩
theorem fold_last (l : Tx) : (foldL l).getLast? ≠ some 32 := by
  unfold foldL
  have hw : ∀ p ∈ (TL.spl [32] 0 [] (l.map lo1)).filter nonE, 32 ∉ p ∧ p ≠ [] := fun p hp => by
    obtain ⟨h1, h2⟩ := List.mem_filter.mp hp
    refine ⟨spl_free' _ [] (by simp) p h1, fun q => ?_⟩
    subst q; simp [nonE] at h2
  generalize (TL.spl [32] 0 [] (l.map lo1)).filter nonE = ws at hw
  cases h : ws.getLast? with
  | none => rw [List.getLast?_eq_none_iff.mp h]; simp [TL.joinL]
  | some w =>
    obtain ⟨ys, rfl⟩ := List.getLast?_eq_some_iff.mp h
    obtain ⟨h1, h2⟩ := hw w (by simp)
    rw [joinL_last w h2]
    exact fun q => h1 (List.mem_of_getLast? q)
theorem fold_of_clean {m : Tx} (h : clean true m = true) (hl : m.getLast? ≠ some 32) : foldL m = m := by
  rw [← fold_eq, clean_foldl m [] h, List.nil_append]
  unfold finL
  rw [if_neg hl]
theorem fold_idem (l : Tx) : foldL (foldL l) = foldL l := fold_of_clean (fold_clean l) (fold_last l)
theorem fold_longer (l : Tx) : foldL ([97, 98] ++ foldL l ++ [99]) = [97, 98] ++ foldL l ++ [99] := by
  refine fold_of_clean ?_ (by rw [last_app (by simp)]; simp)
  refine clean_app (m := [97, 98] ++ foldL l) (clean_app (m := [97, 98]) (by decide) ?_) ?_
  · rw [if_neg (by simp), show endB [97, 98] = false by decide]
    exact clean_weak (fold_clean l)
  · rw [if_neg (by simp)]
    cases endB ([97, 98] ++ foldL l) <;> decide
/-! ### who fits -/
theorem has_iff' {w m : Tx} : hasL w m = true ↔ ∃ a b, m = a ++ w ++ b := by
  rw [has_iff]
  constructor
  · rintro ⟨k, hk⟩
    obtain ⟨h1, h2⟩ := mem_spots.mp hk
    obtain ⟨r, hr⟩ := pre_iff.mp h2
    exact ⟨m.take k, r, by rw [List.append_assoc, ← hr, List.take_append_drop]⟩
  · rintro ⟨a, b, rfl⟩
    refine ⟨a.length, mem_spots.mpr ⟨by simp, pre_iff.mpr ⟨b, ?_⟩⟩⟩
    rw [List.append_assoc, List.drop_left]
theorem has_trans {a b c : Tx} (h1 : hasL a b = true) (h2 : hasL b c = true) : hasL a c = true := by
  obtain ⟨x, y, rfl⟩ := has_iff'.mp h1
  obtain ⟨z, u, rfl⟩ := has_iff'.mp h2
  exact has_iff'.mpr ⟨z ++ x, y ++ u, by simp⟩
theorem rank_some {r q : Tx} : (rankL r q).isSome = hasL (foldL q) (foldL r) := by
  unfold rankL rankM
  by_cases h : hasL (foldL q) (foldL r) = true
  · rw [h]
    repeat' split
    all_goals first | rfl | simp_all
  · have h1 : ¬ foldL r = foldL q := fun e => h (has_iff'.mpr ⟨[], [], by simp [e]⟩)
    have h2 : ¬ TL.pre (foldL q) (foldL r) = true := fun e => by
      obtain ⟨b, hb⟩ := pre_iff.mp e
      exact h (has_iff'.mpr ⟨[], b, by simp [hb]⟩)
    have h3 : ¬ hasL (32 :: foldL q) (foldL r) = true := fun e => by
      obtain ⟨a, b, hb⟩ := has_iff'.mp e
      exact h (has_iff'.mpr ⟨a ++ [32], b, by rw [hb]; simp⟩)
    rw [if_neg h1, if_neg h2, if_neg h3, if_neg h]
    simpa using h
theorem fit_congr {q q' : Tx} (h : foldL q = foldL q') : fitOf q = fitOf q' := by
  funext r; unfold fitOf rankL; rw [h]
theorem best_congr {q q' : Tx} (rows : List Tx) (h : foldL q = foldL q') : bestL rows q = bestL rows q' := by
  unfold bestL; rw [fit_congr h]
theorem fit_back {q : Tx} {x : Fit} {rows : List Tx} (h : x ∈ rows.filterMap (fitOf q)) : fitOf q x.2.2 = some x := by
  obtain ⟨r, hr, e⟩ := List.mem_filterMap.mp h
  unfold fitOf at e ⊢
  obtain ⟨k, hk, rfl⟩ := Option.map_eq_some_iff.mp e
  rw [hk]; rfl
theorem fm_back {q : Tx} : ∀ {xs : List Fit}, (∀ x ∈ xs, fitOf q x.2.2 = some x) → (xs.map (·.2.2)).filterMap (fitOf q) = xs
  | [], _ => rfl
  | x :: xs, h => by
    rw [List.map_cons, List.filterMap_cons, h x List.mem_cons_self, fm_back fun y hy => h y (List.mem_cons_of_mem _ hy)]
/-- the first m of the best are the best of themselves -/
theorem best_take (rows : List Tx) (q : Tx) (m : Nat) : bestL ((bestL rows q).take m) q = (bestL rows q).take m := by
  have h1 : ((bestL rows q).take m).filterMap (fitOf q) = (sortE fitD (rows.filterMap (fitOf q))).take m := by
    unfold bestL
    rw [← List.map_take]
    exact fm_back fun x hx => fit_back (sortE_mem.mp (List.mem_of_mem_take hx))
  have e : ∀ X, bestL X q = (sortE fitD (X.filterMap (fitOf q))).map (·.2.2) := fun _ => rfl
  rw [e ((bestL rows q).take m), h1, sortE_id ((sortE_sorted _).sublist (List.take_sublist _ _)), List.map_take]
  rfl
theorem best_filter (q' : Tx) : ∀ rows : List Tx, (rows.filterMap (fitOf q')).map (·.2.2) = rows.filter fun r => (rankL r q').isSome
  | [] => rfl
  | r :: rows => by
    have ih := best_filter q' rows
    rw [List.filterMap_cons, List.filter_cons]
    unfold fitOf at ih ⊢
    cases hk : rankL r q' <;> simp <;> simpa using ih
theorem fm_less {q q' : Tx} (h : hasL (foldL q') (foldL q) = true) : ∀ rows : List Tx, (rows.filter fun r => (rankL r q').isSome).filterMap (fitOf q) = rows.filterMap (fitOf q)
  | [] => rfl
  | r :: rows => by
    have ih' := fm_less h rows
    rw [List.filter_cons]
    by_cases c : (rankL r q').isSome = true
    · rw [if_pos c, List.filterMap_cons, List.filterMap_cons, ih']
    · rw [if_neg c, List.filterMap_cons, ih']
      have : fitOf q r = none := by
        unfold fitOf
        cases hk : rankL r q with
        | none => rfl
        | some k =>
          exfalso
          apply c
          rw [rank_some]
          have h2 : (rankL r q).isSome = true := by rw [hk]; rfl
          rw [rank_some] at h2
          exact has_trans h h2
      rw [this]
/-- the best of all that fit less are the best -/
theorem best_less (rows : List Tx) {q q' : Tx} (h : hasL (foldL q') (foldL q) = true) : bestL (bestL rows q') q = bestL rows q := by
  have p1 : (bestL rows q').Perm (rows.filter fun r => (rankL r q').isSome) := by
    rw [← best_filter]
    exact (List.mergeSort_perm _ _).map _
  rw [best_perm q p1]
  have e : ∀ X, bestL X q = (sortE fitD (X.filterMap (fitOf q))).map (·.2.2) := fun _ => rfl
  rw [e, fm_less h, e]
/-- a kept answer that is the store's -/
def Faith (rows : List Tx) (n : Int) (k : Kp) : Prop := ∃ q, okL 12 q = true ∧ k.1 = foldL q ∧ k.2.1 = ansR rows q n ∧ k.2.2.1 = ansA rows q n
theorem told_less {rows : List Tx} {n : Int} {k : Kp} {q : Tx} {time term : Int} (n0 : 0 ≤ n) (f : Faith rows n k) (h : kpOk (foldL q) time term k = true) : ansR k.2.1 q n = ansR rows q n := by
  obtain ⟨q', _, h1, h2, h3⟩ := f
  unfold kpOk at h
  rw [Bool.and_eq_true, Bool.or_eq_true] at h
  rcases h.2 with c | c
  · have e : foldL q' = foldL q := by rw [← h1]; exact of_decide_eq_true c
    rw [h2]; unfold ansR
    rw [best_congr rows e, best_take, List.take_take, Nat.min_self]
  · rw [Bool.and_eq_true, h3, h1] at c
    have hl : (bestL rows q').length ≤ n.toNat := by
      have := of_decide_eq_true c.1; omega
    rw [h2]; unfold ansR
    rw [List.take_of_length_le hl, best_less rows c.2]
theorem src_ok {ks : List Kp} {key : Tx} {time term : Int} {one : Kp} (h : srcK ks key time term = some one) : kpOk key time term one = true := by
  have := src_char ks key time term ks.length (Nat.le_refl _)
  rw [List.take_length] at this
  unfold srcK srcG at h
  rw [h] at this
  obtain ⟨_, _, _, ok, _⟩ := this
  exact ok
theorem src_none_iff {ks : List Kp} {key : Tx} {time term : Int} : srcK ks key time term = none ↔ ∀ k ∈ ks, kpOk key time term k = false := by
  constructor
  · intro h k hk
    obtain ⟨i, hi, e⟩ := List.mem_iff_getElem.mp hk
    have := src_char ks key time term ks.length (Nat.le_refl _)
    rw [List.take_length] at this
    unfold srcK srcG at h
    rw [h] at this
    exact this i k hi (by rw [List.getElem?_eq_getElem hi, e])
  · intro h
    cases hs : srcK ks key time term with
    | none => rfl
    | some one => have := src_ok hs; rw [h one (src_mem hs)] at this; cases this
theorem told_get {rows : List Tx} {n : Int} {ks : List Kp} {q : Tx} {time term : Int} {one : Kp} (n0 : 0 ≤ n) (f : ∀ k ∈ ks, Faith rows n k) (h : srcK ks (foldL q) time term = some one) : ansR one.2.1 q n = ansR rows q n :=
  told_less n0 (f one (src_mem h)) (src_ok h)
theorem faith_use {rows : List Tx} {n : Int} {ks : List Kp} {one : Kp} (f : ∀ k ∈ ks, Faith rows n k) (h : one ∈ ks) : ∀ k ∈ useK ks one, Faith rows n k := by
  intro k hk
  unfold useK at hk
  rcases List.mem_append.mp hk with q | q
  · exact f k (List.mem_filter.mp q).1
  · rw [List.mem_singleton.mp q]; exact f one h
theorem faith_put {rows : List Tx} {n most : Int} {ks : List Kp} {one : Kp} (f : ∀ k ∈ ks, Faith rows n k) (h : Faith rows n one) : ∀ k ∈ putK most ks one, Faith rows n k := by
  intro k hk
  unfold putK lastN at hk
  rcases List.mem_append.mp (List.mem_of_mem_drop hk) with q | q
  · exact f k (List.mem_filter.mp q).1
  · rw [List.mem_singleton.mp q]; exact h
theorem mem_put {ks : List Kp} {one : Kp} {most : Int} (h : 1 ≤ most) : one ∈ putK most ks one := by
  unfold putK lastN
  rw [List.drop_append, List.mem_append]
  right
  have : ((((dropK ks one.1 ++ [one]).length : Int) - most).toNat - (dropK ks one.1).length) = 0 := by simp; omega
  rw [this]; simp
theorem nd_inj : ∀ {ks : List Kp} {a b : Kp}, (ks.map (·.1)).Nodup → a ∈ ks → b ∈ ks → a.1 = b.1 → a = b
  | [], _, _, _, h, _, _ => by cases h
  | x :: ks, a, b, nd, ha, hb, e => by
    rw [List.map_cons, List.nodup_cons] at nd
    rcases List.mem_cons.mp ha with e1 | h1
    · rcases List.mem_cons.mp hb with e2 | h2
      · rw [e1, e2]
      · rw [e1] at e; exact absurd (List.mem_map.mpr ⟨b, h2, e.symm⟩) nd.1
    · rcases List.mem_cons.mp hb with e2 | h2
      · rw [e2] at e; exact absurd (List.mem_map.mpr ⟨a, h1, e⟩) nd.1
      · exact nd_inj nd.2 h1 h2 e
theorem keys_use {ks : List Kp} {one k : Kp} (nd : (ks.map (·.1)).Nodup) (h1 : one ∈ ks) : k ∈ useK ks one ↔ k ∈ ks := by
  unfold useK dropK
  rw [List.mem_append, List.mem_filter, List.mem_singleton]
  constructor
  · rintro (h | rfl)
    · exact h.1
    · exact h1
  · intro h
    by_cases e : k.1 = one.1
    · right
      exact nd_inj nd h h1 e
    · exact .inl ⟨h, by simpa using e⟩
end TA

set_option linter.all false
set_option maxRecDepth 100000
set_option maxHeartbeats 2000000
/-! Roads. -/
namespace TA
open PySem L2
local macro_rules | `(tactic| simp! [$as,*]) => `(tactic| first | simp only [L2.start, tSeq, tAsg, tOp, fFld, tVar, gIxL, gIxT, tCB, tCons, tNil, gLenL, gLenT, gLenS, rI, rI0, fSet, tIfS, tTest, tB, rNotN, rIsN, rEq, rNe, tC, tDrop, fBM, fBM0, gTy, rAppend, tTup, tLst, tRet, tRetN, tNext, gName, fTup, gCons, gNil, tCall, fCallS, fMeth, tMeth, fMethS, fMake, tMake, fMakeS, tUn, rU, tAnd, tOr, tNot, tAndV, tOrV, tNotV, tIf, tChain, gListL, gListT, tSl, tNoPart, tPart, gSlL, fRaise, gStrI, gCatS, gMin2, gMax2, gIntB, tYes, fLcL, fLcT, fLcS, fLcR1, fForL, fForR1, fForR2, fRev, fGetI, gGetI, gInI, gLenI, fPutI, fNewI,
  List.map_cons, List.map_nil, List.length_cons, List.length_nil, List.replicate, List.cons_append, List.nil_append, List.append_nil, List.getElem?_cons_zero, List.getElem?_cons_succ, List.set_cons_zero, List.set_cons_succ, reduceIte, Bool.not_true, Bool.not_false, Nat.reduceAdd, Nat.reduceSub, Bool.false_eq_true, eq_self,
  Option.some.injEq, V.int.injEq, V.ref.injEq, V.str.injEq, V.bl.injEq, HO.ins.injEq, HO.lst.injEq, HO.tup.injEq, HO.dK.injEq, List.cons.injEq, and_assoc, exists_eq_left', exists_and_left, and_true, true_and, true_or, or_true, false_or, or_false, exists_eq_left, exists_eq_right, exists_eq_right', exists_eq, exists_eq', exists_const, upd_same, sc_ii, sc_ss, sc_bb, sc_in, sc_ni, sc_ns, sc_sn, sc_nn, $as,*] | skip)
def n_Road : List Str := ["delays", "sent", "under_way"]
theorem nd_Road : n_Road.Nodup := by decide +kernel
section
variable {v0 v1 v2 x : V}
theorem lk_Road_delays : (n_Road.zip [v0, v1, v2]).lookup ("delays" : Str) = some v0 := lookup_zip 0 nd_Road rfl rfl
theorem pf_Road_delays : putF ("delays" : Str) x (n_Road.zip [v0, v1, v2]) = n_Road.zip [x, v1, v2] := putF_zip 0 nd_Road rfl (by simp only [List.length_cons, List.length_nil]; omega)
theorem lk_Road_sent : (n_Road.zip [v0, v1, v2]).lookup ("sent" : Str) = some v1 := lookup_zip 1 nd_Road rfl rfl
theorem pf_Road_sent : putF ("sent" : Str) x (n_Road.zip [v0, v1, v2]) = n_Road.zip [v0, x, v2] := putF_zip 1 nd_Road rfl (by simp only [List.length_cons, List.length_nil]; omega)
theorem lk_Road_under_way : (n_Road.zip [v0, v1, v2]).lookup ("under_way" : Str) = some v2 := lookup_zip 2 nd_Road rfl rfl
theorem pf_Road_under_way : putF ("under_way" : Str) x (n_Road.zip [v0, v1, v2]) = n_Road.zip [v0, v1, x] := putF_zip 2 nd_Road rfl (by simp only [List.length_cons, List.length_nil]; omega)
theorem no_Road_send : (n_Road.zip [v0, v1, v2]).lookup ("send" : Str) = none := lookup_out (by decide +kernel)
theorem no_Road_due : (n_Road.zip [v0, v1, v2]).lookup ("due" : Str) = none := lookup_out (by decide +kernel)
theorem no_Road_many : (n_Road.zip [v0, v1, v2]).lookup ("many" : Str) = none := lookup_out (by decide +kernel)
theorem in_Road : putF "under_way" v2 (putF "sent" v1 (putF "delays" v0 ([]))) = n_Road.zip [v0, v1, v2] := by kernel_rfl
theorem il_Road_1 : (putF "delays" v0 ([])).length < 1000 := Nat.lt_of_lt_of_le (lt_putF lt0) (by omega)
theorem il_Road_2 : (putF "sent" v1 (putF "delays" v0 ([]))).length < 1000 := Nat.lt_of_lt_of_le (lt_putF (lt_putF lt0)) (by omega)
theorem il_Road_3 : (putF "under_way" v2 (putF "sent" v1 (putF "delays" v0 ([])))).length < 1000 := Nat.lt_of_lt_of_le (lt_putF (lt_putF (lt_putF lt0))) (by omega)
theorem ln_Road : (n_Road.zip [v0, v1, v2]).length < 1000 := by simp only [n_Road, List.zip_cons_cons, List.zip_nil_right, List.length_cons, List.length_nil]; omega
end
/-- a road as an object -/
def oRoad (K : PySem.W.Frag) (dx d : Addr) (n : Int) (u : Addr) : HO := .ins (He.ga K "Road") dx (n_Road.zip [.ref d, .int n, .ref u])
def delV : Option Int → V
  | none => .non
  | some i => .int i
def delOk : Option Int → Bool
  | none => true
  | some i => decide (1 ≤ i) && decide (i ≤ 30)
def roadOk (ds : List (Option Int)) : Bool := decide (1 ≤ ds.length) && decide (ds.length ≤ 8) && ds.all delOk
/-- an ask under way: when it comes, its number, its query -/
abbrev Ask := Int × Int × Str
def askD (x : Ask) : PyData := .tuple [.int x.1, .int x.2.1, .str x.2.2]
def dueD (x : Ask) : PyData := .tuple [.int x.2.1, .str x.2.2]
theorem ask_sorts : Sorts askD := ⟨fun x y => by simp [askD, PySem.W.alike, PySem.W.alikeAll], .inl fun x => ⟨_, _, rfl⟩, fun x => by simp [askD, PyData.depth, PyData.depthAll]⟩
theorem rp_ask {H : Hp} {v : V} {x : Ask} (h : Rp H v (askD x)) : ∃ t, v = .ref t ∧ H t = some (.tup [.int x.1, .int x.2.1, .str x.2.2]) := by
  unfold askD at h
  cases h with
  | tup h r =>
    cases r with
    | cons h1 r =>
      cases r with
      | cons h2 r =>
        cases r with
        | cons h3 r =>
          cases r
          cases h1; cases h2; cases h3
          exact ⟨_, rfl, h⟩
/-- the delays that a road keeps, what is under way -/
structure RoadW (K : PySem.W.Frag) (I H : Hp) (p dx d u : Addr) (ds : List (Option Int)) (n : Nat) (zs : List (V × Ask)) (M : List (Addr × HO)) : Prop where
  w : W I H ((p, oRoad K dx d n u) :: (u, .lst (zs.map Prod.fst)) :: M)
  dl : I d = some (.lst (ds.map delV))
  en : Enc I askD zs
/-- the next delay -/
def nextDelay (ds : List (Option Int)) (n : Nat) : Option Int := (ds[n % ds.length]?).getD none
def sentUw (ds : List (Option Int)) (n : Nat) (uw : List Ask) (q : Str) (time : Int) : List Ask := match nextDelay ds n with
  | none => uw
  | some d => uw ++ [(time + d, ((n + 1 : Nat) : Int), q)]
def sp_Road___init__ (K : PySem.W.Frag) : Sp := fun vs H Q E => ∃ (I : Hp) (M : List (Addr × HO)) (p dx l : Addr) (ds : List (Option Int)), vs = [.ref p, .ref l] ∧ W I H ((p, .ins (He.ga K "Road") dx []) :: M) ∧ (∀ I' H' o, Sub I I' → W I' H' ((p, o) :: M) → H' l = some (.lst (ds.map delV))) ∧ ds.length ≤ 100 ∧
  (roadOk ds = true → ∀ (I' H' : Hp) (d u : Addr), Sub I I' → RoadW K I' H' p dx d u ds 0 [] M → Q .non H') ∧ (roadOk ds = false → ∀ (I' H' : Hp), Sub I I' → W I' H' ((p, .ins (He.ga K "Road") dx []) :: M) → E (.ref (He.ga K "BadNumber")) none H')
def sp_Road_send (K : PySem.W.Frag) : Sp := fun vs H Q _ => ∃ (I : Hp) (M : List (Addr × HO)) (p dx d u : Addr) (ds : List (Option Int)) (n : Nat) (zs : List (V × Ask)) (q : Str) (time : Int), vs = [.ref p, .str q, .int time] ∧ RoadW K I H p dx d u ds n zs M ∧ ds ≠ [] ∧ zs.length ≤ 100000 ∧
  ∀ (I' H' : Hp) (zs' : List (V × Ask)), Sub I I' → RoadW K I' H' p dx d u ds (n + 1) zs' M → zs'.map Prod.snd = sentUw ds n (zs.map Prod.snd) q time → Q (.int ((n + 1 : Nat) : Int)) H'
def sp_Road_due (K : PySem.W.Frag) : Sp := fun vs H Q _ => ∃ (I : Hp) (M : List (Addr × HO)) (p dx d u : Addr) (ds : List (Option Int)) (n : Nat) (zs : List (V × Ask)) (time : Int), vs = [.ref p, .int time] ∧ RoadW K I H p dx d u ds n zs M ∧ zs.length ≤ 100000 ∧
  ∀ (I' H' : Hp) (u' : Addr) (zs' : List (V × Ask)) (v : V), Sub I I' → RoadW K I' H' p dx d u' ds n zs' M → zs'.map Prod.snd = (zs.map Prod.snd).filter (fun x => decide (time < x.1)) →
    Rp I' v (.list ((sortE askD ((zs.map Prod.snd).filter fun x => decide (x.1 ≤ time))).map dueD)) → Q v H'
def sp_Road_many (K : PySem.W.Frag) : Sp := fun vs H Q _ => ∃ (p dx d u : Addr) (n : Nat), vs = [.ref p] ∧ H p = some (oRoad K dx d n u) ∧ Q (.int n) H
def t_Road___init__ (K : PySem.W.Frag) (E : XK) : TS := tSeq (tAsg (tChain (rI0 fun i j => .bl (decide (i ≤ j))) (rI0 fun i j => .bl (decide (i ≤ j))) (tC (.int 1)) (tCB (gLenL) (tCons (tVar 1) (tNil))) (tC (.int 8))) (gName 2)) (tSeq (tIfS (tOr (tNot (tB (tVar 2))) (tNot (tB (tCB (gAll) (tCons (fLcL (tVar 1) (gName 3) (tYes) (tOrV (tOp (rIsN) (tVar 3) (tC .non)) (tChain (rI0 fun i j => .bl (decide (i ≤ j))) (rI0 fun i j => .bl (decide (i ≤ j))) (tC (.int 1)) (tVar 3) (tC (.int 30)))) [3]) (tNil)))))) (fRaise (WD E) (He.ga K "BadNumber")) (tNext)) (tSeq (fSet (He.ga K "Road") "delays" (tVar 0) (tCB (gListL) (tCons (tVar 1) (tNil)))) (tSeq (fSet (He.ga K "Road") "sent" (tVar 0) (tC (.int 0))) (fSet (He.ga K "Road") "under_way" (tVar 0) (tLst (tNil))))))
abbrev nn_Road___init__ : List Str := ["self", "delays", "good", "delay"]
def t_Road_send (K : PySem.W.Frag) (E : XK) : TS := tSeq (tAsg (tOp gIxL (fFld (He.ga K "Road") "delays" (tVar 0)) (tOp (rI (fun _ j => 0 < j) fun i j => .int (i % j)) (fFld (He.ga K "Road") "sent" (tVar 0)) (tCB (gLenL) (tCons (fFld (He.ga K "Road") "delays" (tVar 0)) (tNil))))) (gName 3)) (tSeq (fSet (He.ga K "Road") "sent" (tVar 0) (tOp (rI0 fun i j => .int (i + j)) (fFld (He.ga K "Road") "sent" (tVar 0)) (tC (.int 1)))) (tSeq (tIfS (tTest (tOp (rNotN) (tVar 3) (tC .non))) (tDrop (fBM "list" rAppend (fFld (He.ga K "Road") "under_way" (tVar 0)) (tCons (tTup (tCons (tOp (rI0 fun i j => .int (i + j)) (tVar 2) (tVar 3)) (tCons (fFld (He.ga K "Road") "sent" (tVar 0)) (tCons (tVar 1) (tNil))))) (tNil)))) (tNext)) (tRet (fFld (He.ga K "Road") "sent" (tVar 0)))))
abbrev nn_Road_send : List Str := ["self", "query", "time", "delay"]
def t_Road_due (K : PySem.W.Frag) (E : XK) : TS := tSeq (tAsg (tCB (gSortD) (tCons (fLcL (fFld (He.ga K "Road") "under_way" (tVar 0)) (gName 3) (tTest (tOp (rI0 fun i j => .bl (decide (i ≤ j))) (tOp gIxT (tVar 3) (tC (.int 0))) (tVar 1))) (tVar 3) [3]) (tNil))) (gName 2)) (tSeq (fSet (He.ga K "Road") "under_way" (tVar 0) (fLcL (fFld (He.ga K "Road") "under_way" (tVar 0)) (gName 3) (tTest (tOp (rI0 fun i j => .bl (decide (j < i))) (tOp gIxT (tVar 3) (tC (.int 0))) (tVar 1))) (tVar 3) [3])) (tRet (fLcL (tVar 2) (fTup 3 (gCons (gName 4) (gCons (gName 5) (gCons (gName 6) (gNil))))) (tYes) (tTup (tCons (tVar 5) (tCons (tVar 6) (tNil)))) [4, 5, 6])))
abbrev nn_Road_due : List Str := ["self", "time", "found", "one", "when", "number", "query"]
def t_Road_many (K : PySem.W.Frag) (E : XK) : TS := tRet (fFld (He.ga K "Road") "sent" (tVar 0))
abbrev nn_Road_many : List Str := ["self"]
section
variable {K : PySem.W.Frag}
theorem len_Road___init__ : ∀ vs H Q E, sp_Road___init__ K vs H Q E → vs.length = ["self", "delays"].length := by
  rintro _ _ _ _ ⟨_, _, _, _, _, _, rfl, _⟩; rfl
theorem len_Road_send : ∀ vs H Q E, sp_Road_send K vs H Q E → vs.length = ["self", "query", "time"].length := by
  rintro _ _ _ _ ⟨_, _, _, _, _, _, _, _, _, _, _, rfl, _⟩; rfl
theorem len_Road_due : ∀ vs H Q E, sp_Road_due K vs H Q E → vs.length = ["self", "time"].length := by
  rintro _ _ _ _ ⟨_, _, _, _, _, _, _, _, _, _, rfl, _⟩; rfl
theorem len_Road_many : ∀ vs H Q E, sp_Road_many K vs H Q E → vs.length = ["self"].length := by
  rintro _ _ _ _ ⟨_, _, _, _, _, rfl, _⟩; rfl
theorem pure_Road_many : ∀ vs H Q E, sp_Road_many K vs H Q E → t_Road_many K E { nx := fun _ H2 => Q .non H2, rt := Q } (L2.start nn_Road_many vs) H := by
  rintro vs H Q E ⟨p, dx, d, u, n, rfl, h, hQ⟩
  unfold t_Road_many oRoad at *
  simp! [h, lk_Road_sent]
  exact hQ
theorem atI_mod {α : Type} {xs : List α} {n : Nat} (h : xs ≠ []) : ∃ x, xs[n % xs.length]? = some x ∧ atI xs ((n : Int) % (xs.length : Int)) = some x := by
  have hp : 0 < xs.length := List.length_pos_iff.mpr h
  have hl : n % xs.length < xs.length := Nat.mod_lt _ hp
  refine ⟨xs[n % xs.length], List.getElem?_eq_getElem hl, ?_⟩
  have := atI_nat (xs := xs) (j := n % xs.length) (List.getElem?_eq_getElem hl)
  rw [← this]
  congr 1
theorem pure_Road_send : ∀ vs H Q E, sp_Road_send K vs H Q E → t_Road_send K E { nx := fun _ H2 => Q .non H2, rt := Q } (L2.start nn_Road_send vs) H := by
  rintro vs H Q E ⟨I, M, p, dx, d, u, ds, n, zs, q, time, rfl, ⟨w, hd, en⟩, hne, hz, hQ⟩
  have h1 := w.has.1
  have h3 := w.has.2.1
  have h2 := w.sub d _ hd
  unfold t_Road_send oRoad at *
  simp! [h1, h2, h3, lk_Road_delays, lk_Road_sent, lk_Road_under_way, pf_Road_sent, ln_Road, List.length_map]
  have hpos : 0 < ds.length := List.length_pos_iff.mpr hne
  obtain ⟨x, e1, e2⟩ := atI_mod (xs := ds.map delV) (n := n) (by simpa using hne)
  rw [List.length_map] at e1 e2
  rw [List.getElem?_map, Option.map_eq_some_iff] at e1
  obtain ⟨dl, e1, rfl⟩ := e1
  have en1 : nextDelay ds n = dl := by unfold nextDelay; rw [e1]; rfl
  refine ⟨by omega, _, e2, ?_⟩
  have w1 := w.put (o' := .ins (He.ga K "Road") dx (n_Road.zip [V.ref d, V.int ((n : Int) + 1), V.ref u]))
  cases dl with
  | none =>
    simp! [delV, decide_true]
    exact hQ _ _ zs (Sub.refl _) ⟨w1, hd, en⟩ (by unfold sentUw; rw [en1])
  | some i =>
    simp! [delV, decide_false, reduceCtorEq]
    refine ⟨.inl ⟨_, w1.has.2.1⟩, three_le, fun t ht => ?_⟩
    have w2 := w1.newI (o := .tup [V.int (time + i), V.int ((n : Int) + 1), V.str q]) ht
    have w3 := (w2.swap.put (o' := .lst (zs.map Prod.fst ++ [V.ref t]))).swap
    have sI := Sub.new (o := .tup [V.int (time + i), V.int ((n : Int) + 1), V.str q]) (w1.noI ht)
    refine ⟨_, w2.has.2.1, ?_, _, _, w3.has.1, _, lk_Road_sent, ?_⟩
    · have := line_big; rw [List.length_map]; omega
    · refine hQ _ _ (zs ++ [(.ref t, (time + i, ((n + 1 : Nat) : Int), q))]) sI ⟨?_, sI _ _ hd, ?_⟩ ?_
      · rw [List.map_append]; exact w3
      · exact (en.mono sI).snoc (.tup upd_same (.cons (.int _) (.cons (.int _) (.cons (.str _) .nil))))
      · unfold sentUw; rw [en1, List.map_append]; rfl
theorem pure_Road_due : ∀ vs H Q E, sp_Road_due K vs H Q E → t_Road_due K E { nx := fun _ H2 => Q .non H2, rt := Q } (L2.start nn_Road_due vs) H := by
  rintro vs H Q E ⟨I, M, p, dx, d, u, ds, n, zs, time, rfl, ⟨w, hd, en⟩, hz, hQ⟩
  have h1 := w.has.1
  have h3 := w.has.2.1
  unfold t_Road_due oRoad at *
  simp! [h1, h3, lk_Road_under_way]
  have tst : ∀ z ∈ zs, ∀ I' H', Sub I I' → Sub I' H' → ∃ t, z.1 = V.ref t ∧ H' t = some (.tup [.int z.2.1, .int z.2.2.1, .str z.2.2.2]) := fun z hzz I' H' s1 s2 => by
    obtain ⟨t, e, h⟩ := rp_ask (en z hzz)
    exact ⟨t, e, s2 _ _ (s1 _ _ h)⟩
  refine comp_filter (p := fun z => decide (z.2.1 ≤ time)) w (by omega) (fun _ => rfl) (fun _ => rfl) (fun D o H' w' => w'.has.2.2.1) (fun z hzz D o H' Q' w' q => ?_) (fun D H' w' => ?_)
  · obtain ⟨t, e, h⟩ := tst z hzz I H' (Sub.refl _) w'.sub
    simp! [wipe, e, h]
    exact ⟨_, rfl, by simpa using q⟩
  refine sortD_use ask_sorts w'.has.1 ((en.filter _).mono w'.sub) fun f hf => ?_
  generalize hys : ((zs.filter fun z => decide (z.2.1 ≤ time)).mergeSort fun x y => leD askD x.2 y.2) = ys at hf ⊢
  have hyd : ys.map Prod.snd = sortE askD ((zs.map Prod.snd).filter fun x => decide (x.1 ≤ time)) := by
    rw [← hys, sort_snd, List.filter_map]; rfl
  have enY : Enc I askD ys := by rw [← hys]; exact sort_enc (en.filter _)
  have lenY : ys.length ≤ zs.length := by rw [← hys, List.length_mergeSort]; exact List.length_filter_le _ _
  have w2 := w'.drop.newI (o := .lst (ys.map Prod.fst)) hf
  have s2 := Sub.new (o := .lst (ys.map Prod.fst)) (w'.noI hf)
  generalize upd H' f (.lst (ys.map Prod.fst)) = H2 at w2 ⊢
  generalize hI2 : upd I f (.lst (ys.map Prod.fst)) = I2 at w2 s2
  have hf2 : I2 f = some (.lst (ys.map Prod.fst)) := by rw [← hI2, upd_same]
  simp! [w2.has.1, w2.has.2.1, lk_Road_under_way]
  refine comp_filter (p := fun z => decide (time < z.2.1)) w2 (by omega) (fun _ => rfl) (fun _ => rfl) (fun D o H' w' => w'.has.2.2.1) (fun z hzz D o H' Q' w' q => ?_) (fun D2 H3 w3 => ?_)
  · obtain ⟨t, e, h⟩ := tst z hzz I2 H' s2 w'.sub
    simp! [wipe, e, h]
    exact ⟨_, rfl, by simpa using q⟩
  have w4 := w3.swap.put (o' := .ins (He.ga K "Road") dx (n_Road.zip [V.ref d, V.int n, V.ref D2]))
  have w5 := w4.rot.drop
  simp! [w3.has.2.1, pf_Road_under_way, ln_Road]
  generalize upd H3 p _ = H4 at w5 ⊢
  have hf4 := w5.sub f _ hf2
  refine ⟨_, hf4, I2, _, fun i I' acc M' => M' = _ ∧ RpAll I' acc ((ys.take i).map fun z => dueD z.2), w5, by rw [List.length_map]; omega, ⟨rfl, .nil⟩, ?_, ?_, ?_⟩
  · rintro i I' acc M' D H' ⟨rfl, _⟩ s w'
    exact w'.sub f _ (s _ _ hf2)
  · rintro D i x H' I' acc M' hi hx s w' ⟨rfl, r⟩ _
    rw [List.getElem?_map, Option.map_eq_some_iff] at hx
    obtain ⟨z, hzz, rfl⟩ := hx
    obtain ⟨t, e, h⟩ := rp_ask (enY z (List.mem_of_getElem? hzz))
    have h' := w'.sub t _ (s _ _ (s2 _ _ h))
    simp! [e, h', wipe]
    refine ⟨two_le, fun g hg => ?_⟩
    have w6 := w'.newI (o := .tup [V.int z.2.2.1, V.str z.2.2.2]) hg
    have s6 := Sub.new (o := .tup [V.int z.2.2.1, V.str z.2.2.2]) (w'.noI hg)
    refine nxt s6 w6 ⟨rfl, ?_⟩
    rw [take_succ_get hzz, List.map_append]
    exact (r.mono s6).snoc (.tup upd_same (.cons (.int _) (.cons (.str _) .nil)))
  · rintro D H' I' acc M' s w' ⟨rfl, r⟩ _
    have w6 := w'.freeze
    have s6 := Sub.new (o := .lst acc) (w'.out (D, .lst acc) List.mem_cons_self)
    rw [List.length_map, List.take_length] at r
    refine hQ _ _ D2 _ _ (s2.trans (s.trans s6)) ⟨w6, s6 _ _ (s _ _ (s2 _ _ hd)), ((en.filter _).mono s2).mono (s.trans s6)⟩ ?_ (.lst upd_same ?_)
    · rw [List.filter_map]; rfl
    · have e : ys.map (fun z => dueD z.2) = (sortE askD ((zs.map Prod.snd).filter fun x => decide (x.1 ≤ time))).map dueD := by rw [← hyd, List.map_map]; rfl
      rw [← e]
      exact r.mono s6
theorem pure_Road___init__ : ∀ vs H Q E, sp_Road___init__ K vs H Q E → t_Road___init__ K E { nx := fun _ H2 => Q .non H2, rt := Q } (L2.start nn_Road___init__ vs) H := by
  rintro vs H Q E ⟨I, M, p, dx, l, ds, rfl, w, hl, hlen, hyes, hno⟩
  have h0 := hl I H _ (Sub.refl _) w
  unfold t_Road___init__
  simp! [h0, List.length_map]
  have raise : ∀ I' H', Sub I I' → W I' H' ((p, .ins (He.ga K "Road") dx []) :: M) → roadOk ds = false → ∀ σ, WD E (.ref (He.ga K "BadNumber")) none σ H' := fun I' H' s w' e _ => hno e I' H' s w'
  by_cases c1 : (1 : Int) ≤ (ds.length : Int)
  · rw [if_pos (decide_eq_true c1)]
    by_cases c2 : (ds.length : Int) ≤ 8
    · rw [if_neg (by rw [decide_eq_true c2]; decide)]
      refine ⟨I, _, fun i I' acc M' => I' = I ∧ M' = _ ∧ acc = ((ds.take i).map delOk).map V.bl, w, by omega, ⟨rfl, rfl, rfl⟩, ?_, ?_, ?_⟩
      · rintro i I' acc M' D H' ⟨rfl, rfl, _⟩ s w'
        exact hl _ _ _ (Sub.refl _) w'.drop
      · rintro D i x H' I' acc M' hi hx s w' ⟨rfl, rfl, rfl⟩ _
        rw [List.getElem?_map, Option.map_eq_some_iff] at hx
        obtain ⟨z, hzz, rfl⟩ := hx
        have e1 : ∀ b, delOk z = b → ((ds.take i).map delOk).map V.bl ++ [V.bl b] = ((ds.take (i + 1)).map delOk).map V.bl := fun b e => by
          rw [take_succ_get hzz, List.map_append, List.map_append, ← e]; rfl
        cases z with
        | none =>
          simp! [delV, wipe, decide_true]
          exact nxt (Sub.refl _) w' ⟨rfl, rfl, e1 _ rfl⟩
        | some k =>
          simp! [delV, wipe, decide_false, reduceCtorEq]
          by_cases k1 : 1 ≤ k
          · rw [if_pos (decide_eq_true k1)]
            exact nxt (Sub.refl _) w' ⟨rfl, rfl, e1 _ (by simp [delOk, k1])⟩
          · rw [if_neg (by rw [decide_eq_false k1]; decide)]
            exact nxt (Sub.refl _) w' ⟨rfl, rfl, e1 _ (by simp [delOk, k1])⟩
      · rintro D H' I' acc M' s w' ⟨rfl, rfl, rfl⟩ _
        rw [List.take_length] at w'
        refine ⟨D, ds.map delOk, rfl, w'.has.1, ?_⟩
        have e : roadOk ds = (ds.map delOk).all id := by
          unfold roadOk
          rw [decide_eq_true (show 1 ≤ ds.length by omega), decide_eq_true (show ds.length ≤ 8 by omega), List.all_map]
          rfl
        rw [← e]
        have w1 := w'.drop
        cases e2 : roadOk ds with
        | false =>
          simp! [and_true]
          exact raise _ _ (Sub.refl _) w1 e2 _
        | true =>
          have hl1 := hl _ _ _ (Sub.refl _) w1
          simp! [hl1]
          intro d hd
          have w2 := w1.newI (o := .lst (ds.map delV)) hd
          have s2 := Sub.new (o := .lst (ds.map delV)) (w1.noI hd)
          have w3 := w2.put (o' := .ins (He.ga K "Road") dx (putF "delays" (.ref d) []))
          have w4 := w3.put (o' := .ins (He.ga K "Road") dx (putF "sent" (.int 0) (putF "delays" (.ref d) [])))
          refine ⟨_, _, w2.has.1, by simp, Nat.lt_of_lt_of_le (lt_putF lt0) (by omega), Nat.zero_le _, fun u hu => ?_⟩
          have w5 := w4.newM (o := .lst []) hu
          have w6 := w5.swap.put (o' := .ins (He.ga K "Road") dx (putF "under_way" (.ref u) (putF "sent" (.int 0) (putF "delays" (.ref d) []))))
          refine ⟨_, _, w5.has.2.1, ?_, ?_⟩
          · exact Nat.lt_of_lt_of_le (lt_putF (lt_putF lt0)) (by omega)
          · rw [in_Road] at w6 ⊢
            exact hyes e2 _ _ d u s2 ⟨w6, upd_same, Enc.nil⟩
    · rw [if_pos (by rw [decide_eq_false c2]; decide)]
      exact raise _ _ (Sub.refl _) w (by unfold roadOk; rw [decide_eq_false (show ¬ ds.length ≤ 8 by omega)]; simp) _
  · rw [if_neg (by rw [decide_eq_false c1]; decide)]
    exact raise _ _ (Sub.refl _) w (by unfold roadOk; rw [decide_eq_false (show ¬ 1 ≤ ds.length by omega)]; simp) _
end
end TA

set_option linter.all false
set_option maxRecDepth 100000
set_option maxHeartbeats 1000000
/-! An asker, plain. -/
namespace TA
open PySem L2 PyProof.Rows
open SX (S S_len S_inj S_cat S_tl)
inductive Lg | off (n : Int) | came (n : Int) | late (n : Int) | lost (n : Int) | asked (n : Int) (key : Tx)
def lgD : Lg → PyData
  | .off n => .tuple [.str "off", .int n]
  | .came n => .tuple [.str "came", .int n]
  | .late n => .tuple [.str "late", .int n]
  | .lost n => .tuple [.str "lost", .int n]
  | .asked n key => .tuple [.str "asked", .int n, sD key]
/-- what never changes of an asker -/
structure Rul where
  many : Int
  pause : Int
  asks : Int
  pat : Int
  ds : List (Option Int)
  most : Int
  term : Int
structure AS where
  time : Int
  now : Tx
  at_ : Int
  due : Bool
  tries : Int
  asked : List (Int × Tx)
  flying : List (Int × Int)
  shown : Option (Tx × List Tx × Bool)
  log : List Lg
  sent : Nat
  uw : List (Int × Int × Tx)
  ks : List Kp
/-- asks for what does not stand there any more (none: all asks) are called off -/
def dropS (s : AS) (w : Option Tx) : AS :=
  { s with asked := s.asked.filter fun p => decide (some (foldL p.2) = w), log := s.log ++ (s.asked.filter fun p => !decide (some (foldL p.2) = w)).map fun p => .off p.1 }
def showS (s : AS) (rows : List Tx) : AS := dropS { s with shown := some (foldL s.now, rows, false), due := false } none
def freshS (s : AS) : Bool := match s.shown with
  | none => false
  | some (k, _, old) => decide (k = foldL s.now) && !old
def nearS (R : Rul) (s : AS) : AS :=
  if foldL s.now = [] then { s with due := false, shown := none }
  else match srcK s.ks (foldL s.now) s.time R.term with
    | some one => showS { s with ks := useK s.ks one } (ansR one.2.1 s.now R.many)
    | none => match s.shown with
      | none => s
      | some (k, rows, _) => if freshS s = true then s else if ansR rows s.now R.many = [] then { s with shown := none } else { s with shown := some (k, ansR rows s.now R.many, true) }
def sendU (R : Rul) (s : AS) : List (Int × Int × Tx) := match nextDelay R.ds s.sent with
  | none => s.uw
  | some d => s.uw ++ [(s.time + d, ((s.sent + 1 : Nat) : Int), s.now)]
def nextN (s : AS) : Int := ((s.sent + 1 : Nat) : Int)
def askS (R : Rul) (s : AS) : AS :=
  if s.due = true ∧ R.pause ≤ s.time - s.at_ ∧ (s.flying.length : Int) < R.asks then
    { s with due := false, tries := s.tries + 1, sent := s.sent + 1, uw := sendU R s, asked := s.asked ++ [(nextN s, s.now)], flying := s.flying ++ [(nextN s, s.time)], log := s.log ++ [Lg.asked (nextN s) (foldL s.now)] }
  else s
def putS (R : Rul) (s : AS) (text : Tx) : AS :=
  askS R (nearS R { (if foldL text = foldL s.now then s else { dropS s (some (foldL text)) with at_ := s.time, due := decide (foldL text ≠ []), tries := 0 }) with now := text })
/-- an answer comes -/
def comeS (R : Rul) (rows : List Tx) (s : AS) (n : Int) (q : Tx) : AS :=
  let s1 := { s with flying := s.flying.filter fun p => !decide (p.1 = n), ks := putK R.most s.ks (foldL q, ansR rows q R.many, ansA rows q R.many, s.time) }
  if (s1.asked.any fun p => decide (p.1 = n)) = true then showS { s1 with asked := s1.asked.filter fun p => !decide (p.1 = n), log := s1.log ++ [.came n] } (ansR rows q R.many)
  else nearS R { s1 with log := s1.log ++ [.late n] }
/-- an ask that took too long -/
def lostS (R : Rul) (s : AS) (n : Int) : AS :=
  if (s.flying.any fun p => decide (p.1 = n ∧ R.pat ≤ s.time - p.2)) = true then
    let s1 := { s with flying := s.flying.filter fun p => !decide (p.1 = n) }
    if (s1.asked.any fun p => decide (p.1 = n)) = true then { s1 with asked := s1.asked.filter fun p => !decide (p.1 = n), log := s1.log ++ [.lost n], due := decide (s1.tries < 3) } else s1
  else s
def againT (R : Rul) (s : AS) : AS := ((s.flying.map (·.1)).mergeSort fun a b => decide (a ≤ b)).foldl (lostS R) s
/-! ### calling off, ask by ask -/
def keepA (w : Option Tx) (p : Int × Tx) : Bool := decide (some (foldL p.2) = w)
def dropPre (s : AS) (w : Option Tx) (i : Nat) : AS :=
  { s with asked := (s.asked.take i).filter (keepA w) ++ s.asked.drop i, log := s.log ++ ((s.asked.take i).filter fun p => !keepA w p).map fun p => Lg.off p.1 }
theorem dropPre_0 (s : AS) (w : Option Tx) : dropPre s w 0 = s := by simp [dropPre]
theorem dropPre_all (s : AS) (w : Option Tx) : dropPre s w s.asked.length = dropS s w := by
  unfold dropPre dropS
  rw [List.take_length, List.drop_length, List.append_nil]; rfl
theorem dropPre_keep {s : AS} {w : Option Tx} {i : Nat} {p : Int × Tx} (h : s.asked[i]? = some p) (k : keepA w p = true) : dropPre s w (i + 1) = dropPre s w i := by
  obtain ⟨hl, e⟩ := List.getElem?_eq_some_iff.mp h
  unfold dropPre
  rw [take_succ_get h, List.filter_append, List.filter_append, List.drop_eq_getElem_cons hl, e]
  simp [k]
theorem dropPre_off {s : AS} {w : Option Tx} {i : Nat} {p : Int × Tx} (h : s.asked[i]? = some p) (k : keepA w p = false) : dropPre s w (i + 1) = { dropPre s w i with asked := (s.asked.take i).filter (keepA w) ++ s.asked.drop (i + 1), log := (dropPre s w i).log ++ [Lg.off p.1] } := by
  unfold dropPre
  rw [take_succ_get h, List.filter_append, List.filter_append]
  simp [k]
theorem nd_pre {s : AS} {w : Option Tx} {i : Nat} {p : Int × Tx} (nd : (s.asked.map (·.1)).Nodup) (h : s.asked[i]? = some p) :
    ((dropPre s w i).asked.filter fun q => !decide (q.1 = p.1)) = (s.asked.take i).filter (keepA w) ++ s.asked.drop (i + 1) ∧ p ∈ (dropPre s w i).asked := by
  obtain ⟨hl, e⟩ := List.getElem?_eq_some_iff.mp h
  have hsplit : s.asked = s.asked.take i ++ p :: s.asked.drop (i + 1) := by
    conv => lhs; rw [← List.take_append_drop i s.asked, List.drop_eq_getElem_cons hl, e]
  have hn : ∀ q ∈ s.asked.take i ++ s.asked.drop (i + 1), q.1 ≠ p.1 := by
    intro q hq z
    rw [hsplit, List.map_append, List.map_cons] at nd
    obtain ⟨n1, n2, n3⟩ := List.nodup_append.mp nd
    rcases List.mem_append.mp hq with c | c
    · exact n3 _ (List.mem_map.mpr ⟨q, c, rfl⟩) _ List.mem_cons_self z
    · exact (List.nodup_cons.mp n2).1 (z ▸ List.mem_map.mpr ⟨q, c, rfl⟩)
  have e2 : (dropPre s w i).asked = (s.asked.take i).filter (keepA w) ++ p :: s.asked.drop (i + 1) := by
    unfold dropPre; rw [List.drop_eq_getElem_cons hl, e]
  rw [e2]
  refine ⟨?_, by simp⟩
  have f1 : ((s.asked.take i).filter (keepA w)).filter (fun q => !decide (q.1 = p.1)) = (s.asked.take i).filter (keepA w) :=
    List.filter_eq_self.mpr fun q hq => by simpa using hn q (List.mem_append_left _ (List.mem_filter.mp hq).1)
  have f2 : (s.asked.drop (i + 1)).filter (fun q => !decide (q.1 = p.1)) = s.asked.drop (i + 1) :=
    List.filter_eq_self.mpr fun q hq => by simpa using hn q (List.mem_append_right _ hq)
  rw [List.filter_append, List.filter_cons, if_neg (by simp), f1, f2]
theorem pre_mem {s : AS} {w : Option Tx} {i : Nat} : ∀ p ∈ (dropPre s w i).asked, p ∈ s.asked := by
  intro p hp
  unfold dropPre at hp
  rcases List.mem_append.mp hp with c | c
  · exact List.mem_of_mem_take (List.mem_filter.mp c).1
  · exact List.mem_of_mem_drop c
theorem pre_nd {s : AS} {w : Option Tx} {i : Nat} (nd : (s.asked.map (·.1)).Nodup) : ((dropPre s w i).asked.map (·.1)).Nodup := by
  refine nd.sublist (List.Sublist.map _ ?_)
  unfold dropPre
  conv => rhs; rw [← List.take_append_drop i s.asked]
  exact List.filter_sublist.append (List.Sublist.refl _)
theorem lk_asked : ∀ {l : List (Int × Tx)} {p : Int × Tx}, (l.map (·.1)).Nodup → p ∈ l → lkI (l.map fun p => (p.1, sV p.2)) p.1 = some (sV p.2)
  | [], _, _, h => by cases h
  | q :: l, p, nd, h => by
    rw [List.map_cons, List.nodup_cons] at nd
    unfold lkI
    rw [List.map_cons]
    by_cases e : q.1 = p.1
    · rw [List.find?_cons_of_pos (by simpa using e)]
      rcases List.mem_cons.mp h with c | c
      · rw [c]; rfl
      · exact absurd (List.mem_map.mpr ⟨p, c, e.symm⟩) nd.1
    · rw [List.find?_cons_of_neg (by simpa using e)]
      rcases List.mem_cons.mp h with c | c
      · exact absurd (by rw [c]) e
      · exact lk_asked nd.2 c
theorem drop_asked (l : List (Int × Tx)) (n : Int) : dropI (l.map fun p => (p.1, sV p.2)) n = (l.filter fun p => !decide (p.1 = n)).map fun p => (p.1, sV p.2) := by
  unfold dropI; rw [List.filter_map]; rfl
/-! ### a tick -/
def uw1 (x : Int × Int × Tx) : Ask := (x.1, x.2.1, S x.2.2)
def uwS (l : List (Int × Int × Tx)) : List Ask := l.map uw1
def sortU (l : List (Int × Int × Tx)) : List (Int × Int × Tx) := l.mergeSort fun x y => leD askD (uw1 x) (uw1 y)
theorem sortU_S (l : List (Int × Int × Tx)) : sortE askD (uwS l) = uwS (sortU l) := (PySem.W.sort_maps (r := fun x y => leD askD (uw1 x) (uw1 y)) (s := leD askD) uw1 fun _ _ _ _ => rfl).symm
def dueU (time : Int) (l : List (Int × Int × Tx)) : List (Int × Int × Tx) := sortU (l.filter fun x => decide (x.1 ≤ time))
def restU (time : Int) (l : List (Int × Int × Tx)) : List (Int × Int × Tx) := l.filter fun x => decide (time < x.1)
def tick0 (s : AS) : AS := { s with time := s.time + 1, uw := restU (s.time + 1) s.uw }
def comeAll (R : Rul) (rows : List Tx) (s : AS) (l : List (Int × Int × Tx)) : AS := l.foldl (fun s x => comeS R rows s x.2.1 x.2.2) s
def stepS (R : Rul) (rows : List Tx) (s : AS) : AS := askS R (againT R (comeAll R rows (tick0 s) (dueU (s.time + 1) s.uw)))
def tickS (R : Rul) (rows : List Tx) : Nat → AS → AS
  | 0, s => s
  | n + 1, s => tickS R rows n (stepS R rows s)
theorem tickS_succ (R : Rul) (rows : List Tx) : ∀ (n : Nat) (s : AS), tickS R rows (n + 1) s = stepS R rows (tickS R rows n s)
  | 0, _ => rfl
  | n + 1, s => tickS_succ R rows n (stepS R rows s)
theorem tickS_add (R : Rul) (rows : List Tx) : ∀ (n m : Nat) (s : AS), tickS R rows (n + m) s = tickS R rows m (tickS R rows n s)
  | 0, m, s => by rw [Nat.zero_add]; rfl
  | n + 1, m, s => by rw [Nat.succ_add]; exact tickS_add R rows n m (stepS R rows s)
def againE (s : AS) : Bool := decide (foldL s.now = []) || !s.asked.isEmpty
def againS (R : Rul) (s : AS) : AS := askS R { s with ks := [], due := true, tries := 0, at_ := s.time - R.pause }
/-! ### what is kept of numbers and texts; k: asks that are about to come -/
structure OkS (R : Rul) (k : Nat) (s : AS) : Prop where
  many : manyOk R.many = true
  ds : R.ds ≠ []
  most : 0 ≤ R.most ∧ R.most ≤ 6
  asks : R.asks ≤ 3
  now : okL 12 s.now = true
  qa : ∀ p ∈ s.asked, okL 12 p.2 = true ∧ p.1 ≤ s.sent
  qu : ∀ p ∈ s.uw, okL 12 p.2.2 = true
  ks : ∀ k ∈ s.ks, rowsOk k.2.1 ∧ okL 20 k.1 = true
  kl : s.ks.length ≤ 6
  sh : ∀ k rs old, s.shown = some (k, rs, old) → rowsOk rs
  na : (s.asked.map (·.1)).Nodup
  nf : (s.flying.map (·.1)).Nodup
  fs : ∀ p ∈ s.flying, p.1 ≤ s.sent
  fl : s.flying.length ≤ 3
  lg : s.log.length + s.asked.length + s.uw.length + k ≤ 3 * s.sent
theorem len_split {α : Type} (p : α → Bool) : ∀ l : List α, l.length = (l.filter p).length + (l.filter fun x => !p x).length
  | [] => rfl
  | x :: l => by
    have := len_split p l
    cases h : p x <;> simp [h] <;> omega
section
variable {R : Rul} {k : Nat} {s : AS}
theorem OkS.n0 (h : OkS R k s) : 0 ≤ R.many := by
  have := h.many; unfold manyOk at this; have := of_decide_eq_true this; omega
theorem OkS.drop (h : OkS R k s) (w : Option Tx) : OkS R k (dropS s w) :=
  { h with
    qa := fun p hp => h.qa p (List.mem_filter.mp hp).1
    na := h.na.sublist (List.filter_sublist.map _)
    lg := by
      have e := len_split (fun p : Int × Tx => decide (some (foldL p.2) = w)) s.asked
      have := h.lg
      simp only [dropS, List.length_append, List.length_map]
      omega }
theorem OkS.show (h : OkS R k s) {rows : List Tx} (ro : rowsOk rows) : OkS R k (showS s rows) :=
  OkS.drop (s := { s with shown := some (foldL s.now, rows, false), due := false }) { h with sh := fun _ _ _ e => by cases e; exact ro } none
theorem ansR_ok {rows : List Tx} {q : Tx} {n : Int} (h : rowsOk rows) : rowsOk (ansR rows q n) := by
  unfold ansR
  refine ⟨fun r hr => h.1 r (mem_best.mp (List.mem_of_mem_take hr)).1, ?_⟩
  have := best_len rows q
  have := h.2
  rw [List.length_take]; omega
theorem OkS.use (h : OkS R k s) {one : Kp} (hm : one ∈ s.ks) : OkS R k { s with ks := useK s.ks one } :=
  { h with
    ks := (ok_use ⟨h.ks, by have := h.kl; omega⟩ hm).1
    kl := Nat.le_trans (len_use hm) h.kl }
theorem OkS.near (h : OkS R k s) : OkS R k (nearS R s) := by
  unfold nearS
  split
  · exact { h with sh := fun _ _ _ e => by cases e }
  · split
    · rename_i one e
      have hm := src_mem e
      exact (h.use hm).show (ansR_ok (h.ks one hm).1)
    · split
      · exact h
      · rename_i key rows old e
        split
        · exact h
        · split
          · exact { h with sh := fun _ _ _ e => by cases e }
          · exact { h with sh := fun _ _ _ e' => by cases e'; exact ansR_ok (h.sh _ _ _ e) }
theorem nd_snocI {α : Type} {l : List (Int × α)} {n : Int} {x : α} (h : (l.map (·.1)).Nodup) (hn : ∀ p ∈ l, p.1 < n) : ((l ++ [(n, x)]).map (·.1)).Nodup := by
  rw [List.map_append, List.nodup_append]
  refine ⟨h, by simp, fun a ha b hb => ?_⟩
  obtain ⟨p, hp, rfl⟩ := List.mem_map.mp ha
  simp at hb
  have := hn p hp
  rw [hb]; exact Int.ne_of_lt this
theorem sendU_len : (sendU R s).length ≤ s.uw.length + 1 := by
  unfold sendU; split <;> simp
theorem sendU_mem {x : Int × Int × Tx} (h : x ∈ sendU R s) : x ∈ s.uw ∨ x.2.2 = s.now := by
  unfold sendU at h; split at h
  · exact .inl h
  · rcases List.mem_append.mp h with q | q
    · exact .inl q
    · right; rw [List.mem_singleton.mp q]
theorem OkS.ask (h : OkS R k s) : OkS R k (askS R s) := by
  unfold askS
  split
  · rename_i c
    have hn : ∀ i : Int, i ≤ s.sent → i < nextN s := fun i hi => by unfold nextN; omega
    refine { h with qa := ?_, qu := ?_, na := nd_snocI h.na fun p hp => hn _ (h.qa p hp).2, nf := nd_snocI h.nf fun p hp => hn _ (h.fs p hp), fs := ?_, fl := ?_, lg := ?_ }
    · intro p hp
      rcases List.mem_append.mp hp with q | q
      · exact ⟨(h.qa p q).1, by have := (h.qa p q).2; simp only []; omega⟩
      · rw [List.mem_singleton.mp q]; exact ⟨h.now, by simp [nextN]⟩
    · intro p hp
      rcases sendU_mem hp with q | q
      · exact h.qu p q
      · rw [q]; exact h.now
    · intro p hp
      rcases List.mem_append.mp hp with q | q
      · have := h.fs p q; simp only []; omega
      · rw [List.mem_singleton.mp q]; simp [nextN]
    · have := c.2.2
      have := h.asks
      simp only [List.length_append, List.length_cons, List.length_nil]; omega
    · have := h.lg
      have := sendU_len (R := R) (s := s)
      simp only [List.length_append, List.length_cons, List.length_nil]; omega
  · exact h
theorem OkS.put (h : OkS R k s) {text : Tx} (ht : okL 12 text = true) : OkS R k (putS R s text) := by
  unfold putS
  refine OkS.ask (OkS.near ?_)
  split
  · exact { h with now := ht }
  · exact { h.drop (some (foldL text)) with now := ht }
theorem filter_len_lt {α : Type} {l : List α} {p : α → Bool} {x : α} (h : x ∈ l) (hp : p x = false) : (l.filter p).length + 1 ≤ l.length := by
  have : (l.filter p).length < l.length := by
    rw [List.length_filter_lt_length_iff_exists]
    exact ⟨x, h, by simp [hp]⟩
  omega
def came0 (R : Rul) (rows : List Tx) (s : AS) (n : Int) (q : Tx) : AS := { s with flying := s.flying.filter fun p => !decide (p.1 = n), ks := putK R.most s.ks (foldL q, ansR rows q R.many, ansA rows q R.many, s.time), asked := s.asked.filter fun p => !decide (p.1 = n), log := s.log ++ [.came n] }
def late0 (R : Rul) (rows : List Tx) (s : AS) (n : Int) (q : Tx) : AS := { s with flying := s.flying.filter fun p => !decide (p.1 = n), ks := putK R.most s.ks (foldL q, ansR rows q R.many, ansA rows q R.many, s.time), log := s.log ++ [.late n] }
theorem comeS_eq (R : Rul) (rows : List Tx) (s : AS) (n : Int) (q : Tx) : comeS R rows s n q = if (s.asked.any fun p => decide (p.1 = n)) = true then showS (came0 R rows s n q) (ansR rows q R.many) else nearS R (late0 R rows s n q) := rfl
section
variable {rows : List Tx} {n : Int} {q : Tx}
theorem OkS.kok (h : OkS R (k + 1) s) (ro : rowsOk rows) (hq : okL 12 q = true) : (∀ e ∈ putK R.most s.ks (foldL q, ansR rows q R.many, ansA rows q R.many, s.time), rowsOk e.2.1 ∧ okL 20 e.1 = true) ∧ (putK R.most s.ks (foldL q, ansR rows q R.many, ansA rows q R.many, s.time)).length ≤ 6 := by
  refine ⟨ok_put h.ks ⟨ansR_ok ro, fold_okL (okL_le hq (by decide))⟩, ?_⟩
  have := len_put (ks := s.ks) (k := (foldL q, ansR rows q R.many, ansA rows q R.many, s.time)) h.most.1
  have := h.most.2
  omega
theorem OkS.came (h : OkS R (k + 1) s) (ro : rowsOk rows) (hq : okL 12 q = true) (c : (s.asked.any fun p => decide (p.1 = n)) = true) : OkS R k (came0 R rows s n q) := by
  have hl := h.lg
  obtain ⟨p, hp, e⟩ := List.any_eq_true.mp c
  have := filter_len_lt (p := fun p : Int × Tx => !decide (p.1 = n)) hp (by simpa using e)
  exact { h with
    qa := fun p hp => h.qa p (List.mem_filter.mp hp).1
    ks := (h.kok ro hq).1, kl := (h.kok ro hq).2, nf := h.nf.sublist (List.filter_sublist.map _), fl := Nat.le_trans (List.length_filter_le _ _) h.fl
    na := h.na.sublist (List.filter_sublist.map _)
    fs := fun p hp => h.fs p (List.mem_filter.mp hp).1
    lg := by simp only [came0, List.length_append, List.length_cons, List.length_nil]; omega }
theorem OkS.late (h : OkS R (k + 1) s) (ro : rowsOk rows) (hq : okL 12 q = true) : OkS R k (late0 R rows s n q) := by
  have hl := h.lg
  exact { h with
    ks := (h.kok ro hq).1, kl := (h.kok ro hq).2, nf := h.nf.sublist (List.filter_sublist.map _), fl := Nat.le_trans (List.length_filter_le _ _) h.fl
    fs := fun p hp => h.fs p (List.mem_filter.mp hp).1
    lg := by simp only [late0, List.length_append, List.length_cons, List.length_nil]; omega }
theorem OkS.come (h : OkS R (k + 1) s) (ro : rowsOk rows) (hq : okL 12 q = true) : OkS R k (comeS R rows s n q) := by
  rw [comeS_eq]
  split
  · rename_i c
    exact (h.came ro hq c).show (ansR_ok ro)
  · exact (h.late ro hq).near
end
theorem OkS.comes {rows : List Tx} (ro : rowsOk rows) : ∀ {l : List (Int × Int × Tx)} {s : AS}, OkS R (k + l.length) s → (∀ x ∈ l, okL 12 x.2.2 = true) → OkS R k (comeAll R rows s l)
  | [], _, h, _ => h
  | x :: l, s, h, hq => OkS.comes ro (l := l) (s := comeS R rows s x.2.1 x.2.2) (OkS.come (k := k + l.length) h ro (hq x List.mem_cons_self)) fun y hy => hq y (List.mem_cons_of_mem _ hy)
theorem OkS.lost (h : OkS R k s) (n : Int) : OkS R k (lostS R s n) := by
  have nf' : ((s.flying.filter fun p => !decide (p.1 = n)).map (·.1)).Nodup := h.nf.sublist (List.filter_sublist.map _)
  have fl' : (s.flying.filter fun p => !decide (p.1 = n)).length ≤ 3 := Nat.le_trans (List.length_filter_le _ _) h.fl
  have hl := h.lg
  unfold lostS
  split
  · simp only []
    split
    · rename_i c
      obtain ⟨p, hp, e⟩ := List.any_eq_true.mp c
      have := filter_len_lt (p := fun p : Int × Tx => !decide (p.1 = n)) hp (by simpa using e)
      exact { h with
        qa := fun p hp => h.qa p (List.mem_filter.mp hp).1
        nf := nf', fl := fl'
        na := h.na.sublist (List.filter_sublist.map _)
        fs := fun p hp => h.fs p (List.mem_filter.mp hp).1
        lg := by simp only [List.length_append, List.length_cons, List.length_nil]; omega }
    · exact { h with nf := nf', fl := fl', fs := fun p hp => h.fs p (List.mem_filter.mp hp).1 }
  · exact h
theorem OkS.losts : ∀ {l : List Int} {s : AS}, OkS R k s → OkS R k (l.foldl (lostS R) s)
  | [], _, h => h
  | x :: l, _, h => OkS.losts (l := l) (h.lost x)
theorem OkS.againT (h : OkS R k s) : OkS R k (againT R s) := OkS.losts h
theorem dueU_len (time : Int) (l : List (Int × Int × Tx)) : (dueU time l).length + (restU time l).length = l.length := by
  unfold dueU restU sortU
  rw [List.length_mergeSort]
  have e := len_split (fun x : Int × Int × Tx => decide (x.1 ≤ time)) l
  have e2 : l.filter (fun x => !decide (x.1 ≤ time)) = l.filter fun x => decide (time < x.1) := List.filter_congr fun x _ => by
    rw [Bool.eq_iff_iff]; simp
  rw [e2] at e
  exact e.symm
theorem mem_due {time : Int} {l : List (Int × Int × Tx)} {x : Int × Int × Tx} : x ∈ dueU time l ↔ x ∈ l ∧ x.1 ≤ time := by
  unfold dueU sortU
  rw [(List.mergeSort_perm _ _).mem_iff, List.mem_filter]; simp
theorem OkS.tick0 (h : OkS R k s) : OkS R (k + (dueU (s.time + 1) s.uw).length) (tick0 s) :=
  { h with
    qu := fun p hp => h.qu p (List.mem_filter.mp hp).1
    lg := by
      have := h.lg
      have := dueU_len (s.time + 1) s.uw
      simp only [TA.tick0]; omega }
theorem OkS.step (h : OkS R k s) {rows : List Tx} (ro : rowsOk rows) : OkS R k (stepS R rows s) :=
  OkS.ask (OkS.againT (OkS.comes ro h.tick0 fun x hx => h.qu x (mem_due.mp hx).1))
theorem OkS.tick {rows : List Tx} (ro : rowsOk rows) : ∀ {n : Nat} {s : AS}, OkS R k s → OkS R k (tickS R rows n s)
  | 0, _, h => h
  | n + 1, _, h => OkS.tick ro (n := n) (h.step ro)
theorem OkS.again (h : OkS R k s) : OkS R k (againS R s) := OkS.ask { h with ks := (by simp), kl := Nat.zero_le _ }
/-! ### how many asks were sent -/
theorem drop_sent (s : AS) (w : Option Tx) : (dropS s w).sent = s.sent := rfl
theorem show_sent (s : AS) (rows : List Tx) : (showS s rows).sent = s.sent := rfl
theorem near_sent (R : Rul) (s : AS) : (nearS R s).sent = s.sent := by
  unfold nearS; split
  · rfl
  · split
    · rfl
    · split
      · rfl
      · split
        · rfl
        · split <;> rfl
theorem ask_sent (R : Rul) (s : AS) : (askS R s).sent ≤ s.sent + 1 ∧ s.sent ≤ (askS R s).sent := by
  unfold askS; split <;> simp
theorem put_sent (R : Rul) (s : AS) (t : Tx) : (putS R s t).sent ≤ s.sent + 1 := by
  unfold putS
  refine Nat.le_trans (ask_sent R _).1 ?_
  rw [near_sent]
  split <;> simp [dropS]
theorem come_sent (R : Rul) (rows : List Tx) (s : AS) (n : Int) (q : Tx) : (comeS R rows s n q).sent = s.sent := by
  unfold comeS; simp only []; split
  · rfl
  · rw [near_sent]
theorem comes_sent (R : Rul) (rows : List Tx) : ∀ (l : List (Int × Int × Tx)) (s : AS), (comeAll R rows s l).sent = s.sent
  | [], _ => rfl
  | x :: l, s => (comes_sent R rows l (comeS R rows s x.2.1 x.2.2)).trans (come_sent R rows s _ _)
theorem lost_sent (R : Rul) (s : AS) (n : Int) : (lostS R s n).sent = s.sent := by
  unfold lostS; split
  · simp only []; split <;> rfl
  · rfl
theorem losts_sent (R : Rul) : ∀ (l : List Int) (s : AS), (l.foldl (lostS R) s).sent = s.sent
  | [], _ => rfl
  | x :: l, s => (losts_sent R l (lostS R s x)).trans (lost_sent R s x)
theorem step_sent (R : Rul) (rows : List Tx) (s : AS) : (stepS R rows s).sent ≤ s.sent + 1 := by
  unfold stepS againT
  refine Nat.le_trans (ask_sent R _).1 ?_
  rw [losts_sent, comes_sent]; exact Nat.le_refl _
theorem tick_sent (R : Rul) (rows : List Tx) : ∀ (n : Nat) (s : AS), (tickS R rows n s).sent ≤ s.sent + n
  | 0, s => Nat.le_refl _
  | n + 1, s => by
    have := tick_sent R rows n (stepS R rows s)
    have := step_sent R rows s
    rw [tickS]; omega
theorem again_sent (R : Rul) (s : AS) : (againS R s).sent ≤ s.sent + 1 := (ask_sent R _).1
end
end TA

set_option linter.all false
set_option maxRecDepth 100000
set_option maxHeartbeats 1000000
/-! Askers: what stands, and what the methods promise. -/
namespace TA
open PySem L2 PyProof.Rows
open SX (S S_len S_inj S_cat S_tl)
local macro_rules | `(tactic| simp! [$as,*]) => `(tactic| first | simp only [L2.start, tSeq, tAsg, tOp, fFld, tVar, gIxL, gIxT, tCB, tCons, tNil, gLenL, gLenT, gLenS, rI, rI0, fSet, tIfS, tTest, tB, rNotN, rIsN, rEq, rNe, tC, tDrop, fBM, fBM0, gTy, rAppend, tTup, tLst, tRet, tRetN, tNext, gName, fTup, gCons, gNil, tCall, fCallS, fMeth, tMeth, fMethS, fMake, tMake, fMakeS, tUn, rU, tAnd, tOr, tNot, tAndV, tOrV, tNotV, tIf, tChain, gListL, gListT, tSl, tNoPart, tPart, gSlL, fRaise, gStrI, gCatS, gMin2, gMax2, gIntB, tYes, fLcL, fLcT, fLcS, fLcR1, fForL, fForR1, fForR2, fRev, fGetI, gGetI, gInI, gLenI, fPutI, fNewI,
  List.map_cons, List.map_nil, List.length_cons, List.length_nil, List.replicate, List.cons_append, List.nil_append, List.append_nil, List.getElem?_cons_zero, List.getElem?_cons_succ, List.set_cons_zero, List.set_cons_succ, reduceIte, Bool.not_true, Bool.not_false, Nat.reduceAdd, Nat.reduceSub, Bool.false_eq_true, eq_self,
  Option.some.injEq, V.int.injEq, V.ref.injEq, V.str.injEq, V.bl.injEq, HO.ins.injEq, HO.lst.injEq, HO.tup.injEq, HO.dK.injEq, List.cons.injEq, and_assoc, exists_eq_left', exists_and_left, and_true, true_and, true_or, or_true, false_or, or_false, exists_eq_left, exists_eq_right, exists_eq_right', exists_eq, exists_eq', exists_const, upd_same, sc_ii, sc_ss, sc_bb, sc_in, sc_ni, sc_ns, sc_sn, sc_nn, $as,*] | skip)
def n_Asker : List Str := ["store", "road", "shelf", "rows_most", "pause", "asks_most", "patience", "time", "now", "typed_at", "is_due", "tries", "asked", "flying", "shown", "rows"]
theorem nd_Asker : n_Asker.Nodup := by decide +kernel
section
variable {v0 v1 v2 v3 v4 v5 v6 v7 v8 v9 v10 v11 v12 v13 v14 v15 x : V}
theorem lk_Asker_store : (n_Asker.zip [v0, v1, v2, v3, v4, v5, v6, v7, v8, v9, v10, v11, v12, v13, v14, v15]).lookup ("store" : Str) = some v0 := lookup_zip 0 nd_Asker rfl rfl
theorem pf_Asker_store : putF ("store" : Str) x (n_Asker.zip [v0, v1, v2, v3, v4, v5, v6, v7, v8, v9, v10, v11, v12, v13, v14, v15]) = n_Asker.zip [x, v1, v2, v3, v4, v5, v6, v7, v8, v9, v10, v11, v12, v13, v14, v15] := putF_zip 0 nd_Asker rfl (by simp only [List.length_cons, List.length_nil]; omega)
theorem lk_Asker_road : (n_Asker.zip [v0, v1, v2, v3, v4, v5, v6, v7, v8, v9, v10, v11, v12, v13, v14, v15]).lookup ("road" : Str) = some v1 := lookup_zip 1 nd_Asker rfl rfl
theorem pf_Asker_road : putF ("road" : Str) x (n_Asker.zip [v0, v1, v2, v3, v4, v5, v6, v7, v8, v9, v10, v11, v12, v13, v14, v15]) = n_Asker.zip [v0, x, v2, v3, v4, v5, v6, v7, v8, v9, v10, v11, v12, v13, v14, v15] := putF_zip 1 nd_Asker rfl (by simp only [List.length_cons, List.length_nil]; omega)
theorem lk_Asker_shelf : (n_Asker.zip [v0, v1, v2, v3, v4, v5, v6, v7, v8, v9, v10, v11, v12, v13, v14, v15]).lookup ("shelf" : Str) = some v2 := lookup_zip 2 nd_Asker rfl rfl
theorem pf_Asker_shelf : putF ("shelf" : Str) x (n_Asker.zip [v0, v1, v2, v3, v4, v5, v6, v7, v8, v9, v10, v11, v12, v13, v14, v15]) = n_Asker.zip [v0, v1, x, v3, v4, v5, v6, v7, v8, v9, v10, v11, v12, v13, v14, v15] := putF_zip 2 nd_Asker rfl (by simp only [List.length_cons, List.length_nil]; omega)
theorem lk_Asker_rows_most : (n_Asker.zip [v0, v1, v2, v3, v4, v5, v6, v7, v8, v9, v10, v11, v12, v13, v14, v15]).lookup ("rows_most" : Str) = some v3 := lookup_zip 3 nd_Asker rfl rfl
theorem pf_Asker_rows_most : putF ("rows_most" : Str) x (n_Asker.zip [v0, v1, v2, v3, v4, v5, v6, v7, v8, v9, v10, v11, v12, v13, v14, v15]) = n_Asker.zip [v0, v1, v2, x, v4, v5, v6, v7, v8, v9, v10, v11, v12, v13, v14, v15] := putF_zip 3 nd_Asker rfl (by simp only [List.length_cons, List.length_nil]; omega)
theorem lk_Asker_pause : (n_Asker.zip [v0, v1, v2, v3, v4, v5, v6, v7, v8, v9, v10, v11, v12, v13, v14, v15]).lookup ("pause" : Str) = some v4 := lookup_zip 4 nd_Asker rfl rfl
theorem pf_Asker_pause : putF ("pause" : Str) x (n_Asker.zip [v0, v1, v2, v3, v4, v5, v6, v7, v8, v9, v10, v11, v12, v13, v14, v15]) = n_Asker.zip [v0, v1, v2, v3, x, v5, v6, v7, v8, v9, v10, v11, v12, v13, v14, v15] := putF_zip 4 nd_Asker rfl (by simp only [List.length_cons, List.length_nil]; omega)
theorem lk_Asker_asks_most : (n_Asker.zip [v0, v1, v2, v3, v4, v5, v6, v7, v8, v9, v10, v11, v12, v13, v14, v15]).lookup ("asks_most" : Str) = some v5 := lookup_zip 5 nd_Asker rfl rfl
theorem pf_Asker_asks_most : putF ("asks_most" : Str) x (n_Asker.zip [v0, v1, v2, v3, v4, v5, v6, v7, v8, v9, v10, v11, v12, v13, v14, v15]) = n_Asker.zip [v0, v1, v2, v3, v4, x, v6, v7, v8, v9, v10, v11, v12, v13, v14, v15] := putF_zip 5 nd_Asker rfl (by simp only [List.length_cons, List.length_nil]; omega)
theorem lk_Asker_patience : (n_Asker.zip [v0, v1, v2, v3, v4, v5, v6, v7, v8, v9, v10, v11, v12, v13, v14, v15]).lookup ("patience" : Str) = some v6 := lookup_zip 6 nd_Asker rfl rfl
theorem pf_Asker_patience : putF ("patience" : Str) x (n_Asker.zip [v0, v1, v2, v3, v4, v5, v6, v7, v8, v9, v10, v11, v12, v13, v14, v15]) = n_Asker.zip [v0, v1, v2, v3, v4, v5, x, v7, v8, v9, v10, v11, v12, v13, v14, v15] := putF_zip 6 nd_Asker rfl (by simp only [List.length_cons, List.length_nil]; omega)
theorem lk_Asker_time : (n_Asker.zip [v0, v1, v2, v3, v4, v5, v6, v7, v8, v9, v10, v11, v12, v13, v14, v15]).lookup ("time" : Str) = some v7 := lookup_zip 7 nd_Asker rfl rfl
theorem pf_Asker_time : putF ("time" : Str) x (n_Asker.zip [v0, v1, v2, v3, v4, v5, v6, v7, v8, v9, v10, v11, v12, v13, v14, v15]) = n_Asker.zip [v0, v1, v2, v3, v4, v5, v6, x, v8, v9, v10, v11, v12, v13, v14, v15] := putF_zip 7 nd_Asker rfl (by simp only [List.length_cons, List.length_nil]; omega)
theorem lk_Asker_now : (n_Asker.zip [v0, v1, v2, v3, v4, v5, v6, v7, v8, v9, v10, v11, v12, v13, v14, v15]).lookup ("now" : Str) = some v8 := lookup_zip 8 nd_Asker rfl rfl
theorem pf_Asker_now : putF ("now" : Str) x (n_Asker.zip [v0, v1, v2, v3, v4, v5, v6, v7, v8, v9, v10, v11, v12, v13, v14, v15]) = n_Asker.zip [v0, v1, v2, v3, v4, v5, v6, v7, x, v9, v10, v11, v12, v13, v14, v15] := putF_zip 8 nd_Asker rfl (by simp only [List.length_cons, List.length_nil]; omega)
theorem lk_Asker_typed_at : (n_Asker.zip [v0, v1, v2, v3, v4, v5, v6, v7, v8, v9, v10, v11, v12, v13, v14, v15]).lookup ("typed_at" : Str) = some v9 := lookup_zip 9 nd_Asker rfl rfl
theorem pf_Asker_typed_at : putF ("typed_at" : Str) x (n_Asker.zip [v0, v1, v2, v3, v4, v5, v6, v7, v8, v9, v10, v11, v12, v13, v14, v15]) = n_Asker.zip [v0, v1, v2, v3, v4, v5, v6, v7, v8, x, v10, v11, v12, v13, v14, v15] := putF_zip 9 nd_Asker rfl (by simp only [List.length_cons, List.length_nil]; omega)
theorem lk_Asker_is_due : (n_Asker.zip [v0, v1, v2, v3, v4, v5, v6, v7, v8, v9, v10, v11, v12, v13, v14, v15]).lookup ("is_due" : Str) = some v10 := lookup_zip 10 nd_Asker rfl rfl
theorem pf_Asker_is_due : putF ("is_due" : Str) x (n_Asker.zip [v0, v1, v2, v3, v4, v5, v6, v7, v8, v9, v10, v11, v12, v13, v14, v15]) = n_Asker.zip [v0, v1, v2, v3, v4, v5, v6, v7, v8, v9, x, v11, v12, v13, v14, v15] := putF_zip 10 nd_Asker rfl (by simp only [List.length_cons, List.length_nil]; omega)
theorem lk_Asker_tries : (n_Asker.zip [v0, v1, v2, v3, v4, v5, v6, v7, v8, v9, v10, v11, v12, v13, v14, v15]).lookup ("tries" : Str) = some v11 := lookup_zip 11 nd_Asker rfl rfl
theorem pf_Asker_tries : putF ("tries" : Str) x (n_Asker.zip [v0, v1, v2, v3, v4, v5, v6, v7, v8, v9, v10, v11, v12, v13, v14, v15]) = n_Asker.zip [v0, v1, v2, v3, v4, v5, v6, v7, v8, v9, v10, x, v12, v13, v14, v15] := putF_zip 11 nd_Asker rfl (by simp only [List.length_cons, List.length_nil]; omega)
theorem lk_Asker_asked : (n_Asker.zip [v0, v1, v2, v3, v4, v5, v6, v7, v8, v9, v10, v11, v12, v13, v14, v15]).lookup ("asked" : Str) = some v12 := lookup_zip 12 nd_Asker rfl rfl
theorem pf_Asker_asked : putF ("asked" : Str) x (n_Asker.zip [v0, v1, v2, v3, v4, v5, v6, v7, v8, v9, v10, v11, v12, v13, v14, v15]) = n_Asker.zip [v0, v1, v2, v3, v4, v5, v6, v7, v8, v9, v10, v11, x, v13, v14, v15] := putF_zip 12 nd_Asker rfl (by simp only [List.length_cons, List.length_nil]; omega)
theorem lk_Asker_flying : (n_Asker.zip [v0, v1, v2, v3, v4, v5, v6, v7, v8, v9, v10, v11, v12, v13, v14, v15]).lookup ("flying" : Str) = some v13 := lookup_zip 13 nd_Asker rfl rfl
theorem pf_Asker_flying : putF ("flying" : Str) x (n_Asker.zip [v0, v1, v2, v3, v4, v5, v6, v7, v8, v9, v10, v11, v12, v13, v14, v15]) = n_Asker.zip [v0, v1, v2, v3, v4, v5, v6, v7, v8, v9, v10, v11, v12, x, v14, v15] := putF_zip 13 nd_Asker rfl (by simp only [List.length_cons, List.length_nil]; omega)
theorem lk_Asker_shown : (n_Asker.zip [v0, v1, v2, v3, v4, v5, v6, v7, v8, v9, v10, v11, v12, v13, v14, v15]).lookup ("shown" : Str) = some v14 := lookup_zip 14 nd_Asker rfl rfl
theorem pf_Asker_shown : putF ("shown" : Str) x (n_Asker.zip [v0, v1, v2, v3, v4, v5, v6, v7, v8, v9, v10, v11, v12, v13, v14, v15]) = n_Asker.zip [v0, v1, v2, v3, v4, v5, v6, v7, v8, v9, v10, v11, v12, v13, x, v15] := putF_zip 14 nd_Asker rfl (by simp only [List.length_cons, List.length_nil]; omega)
theorem lk_Asker_rows : (n_Asker.zip [v0, v1, v2, v3, v4, v5, v6, v7, v8, v9, v10, v11, v12, v13, v14, v15]).lookup ("rows" : Str) = some v15 := lookup_zip 15 nd_Asker rfl rfl
theorem pf_Asker_rows : putF ("rows" : Str) x (n_Asker.zip [v0, v1, v2, v3, v4, v5, v6, v7, v8, v9, v10, v11, v12, v13, v14, v15]) = n_Asker.zip [v0, v1, v2, v3, v4, v5, v6, v7, v8, v9, v10, v11, v12, v13, v14, x] := putF_zip 15 nd_Asker rfl (by simp only [List.length_cons, List.length_nil]; omega)
theorem no_Asker_clock : (n_Asker.zip [v0, v1, v2, v3, v4, v5, v6, v7, v8, v9, v10, v11, v12, v13, v14, v15]).lookup ("clock" : Str) = none := lookup_out (by decide +kernel)
theorem no_Asker_typed : (n_Asker.zip [v0, v1, v2, v3, v4, v5, v6, v7, v8, v9, v10, v11, v12, v13, v14, v15]).lookup ("typed" : Str) = none := lookup_out (by decide +kernel)
theorem no_Asker_put : (n_Asker.zip [v0, v1, v2, v3, v4, v5, v6, v7, v8, v9, v10, v11, v12, v13, v14, v15]).lookup ("put" : Str) = none := lookup_out (by decide +kernel)
theorem no_Asker_key : (n_Asker.zip [v0, v1, v2, v3, v4, v5, v6, v7, v8, v9, v10, v11, v12, v13, v14, v15]).lookup ("key" : Str) = none := lookup_out (by decide +kernel)
theorem no_Asker_rub : (n_Asker.zip [v0, v1, v2, v3, v4, v5, v6, v7, v8, v9, v10, v11, v12, v13, v14, v15]).lookup ("rub" : Str) = none := lookup_out (by decide +kernel)
theorem no_Asker_drop_other : (n_Asker.zip [v0, v1, v2, v3, v4, v5, v6, v7, v8, v9, v10, v11, v12, v13, v14, v15]).lookup ("drop_other" : Str) = none := lookup_out (by decide +kernel)
theorem no_Asker_look_near : (n_Asker.zip [v0, v1, v2, v3, v4, v5, v6, v7, v8, v9, v10, v11, v12, v13, v14, v15]).lookup ("look_near" : Str) = none := lookup_out (by decide +kernel)
theorem no_Asker_is_fresh : (n_Asker.zip [v0, v1, v2, v3, v4, v5, v6, v7, v8, v9, v10, v11, v12, v13, v14, v15]).lookup ("is_fresh" : Str) = none := lookup_out (by decide +kernel)
theorem no_Asker_show : (n_Asker.zip [v0, v1, v2, v3, v4, v5, v6, v7, v8, v9, v10, v11, v12, v13, v14, v15]).lookup ("show" : Str) = none := lookup_out (by decide +kernel)
theorem no_Asker_ask_if_due : (n_Asker.zip [v0, v1, v2, v3, v4, v5, v6, v7, v8, v9, v10, v11, v12, v13, v14, v15]).lookup ("ask_if_due" : Str) = none := lookup_out (by decide +kernel)
theorem no_Asker_step : (n_Asker.zip [v0, v1, v2, v3, v4, v5, v6, v7, v8, v9, v10, v11, v12, v13, v14, v15]).lookup ("step" : Str) = none := lookup_out (by decide +kernel)
theorem no_Asker_try_again : (n_Asker.zip [v0, v1, v2, v3, v4, v5, v6, v7, v8, v9, v10, v11, v12, v13, v14, v15]).lookup ("try_again" : Str) = none := lookup_out (by decide +kernel)
theorem no_Asker_tick : (n_Asker.zip [v0, v1, v2, v3, v4, v5, v6, v7, v8, v9, v10, v11, v12, v13, v14, v15]).lookup ("tick" : Str) = none := lookup_out (by decide +kernel)
theorem no_Asker_again : (n_Asker.zip [v0, v1, v2, v3, v4, v5, v6, v7, v8, v9, v10, v11, v12, v13, v14, v15]).lookup ("again" : Str) = none := lookup_out (by decide +kernel)
theorem no_Asker_view : (n_Asker.zip [v0, v1, v2, v3, v4, v5, v6, v7, v8, v9, v10, v11, v12, v13, v14, v15]).lookup ("view" : Str) = none := lookup_out (by decide +kernel)
theorem no_Asker_is_waiting : (n_Asker.zip [v0, v1, v2, v3, v4, v5, v6, v7, v8, v9, v10, v11, v12, v13, v14, v15]).lookup ("is_waiting" : Str) = none := lookup_out (by decide +kernel)
theorem no_Asker_log : (n_Asker.zip [v0, v1, v2, v3, v4, v5, v6, v7, v8, v9, v10, v11, v12, v13, v14, v15]).lookup ("log" : Str) = none := lookup_out (by decide +kernel)
theorem in_Asker : putF "rows" v15 (putF "shown" v14 (putF "flying" v13 (putF "asked" v12 (putF "tries" v11 (putF "is_due" v10 (putF "typed_at" v9 (putF "now" v8 (putF "time" v7 (putF "patience" v6 (putF "asks_most" v5 (putF "pause" v4 (putF "rows_most" v3 (putF "shelf" v2 (putF "road" v1 (putF "store" v0 ([])))))))))))))))) = n_Asker.zip [v0, v1, v2, v3, v4, v5, v6, v7, v8, v9, v10, v11, v12, v13, v14, v15] := by kernel_rfl
theorem il_Asker_1 : (putF "store" v0 ([])).length < 1000 := Nat.lt_of_lt_of_le (lt_putF lt0) (by omega)
theorem il_Asker_2 : (putF "road" v1 (putF "store" v0 ([]))).length < 1000 := Nat.lt_of_lt_of_le (lt_putF (lt_putF lt0)) (by omega)
theorem il_Asker_3 : (putF "shelf" v2 (putF "road" v1 (putF "store" v0 ([])))).length < 1000 := Nat.lt_of_lt_of_le (lt_putF (lt_putF (lt_putF lt0))) (by omega)
theorem il_Asker_4 : (putF "rows_most" v3 (putF "shelf" v2 (putF "road" v1 (putF "store" v0 ([]))))).length < 1000 := Nat.lt_of_lt_of_le (lt_putF (lt_putF (lt_putF (lt_putF lt0)))) (by omega)
theorem il_Asker_5 : (putF "pause" v4 (putF "rows_most" v3 (putF "shelf" v2 (putF "road" v1 (putF "store" v0 ([])))))).length < 1000 := Nat.lt_of_lt_of_le (lt_putF (lt_putF (lt_putF (lt_putF (lt_putF lt0))))) (by omega)
theorem il_Asker_6 : (putF "asks_most" v5 (putF "pause" v4 (putF "rows_most" v3 (putF "shelf" v2 (putF "road" v1 (putF "store" v0 ([]))))))).length < 1000 := Nat.lt_of_lt_of_le (lt_putF (lt_putF (lt_putF (lt_putF (lt_putF (lt_putF lt0)))))) (by omega)
theorem il_Asker_7 : (putF "patience" v6 (putF "asks_most" v5 (putF "pause" v4 (putF "rows_most" v3 (putF "shelf" v2 (putF "road" v1 (putF "store" v0 ([])))))))).length < 1000 := Nat.lt_of_lt_of_le (lt_putF (lt_putF (lt_putF (lt_putF (lt_putF (lt_putF (lt_putF lt0))))))) (by omega)
theorem il_Asker_8 : (putF "time" v7 (putF "patience" v6 (putF "asks_most" v5 (putF "pause" v4 (putF "rows_most" v3 (putF "shelf" v2 (putF "road" v1 (putF "store" v0 ([]))))))))).length < 1000 := Nat.lt_of_lt_of_le (lt_putF (lt_putF (lt_putF (lt_putF (lt_putF (lt_putF (lt_putF (lt_putF lt0)))))))) (by omega)
theorem il_Asker_9 : (putF "now" v8 (putF "time" v7 (putF "patience" v6 (putF "asks_most" v5 (putF "pause" v4 (putF "rows_most" v3 (putF "shelf" v2 (putF "road" v1 (putF "store" v0 ([])))))))))).length < 1000 := Nat.lt_of_lt_of_le (lt_putF (lt_putF (lt_putF (lt_putF (lt_putF (lt_putF (lt_putF (lt_putF (lt_putF lt0))))))))) (by omega)
theorem il_Asker_10 : (putF "typed_at" v9 (putF "now" v8 (putF "time" v7 (putF "patience" v6 (putF "asks_most" v5 (putF "pause" v4 (putF "rows_most" v3 (putF "shelf" v2 (putF "road" v1 (putF "store" v0 ([]))))))))))).length < 1000 := Nat.lt_of_lt_of_le (lt_putF (lt_putF (lt_putF (lt_putF (lt_putF (lt_putF (lt_putF (lt_putF (lt_putF (lt_putF lt0)))))))))) (by omega)
theorem il_Asker_11 : (putF "is_due" v10 (putF "typed_at" v9 (putF "now" v8 (putF "time" v7 (putF "patience" v6 (putF "asks_most" v5 (putF "pause" v4 (putF "rows_most" v3 (putF "shelf" v2 (putF "road" v1 (putF "store" v0 ([])))))))))))).length < 1000 := Nat.lt_of_lt_of_le (lt_putF (lt_putF (lt_putF (lt_putF (lt_putF (lt_putF (lt_putF (lt_putF (lt_putF (lt_putF (lt_putF lt0))))))))))) (by omega)
theorem il_Asker_12 : (putF "tries" v11 (putF "is_due" v10 (putF "typed_at" v9 (putF "now" v8 (putF "time" v7 (putF "patience" v6 (putF "asks_most" v5 (putF "pause" v4 (putF "rows_most" v3 (putF "shelf" v2 (putF "road" v1 (putF "store" v0 ([]))))))))))))).length < 1000 := Nat.lt_of_lt_of_le (lt_putF (lt_putF (lt_putF (lt_putF (lt_putF (lt_putF (lt_putF (lt_putF (lt_putF (lt_putF (lt_putF (lt_putF lt0)))))))))))) (by omega)
theorem il_Asker_13 : (putF "asked" v12 (putF "tries" v11 (putF "is_due" v10 (putF "typed_at" v9 (putF "now" v8 (putF "time" v7 (putF "patience" v6 (putF "asks_most" v5 (putF "pause" v4 (putF "rows_most" v3 (putF "shelf" v2 (putF "road" v1 (putF "store" v0 ([])))))))))))))).length < 1000 := Nat.lt_of_lt_of_le (lt_putF (lt_putF (lt_putF (lt_putF (lt_putF (lt_putF (lt_putF (lt_putF (lt_putF (lt_putF (lt_putF (lt_putF (lt_putF lt0))))))))))))) (by omega)
theorem il_Asker_14 : (putF "flying" v13 (putF "asked" v12 (putF "tries" v11 (putF "is_due" v10 (putF "typed_at" v9 (putF "now" v8 (putF "time" v7 (putF "patience" v6 (putF "asks_most" v5 (putF "pause" v4 (putF "rows_most" v3 (putF "shelf" v2 (putF "road" v1 (putF "store" v0 ([]))))))))))))))).length < 1000 := Nat.lt_of_lt_of_le (lt_putF (lt_putF (lt_putF (lt_putF (lt_putF (lt_putF (lt_putF (lt_putF (lt_putF (lt_putF (lt_putF (lt_putF (lt_putF (lt_putF lt0)))))))))))))) (by omega)
theorem il_Asker_15 : (putF "shown" v14 (putF "flying" v13 (putF "asked" v12 (putF "tries" v11 (putF "is_due" v10 (putF "typed_at" v9 (putF "now" v8 (putF "time" v7 (putF "patience" v6 (putF "asks_most" v5 (putF "pause" v4 (putF "rows_most" v3 (putF "shelf" v2 (putF "road" v1 (putF "store" v0 ([])))))))))))))))).length < 1000 := Nat.lt_of_lt_of_le (lt_putF (lt_putF (lt_putF (lt_putF (lt_putF (lt_putF (lt_putF (lt_putF (lt_putF (lt_putF (lt_putF (lt_putF (lt_putF (lt_putF (lt_putF lt0))))))))))))))) (by omega)
theorem il_Asker_16 : (putF "rows" v15 (putF "shown" v14 (putF "flying" v13 (putF "asked" v12 (putF "tries" v11 (putF "is_due" v10 (putF "typed_at" v9 (putF "now" v8 (putF "time" v7 (putF "patience" v6 (putF "asks_most" v5 (putF "pause" v4 (putF "rows_most" v3 (putF "shelf" v2 (putF "road" v1 (putF "store" v0 ([]))))))))))))))))).length < 1000 := Nat.lt_of_lt_of_le (lt_putF (lt_putF (lt_putF (lt_putF (lt_putF (lt_putF (lt_putF (lt_putF (lt_putF (lt_putF (lt_putF (lt_putF (lt_putF (lt_putF (lt_putF (lt_putF lt0)))))))))))))))) (by omega)
theorem ln_Asker : (n_Asker.zip [v0, v1, v2, v3, v4, v5, v6, v7, v8, v9, v10, v11, v12, v13, v14, v15]).length < 1000 := by simp only [n_Asker, List.zip_cons_cons, List.zip_nil_right, List.length_cons, List.length_nil]; omega
end
section
variable {I H : Hp} {M : List (Addr × HO)} {p : Addr} {o o' : HO} {x0 x1 x2 x3 x4 x5 : Addr × HO}
theorem W.putAt (A : List (Addr × HO)) (w : W I H (A ++ (p, o) :: M)) : W I (upd H p o') (A ++ (p, o') :: M) :=
  ((w.perm (List.perm_middle (a := (p, o)) (l₁ := A) (l₂ := M)).symm).put).perm List.perm_middle
theorem W.put1 (w : W I H (x0 :: (p, o) :: M)) : W I (upd H p o') (x0 :: (p, o') :: M) := W.putAt [x0] w
theorem W.put2 (w : W I H (x0 :: x1 :: (p, o) :: M)) : W I (upd H p o') (x0 :: x1 :: (p, o') :: M) := W.putAt [x0, x1] w
theorem W.put3 (w : W I H (x0 :: x1 :: x2 :: (p, o) :: M)) : W I (upd H p o') (x0 :: x1 :: x2 :: (p, o') :: M) := W.putAt [x0, x1, x2] w
theorem W.put4 (w : W I H (x0 :: x1 :: x2 :: x3 :: (p, o) :: M)) : W I (upd H p o') (x0 :: x1 :: x2 :: x3 :: (p, o') :: M) := W.putAt [x0, x1, x2, x3] w
theorem W.put5 (w : W I H (x0 :: x1 :: x2 :: x3 :: x4 :: (p, o) :: M)) : W I (upd H p o') (x0 :: x1 :: x2 :: x3 :: x4 :: (p, o') :: M) := W.putAt [x0, x1, x2, x3, x4] w
theorem W.put6 (w : W I H (x0 :: x1 :: x2 :: x3 :: x4 :: x5 :: (p, o) :: M)) : W I (upd H p o') (x0 :: x1 :: x2 :: x3 :: x4 :: x5 :: (p, o') :: M) := W.putAt [x0, x1, x2, x3, x4, x5] w
end
/-- where the parts of an asker stand -/
structure Ad where
  x : Addr
  dx : Addr
  pa : Addr
  pf : Addr
  pl : Addr
  rd : Addr
  drd : Addr
  d : Addr
  sh : Addr
  dsh : Addr
  st : Addr
  dst : Addr
  r : Addr
def oAsker (K : PySem.W.Frag) (a : Ad) (R : Rul) (s : AS) (vs : V) : HO :=
  .ins (He.ga K "Asker") a.dx (n_Asker.zip [.ref a.st, .ref a.rd, .ref a.sh, .int R.many, .int R.pause, .int R.asks, .int R.pat, .int s.time, sV s.now, .int s.at_, .bl s.due, .int s.tries, .ref a.pa, .ref a.pf, vs, .ref a.pl])
def ShV (I : Hp) (v : V) : Option (Tx × List Tx × Bool) → Prop
  | none => v = .non
  | some (k, rows, old) => ∃ t l, v = .ref t ∧ I t = some (.tup [sV k, .ref l, .bl old]) ∧ I l = some (.lst (rows.map sV))
theorem ShV.mono {I I' : Hp} {v : V} {o : Option (Tx × List Tx × Bool)} (s : Sub I I') (h : ShV I v o) : ShV I' v o := by
  cases o with
  | none => exact h
  | some x => obtain ⟨t, l, h1, h2, h3⟩ := h; exact ⟨t, l, h1, s _ _ h2, s _ _ h3⟩
abbrev dAsked (s : AS) : HO := dI (s.asked.map fun p => (p.1, sV p.2))
abbrev dFly (s : AS) : HO := dI (s.flying.map fun p => (p.1, V.int p.2))
/-- an asker's own things -/
structure AskO (K : PySem.W.Frag) (I : Hp) (a : Ad) (R : Rul) (s : AS) (L : List (Addr × HO)) : Prop where
  ex : ∃ (u : Addr) (o : HO) (vs : V) (lv : List V) (zs : List (V × Ask)),
    L = [(a.x, oAsker K a R s vs), (a.pa, dAsked s), (a.pf, dFly s), (a.pl, .lst lv), (a.rd, oRoad K a.drd a.d s.sent u), (u, .lst (zs.map Prod.fst)), (a.sh, o)] ∧
    I a.d = some (.lst (R.ds.map delV)) ∧ Enc I askD zs ∧ zs.map Prod.snd = uwS s.uw ∧ ShO K I a.dsh R.most R.term s.ks o ∧ RpAll I lv (s.log.map lgD) ∧ ShV I vs s.shown
theorem AskO.mono {K : PySem.W.Frag} {I I' : Hp} {a : Ad} {R : Rul} {s : AS} {L : List (Addr × HO)} (h : AskO K I a R s L) (sb : Sub I I') : AskO K I' a R s L := by
  obtain ⟨u, o, vs, lv, zs, h1, h2, h3, h4, h5, h6, h7⟩ := h
  exact ⟨u, o, vs, lv, zs, h1, sb _ _ h2, h3.mono sb, h4, h5.mono sb, h6.mono sb, h7.mono sb⟩
structure AskW (K : PySem.W.Frag) (I H : Hp) (a : Ad) (R : Rul) (rows : List Tx) (s : AS) (M : List (Addr × HO)) : Prop where
  ex : ∃ L, AskO K I a R s L ∧ W I H (L ++ M) ∧ Ls I M a.st (oStore K a.dst a.r) ∧ Ls I M a.r (.lst (rows.map sV))
section
variable {K : PySem.W.Frag} {I I' H H' : Hp} {a : Ad} {R : Rul} {rows : List Tx} {s : AS} {M : List (Addr × HO)}
theorem AskW.same (h : AskW K I H a R rows s M) (e : Same H H') : AskW K I H' a R rows s M := by
  obtain ⟨L, h1, h2, h3, h4⟩ := h
  exact ⟨L, h1, h2.same e, h3, h4⟩
theorem AskW.sub (h : AskW K I H a R rows s M) : Sub I H := by
  obtain ⟨L, h1, h2, h3, h4⟩ := h
  exact h2.sub
theorem AskW.noI {p : Addr} (h : AskW K I H a R rows s M) (hp : H p = none) : I p = none := by
  obtain ⟨L, h1, h2, h3, h4⟩ := h
  exact h2.noI hp
theorem AskW.mkI {p : Addr} (h : AskW K I H a R rows s M) (hp : H p = none) (o : HO) : ∃ I', Sub I I' ∧ AskW K I' (upd H p o) a R rows s M ∧ I' p = some o := by
  obtain ⟨L, h1, h2, h3, h4⟩ := h
  obtain ⟨I', sb, w, e⟩ := h2.mkI hp o
  exact ⟨I', sb, ⟨L, h1.mono sb, w, h3.mono sb, h4.mono sb⟩, e⟩
theorem AskW.newM {p : Addr} {o : HO} (h : AskW K I H a R rows s M) (hp : H p = none) : AskW K I (upd H p o) a R rows s ((p, o) :: M) := by
  obtain ⟨L, h1, h2, h3, h4⟩ := h
  exact ⟨L, h1, (h2.newM hp).perm List.perm_middle, h3.cons, h4.cons⟩
theorem AskW.skip {p : Addr} {o : HO} (h : AskW K I H a R rows s M) (hp : H p = none) : AskW K I (upd H p o) a R rows s M := by
  obtain ⟨L, h1, h2, h3, h4⟩ := h
  exact ⟨L, h1, h2.skip hp, h3, h4⟩
theorem AskW.obj (h : AskW K I H a R rows s M) : ∃ vs, H a.x = some (oAsker K a R s vs) ∧ ShV I vs s.shown := by
  obtain ⟨L, ⟨u, o, vs, lv, zs, rfl, h2, h3, h4, h5, h6, h7⟩, w, l1, l2⟩ := h
  exact ⟨vs, w.has.1, h7⟩
theorem use_fold {l : Tx} {H : Hp} {Q : VK} {E : XK} (h : okL 12 l = true) (q : ∀ H', Same H H' → Q (sV (foldL l)) H') : sp_folded K [sV l] H Q E :=
  ⟨l, rfl, by have := okL_len h; omega, fun H' s => by rw [if_pos (okL_le h (by decide))]; exact q H' s⟩
end
def wV : Option Tx → V
  | none => .non
  | some k => sV k
/-- what each method takes -/
def askP (K : PySem.W.Frag) (H : Hp) (I : Hp) (M : List (Addr × HO)) (a : Ad) (R : Rul) (rows : List Tx) (s : AS) : Prop := AskW K I H a R rows s M ∧ OkS R 0 s ∧ rowsOk rows ∧ s.sent ≤ 300000
def sp_Asker_clock (K : PySem.W.Frag) : Sp := fun vs H Q _ => ∃ (I : Hp) (M : List (Addr × HO)) (a : Ad) (R : Rul) (rows : List Tx) (s : AS), vs = [.ref a.x] ∧ AskW K I H a R rows s M ∧ Q (.int s.time) H
def sp_Asker_typed (K : PySem.W.Frag) : Sp := fun vs H Q _ => ∃ (I : Hp) (M : List (Addr × HO)) (a : Ad) (R : Rul) (rows : List Tx) (s : AS), vs = [.ref a.x] ∧ AskW K I H a R rows s M ∧ Q (sV s.now) H
def sp_Asker_is_waiting (K : PySem.W.Frag) : Sp := fun vs H Q _ => ∃ (I : Hp) (M : List (Addr × HO)) (a : Ad) (R : Rul) (rows : List Tx) (s : AS), vs = [.ref a.x] ∧ AskW K I H a R rows s M ∧ Q (.bl (s.due || !s.asked.isEmpty)) H
def sp_Asker_log (K : PySem.W.Frag) : Sp := fun vs H Q _ => ∃ (I : Hp) (M : List (Addr × HO)) (a : Ad) (R : Rul) (rows : List Tx) (s : AS), vs = [.ref a.x] ∧ AskW K I H a R rows s M ∧
  ∀ (H' : Hp) (p : Addr) (lv : List V), AskW K I H' a R rows s ((p, .lst lv) :: M) → RpAll I lv (s.log.map lgD) → Q (.ref p) H'
def sp_Asker_is_fresh (K : PySem.W.Frag) : Sp := fun vs H Q _ => ∃ (I : Hp) (M : List (Addr × HO)) (a : Ad) (R : Rul) (rows : List Tx) (s : AS), vs = [.ref a.x] ∧ AskW K I H a R rows s M ∧ okL 12 s.now = true ∧ s.shown ≠ none ∧
  ∀ H', Same H H' → Q (.bl (freshS s)) H'
def sp_Asker_drop_other (K : PySem.W.Frag) : Sp := fun vs H Q _ => ∃ (I : Hp) (M : List (Addr × HO)) (a : Ad) (R : Rul) (rows : List Tx) (s : AS) (k : Nat) (w : Option Tx), vs = [.ref a.x, wV w] ∧ AskW K I H a R rows s M ∧ OkS R k s ∧ s.sent ≤ 300001 ∧
  ∀ I' H', Sub I I' → AskW K I' H' a R rows (dropS s w) M → Q .non H'
def sp_Asker_show (K : PySem.W.Frag) : Sp := fun vs H Q _ => ∃ (I : Hp) (M : List (Addr × HO)) (a : Ad) (R : Rul) (rows : List Tx) (s : AS) (k : Nat) (l : Addr) (rs : List Tx), vs = [.ref a.x, .ref l] ∧ AskW K I H a R rows s M ∧ OkS R k s ∧ s.sent ≤ 300001 ∧ I l = some (.lst (rs.map sV)) ∧ rowsOk rs ∧
  ∀ I' H', Sub I I' → AskW K I' H' a R rows (showS s rs) M → Q .non H'
def sp_Asker_look_near (K : PySem.W.Frag) : Sp := fun vs H Q _ => ∃ (I : Hp) (M : List (Addr × HO)) (a : Ad) (R : Rul) (rows : List Tx) (s : AS) (k : Nat), vs = [.ref a.x] ∧ AskW K I H a R rows s M ∧ OkS R k s ∧ s.sent ≤ 300001 ∧
  ∀ I' H', Sub I I' → AskW K I' H' a R rows (nearS R s) M → Q .non H'
def sp_Asker_ask_if_due (K : PySem.W.Frag) : Sp := fun vs H Q _ => ∃ (I : Hp) (M : List (Addr × HO)) (a : Ad) (R : Rul) (rows : List Tx) (s : AS) (k : Nat), vs = [.ref a.x] ∧ AskW K I H a R rows s M ∧ OkS R k s ∧ s.sent ≤ 30000 ∧
  ∀ I' H', Sub I I' → AskW K I' H' a R rows (askS R s) M → Q .non H'
def sp_Asker_try_again (K : PySem.W.Frag) : Sp := fun vs H Q _ => ∃ (I : Hp) (M : List (Addr × HO)) (a : Ad) (R : Rul) (rows : List Tx) (s : AS) (k : Nat), vs = [.ref a.x] ∧ AskW K I H a R rows s M ∧ OkS R k s ∧ s.sent ≤ 300001 ∧
  ∀ I' H', Sub I I' → AskW K I' H' a R rows (againT R s) M → Q .non H'
def sp_Asker_step (K : PySem.W.Frag) : Sp := fun vs H Q _ => ∃ (I : Hp) (M : List (Addr × HO)) (a : Ad) (R : Rul) (rows : List Tx) (s : AS), vs = [.ref a.x] ∧ AskW K I H a R rows s M ∧ OkS R 0 s ∧ rowsOk rows ∧ s.sent ≤ 30000 ∧
  ∀ I' H', Sub I I' → AskW K I' H' a R rows (stepS R rows s) M → Q .non H'
def tickOk (n : Int) : Bool := decide (0 ≤ n ∧ n ≤ 100)
def sp_Asker_tick (K : PySem.W.Frag) : Sp := fun vs H Q E => ∃ (I : Hp) (M : List (Addr × HO)) (a : Ad) (R : Rul) (rows : List Tx) (s : AS) (n : Int), vs = [.ref a.x, .int n] ∧ AskW K I H a R rows s M ∧ OkS R 0 s ∧ rowsOk rows ∧ s.sent ≤ 29000 ∧
  (tickOk n = true → ∀ I' H', Sub I I' → AskW K I' H' a R rows (tickS R rows n.toNat s) M → Q .non H') ∧ (tickOk n = false → E (bN K) none H)
def sp_Asker_put (K : PySem.W.Frag) : Sp := fun vs H Q E => ∃ (I : Hp) (M : List (Addr × HO)) (a : Ad) (R : Rul) (rows : List Tx) (s : AS) (t : Tx), vs = [.ref a.x, sV t] ∧ AskW K I H a R rows s M ∧ OkS R 0 s ∧ s.sent ≤ 29000 ∧ t.length ≤ 1000000 ∧
  (okL 12 t = true → ∀ I' H', Sub I I' → AskW K I' H' a R rows (putS R s t) M → Q .non H') ∧ (okL 12 t = false → ∀ H', Same H H' → E (bT K) none H')
def sp_Asker_key (K : PySem.W.Frag) : Sp := fun vs H Q E => ∃ (I : Hp) (M : List (Addr × HO)) (a : Ad) (R : Rul) (rows : List Tx) (s : AS) (t : Tx), vs = [.ref a.x, sV t] ∧ AskW K I H a R rows s M ∧ OkS R 0 s ∧ s.sent ≤ 29000 ∧ t.length ≤ 1000 ∧
  (okL 12 (s.now ++ t) = true → ∀ I' H', Sub I I' → AskW K I' H' a R rows (putS R s (s.now ++ t)) M → Q .non H') ∧ (okL 12 (s.now ++ t) = false → ∀ H', Same H H' → E (bT K) none H')
def sp_Asker_rub (K : PySem.W.Frag) : Sp := fun vs H Q E => ∃ (I : Hp) (M : List (Addr × HO)) (a : Ad) (R : Rul) (rows : List Tx) (s : AS), vs = [.ref a.x] ∧ AskW K I H a R rows s M ∧ OkS R 0 s ∧ s.sent ≤ 29000 ∧
  ∀ I' H', Sub I I' → AskW K I' H' a R rows (putS R s s.now.dropLast) M → Q .non H'
def sp_Asker_again (K : PySem.W.Frag) : Sp := fun vs H Q E => ∃ (I : Hp) (M : List (Addr × HO)) (a : Ad) (R : Rul) (rows : List Tx) (s : AS), vs = [.ref a.x] ∧ AskW K I H a R rows s M ∧ OkS R 0 s ∧ s.sent ≤ 29000 ∧
  (againE s = false → ∀ I' H', Sub I I' → AskW K I' H' a R rows (againS R s) M → Q .non H') ∧ (againE s = true → ∀ H', Same H H' → E (bA K) none H')
def viewW (s : AS) : Tx := match s.shown with
  | none => [110, 111, 116, 104, 105, 110, 103]
  | some _ => if freshS s = true then [102, 114, 101, 115, 104] else [111, 108, 100]
def viewK (s : AS) : Tx := match s.shown with
  | none => []
  | some (k, _, _) => k
def viewR (s : AS) : List Tx := match s.shown with
  | none => []
  | some (_, rs, _) => rs
def sp_Asker_view (K : PySem.W.Frag) : Sp := fun vs H Q E => ∃ (I : Hp) (M : List (Addr × HO)) (a : Ad) (R : Rul) (rows : List Tx) (s : AS), vs = [.ref a.x] ∧ AskW K I H a R rows s M ∧ OkS R 0 s ∧
  ∀ (I' H' : Hp) (t l : Addr), Sub I I' → AskW K I' H' a R rows s ((l, .lst ((viewR s).map sV)) :: M) → I' t = some (.tup [sV (viewW s), sV (viewK s), .ref l]) → Q (.ref t) H'
def rulesOk (R : Rul) : Bool := manyOk R.many && (decide (0 ≤ R.pause ∧ R.pause ≤ 9) && (decide (1 ≤ R.asks ∧ R.asks ≤ 3) && decide (1 ≤ R.pat ∧ R.pat ≤ 40)))
def S0 : AS := ⟨0, [], 0, false, 0, [], [], none, [], 0, [], []⟩
def sp_Asker___init__ (K : PySem.W.Frag) : Sp := fun vs H Q E => ∃ (I : Hp) (M : List (Addr × HO)) (x dx st rd sh drd d u dsh dst r : Addr) (o : HO) (R : Rul) (rows : List Tx), vs = [.ref x, .ref st, .ref rd, .ref sh, .int R.many, .int R.pause, .int R.asks, .int R.pat] ∧
  W I H ((x, .ins (He.ga K "Asker") dx []) :: (rd, oRoad K drd d 0 u) :: (u, .lst []) :: (sh, o) :: M) ∧ I d = some (.lst (R.ds.map delV)) ∧ ShO K I dsh R.most R.term [] o ∧ Ls I M st (oStore K dst r) ∧ Ls I M r (.lst (rows.map sV)) ∧
  (rulesOk R = true → ∀ (I' H' : Hp) (pa pf pl : Addr), Sub I I' → AskW K I' H' ⟨x, dx, pa, pf, pl, rd, drd, d, sh, dsh, st, dst, r⟩ R rows S0 M → Q .non H') ∧ (rulesOk R = false → E (bN K) none H)
def t_Asker___init__ (K : PySem.W.Frag) (E : XK) : TS := tSeq (tDrop (tCall (sp_look_many K) [] E (tCons (tVar 4) (tNil)))) (tSeq (tIfS (tOr (tNot (tTest (tChain (rI0 fun i j => .bl (decide (i ≤ j))) (rI0 fun i j => .bl (decide (i ≤ j))) (tC (.int 0)) (tVar 5) (tC (.int 9))))) (tOr (tNot (tTest (tChain (rI0 fun i j => .bl (decide (i ≤ j))) (rI0 fun i j => .bl (decide (i ≤ j))) (tC (.int 1)) (tVar 6) (tC (.int 3))))) (tNot (tTest (tChain (rI0 fun i j => .bl (decide (i ≤ j))) (rI0 fun i j => .bl (decide (i ≤ j))) (tC (.int 1)) (tVar 7) (tC (.int 40))))))) (fRaise (WD E) (He.ga K "BadNumber")) (tNext)) (tSeq (fSet (He.ga K "Asker") "store" (tVar 0) (tVar 1)) (tSeq (fSet (He.ga K "Asker") "road" (tVar 0) (tVar 2)) (tSeq (fSet (He.ga K "Asker") "shelf" (tVar 0) (tVar 3)) (tSeq (fSet (He.ga K "Asker") "rows_most" (tVar 0) (tVar 4)) (tSeq (fSet (He.ga K "Asker") "pause" (tVar 0) (tVar 5)) (tSeq (fSet (He.ga K "Asker") "asks_most" (tVar 0) (tVar 6)) (tSeq (fSet (He.ga K "Asker") "patience" (tVar 0) (tVar 7)) (tSeq (fSet (He.ga K "Asker") "time" (tVar 0) (tC (.int 0))) (tSeq (fSet (He.ga K "Asker") "now" (tVar 0) (tC (.str ""))) (tSeq (fSet (He.ga K "Asker") "typed_at" (tVar 0) (tC (.int 0))) (tSeq (fSet (He.ga K "Asker") "is_due" (tVar 0) (tC (.bl false))) (tSeq (fSet (He.ga K "Asker") "tries" (tVar 0) (tC (.int 0))) (tSeq (fSet (He.ga K "Asker") "asked" (tVar 0) (fNewI)) (tSeq (fSet (He.ga K "Asker") "flying" (tVar 0) (fNewI)) (tSeq (fSet (He.ga K "Asker") "shown" (tVar 0) (tC .non)) (fSet (He.ga K "Asker") "rows" (tVar 0) (tLst (tNil)))))))))))))))))))
abbrev nn_Asker___init__ : List Str := ["self", "store", "road", "shelf", "many", "pause", "asks", "patience"]
def t_Asker_clock (K : PySem.W.Frag) (E : XK) : TS := tRet (fFld (He.ga K "Asker") "time" (tVar 0))
abbrev nn_Asker_clock : List Str := ["self"]
def t_Asker_typed (K : PySem.W.Frag) (E : XK) : TS := tRet (fFld (He.ga K "Asker") "now" (tVar 0))
abbrev nn_Asker_typed : List Str := ["self"]
def t_Asker_put_B1_2 (K : PySem.W.Frag) (E : XK) : TS := tSeq (fSet (He.ga K "Asker") "now" (tVar 0) (tVar 1)) (tSeq (tDrop (fMeth (He.ga K "Asker") "look_near" (sp_Asker_look_near K) E (tVar 0) (tNil))) (tDrop (fMeth (He.ga K "Asker") "ask_if_due" (sp_Asker_ask_if_due K) E (tVar 0) (tNil))))
def t_Asker_put (K : PySem.W.Frag) (E : XK) : TS := tSeq (tDrop (tCall (sp_look_text K) [] E (tCons (tVar 1) (tCons (tC (.int 12)) (tNil))))) (tSeq (tIfS (tTest (tOp (rNe) (tCall (sp_folded K) [] E (tCons (tVar 1) (tNil))) (tCall (sp_folded K) [] E (tCons (fFld (He.ga K "Asker") "now" (tVar 0)) (tNil))))) (tSeq (tDrop (fMeth (He.ga K "Asker") "drop_other" (sp_Asker_drop_other K) E (tVar 0) (tCons (tCall (sp_folded K) [] E (tCons (tVar 1) (tNil))) (tNil)))) (tSeq (fSet (He.ga K "Asker") "typed_at" (tVar 0) (fFld (He.ga K "Asker") "time" (tVar 0))) (tSeq (fSet (He.ga K "Asker") "is_due" (tVar 0) (tOp (rNe) (tCall (sp_folded K) [] E (tCons (tVar 1) (tNil))) (tC (.str "")))) (fSet (He.ga K "Asker") "tries" (tVar 0) (tC (.int 0)))))) (tNext)) (t_Asker_put_B1_2 K E))
abbrev nn_Asker_put : List Str := ["self", "text"]
def t_Asker_key (K : PySem.W.Frag) (E : XK) : TS := tDrop (fMeth (He.ga K "Asker") "put" (sp_Asker_put K) E (tVar 0) (tCons (tOp (gCatS) (fFld (He.ga K "Asker") "now" (tVar 0)) (tVar 1)) (tNil)))
abbrev nn_Asker_key : List Str := ["self", "sign"]
def t_Asker_rub (K : PySem.W.Frag) (E : XK) : TS := tDrop (fMeth (He.ga K "Asker") "put" (sp_Asker_put K) E (tVar 0) (tCons (tSl rSlS (fFld (He.ga K "Asker") "now" (tVar 0)) (tNoPart) (tPart (tUn (rU fun i => .int (-i)) (tC (.int 1))))) (tNil)))
abbrev nn_Asker_rub : List Str := ["self"]
def t_Asker_drop_other (K : PySem.W.Frag) (E : XK) : TS := fForL (tCB (gListK) (tCons (fBM0 "dict" gKeys (fFld (He.ga K "Asker") "asked" (tVar 0))) (tNil))) (gName 2) (tIfS (tTest (tOp (rNe) (tCall (sp_folded K) [] E (tCons (fGetI (fFld (He.ga K "Asker") "asked" (tVar 0)) (tVar 2)) (tNil))) (tVar 1))) (tSeq (tDrop (fBM "dict" gPop1 (fFld (He.ga K "Asker") "asked" (tVar 0)) (tCons (tVar 2) (tNil)))) (tDrop (fBM "list" rAppend (fFld (He.ga K "Asker") "rows" (tVar 0)) (tCons (tTup (tCons (tC (.str "off")) (tCons (tVar 2) (tNil)))) (tNil))))) (tNext))
abbrev nn_Asker_drop_other : List Str := ["self", "wanted", "number"]
def t_Asker_look_near (K : PySem.W.Frag) (E : XK) : TS := tSeq (tIfS (tTest (tOp (rEq) (tCall (sp_folded K) [] E (tCons (fFld (He.ga K "Asker") "now" (tVar 0)) (tNil))) (tC (.str "")))) (tSeq (fSet (He.ga K "Asker") "is_due" (tVar 0) (tC (.bl false))) (tSeq (fSet (He.ga K "Asker") "shown" (tVar 0) (tC .non)) (tRetN))) (tNext)) (tSeq (tAsg (fMeth (He.ga K "Shelf") "get" (sp_Shelf_get K) E (fFld (He.ga K "Asker") "shelf" (tVar 0)) (tCons (fFld (He.ga K "Asker") "now" (tVar 0)) (tCons (fFld (He.ga K "Asker") "rows_most" (tVar 0)) (tCons (fFld (He.ga K "Asker") "time" (tVar 0)) (tNil))))) (gName 1)) (tIfS (tTest (tOp (rNotN) (tVar 1) (tC .non))) (tDrop (fMeth (He.ga K "Asker") "show" (sp_Asker_show K) E (tVar 0) (tCons (tVar 1) (tNil)))) (tIfS (tAnd (tTest (tOp (rNotN) (fFld (He.ga K "Asker") "shown" (tVar 0)) (tC .non))) (tNot (tB (fMeth (He.ga K "Asker") "is_fresh" (sp_Asker_is_fresh K) E (tVar 0) (tNil))))) (tSeq (tAsg (tCall (sp_best K) [] E (tCons (tOp gIxT (fFld (He.ga K "Asker") "shown" (tVar 0)) (tC (.int 1))) (tCons (fFld (He.ga K "Asker") "now" (tVar 0)) (tCons (fFld (He.ga K "Asker") "rows_most" (tVar 0)) (tNil))))) (gName 2)) (fSet (He.ga K "Asker") "shown" (tVar 0) (tIf (fTru (tVar 2)) (tTup (tCons (tOp gIxT (fFld (He.ga K "Asker") "shown" (tVar 0)) (tC (.int 0))) (tCons (tVar 2) (tCons (tC (.bl true)) (tNil))))) (tC .non)))) (tNext))))
abbrev nn_Asker_look_near : List Str := ["self", "found", "some"]
def t_Asker_is_fresh (K : PySem.W.Frag) (E : XK) : TS := tRet (tAndV (tOp (rEq) (tOp gIxT (fFld (He.ga K "Asker") "shown" (tVar 0)) (tC (.int 0))) (tCall (sp_folded K) [] E (tCons (fFld (He.ga K "Asker") "now" (tVar 0)) (tNil)))) (tNotV (tOp gIxT (fFld (He.ga K "Asker") "shown" (tVar 0)) (tC (.int 2)))))
abbrev nn_Asker_is_fresh : List Str := ["self"]
def t_Asker_show (K : PySem.W.Frag) (E : XK) : TS := tSeq (fSet (He.ga K "Asker") "shown" (tVar 0) (tTup (tCons (tCall (sp_folded K) [] E (tCons (fFld (He.ga K "Asker") "now" (tVar 0)) (tNil))) (tCons (tVar 1) (tCons (tC (.bl false)) (tNil)))))) (tSeq (fSet (He.ga K "Asker") "is_due" (tVar 0) (tC (.bl false))) (tDrop (fMeth (He.ga K "Asker") "drop_other" (sp_Asker_drop_other K) E (tVar 0) (tCons (tC .non) (tNil)))))
abbrev nn_Asker_show : List Str := ["self", "some"]
def t_Asker_ask_if_due (K : PySem.W.Frag) (E : XK) : TS := tSeq (tAsg (tOp (rI0 fun i j => .bl (decide (j ≤ i))) (tOp (rI0 fun i j => .int (i - j)) (fFld (He.ga K "Asker") "time" (tVar 0)) (fFld (He.ga K "Asker") "typed_at" (tVar 0))) (fFld (He.ga K "Asker") "pause" (tVar 0))) (gName 1)) (tIfS (tAnd (tB (fFld (He.ga K "Asker") "is_due" (tVar 0))) (tAnd (tB (tVar 1)) (tTest (tOp (rI0 fun i j => .bl (decide (i < j))) (tCB (gLenI) (tCons (fFld (He.ga K "Asker") "flying" (tVar 0)) (tNil))) (fFld (He.ga K "Asker") "asks_most" (tVar 0)))))) (tSeq (fSet (He.ga K "Asker") "is_due" (tVar 0) (tC (.bl false))) (tSeq (fSet (He.ga K "Asker") "tries" (tVar 0) (tOp (rI0 fun i j => .int (i + j)) (fFld (He.ga K "Asker") "tries" (tVar 0)) (tC (.int 1)))) (tSeq (tAsg (fMeth (He.ga K "Road") "send" (sp_Road_send K) E (fFld (He.ga K "Asker") "road" (tVar 0)) (tCons (fFld (He.ga K "Asker") "now" (tVar 0)) (tCons (fFld (He.ga K "Asker") "time" (tVar 0)) (tNil)))) (gName 2)) (tSeq (fPutI (fFld (He.ga K "Asker") "asked" (tVar 0)) (tVar 2) (fFld (He.ga K "Asker") "now" (tVar 0))) (tSeq (fPutI (fFld (He.ga K "Asker") "flying" (tVar 0)) (tVar 2) (fFld (He.ga K "Asker") "time" (tVar 0))) (tDrop (fBM "list" rAppend (fFld (He.ga K "Asker") "rows" (tVar 0)) (tCons (tTup (tCons (tC (.str "asked")) (tCons (tVar 2) (tCons (tCall (sp_folded K) [] E (tCons (fFld (He.ga K "Asker") "now" (tVar 0)) (tNil))) (tNil))))) (tNil))))))))) (tNext))
abbrev nn_Asker_ask_if_due : List Str := ["self", "is_time", "number"]
def t_Asker_step (K : PySem.W.Frag) (E : XK) : TS := tSeq (fSet (He.ga K "Asker") "time" (tVar 0) (tOp (rI0 fun i j => .int (i + j)) (fFld (He.ga K "Asker") "time" (tVar 0)) (tC (.int 1)))) (tSeq (fForL (fMeth (He.ga K "Road") "due" (sp_Road_due K) E (fFld (He.ga K "Asker") "road" (tVar 0)) (tCons (fFld (He.ga K "Asker") "time" (tVar 0)) (tNil))) (fTup 2 (gCons (gName 1) (gCons (gName 2) (gNil)))) (tSeq (tAsg (fMeth (He.ga K "Store") "answer" (sp_Store_answer K) E (fFld (He.ga K "Asker") "store" (tVar 0)) (tCons (tVar 2) (tCons (fFld (He.ga K "Asker") "rows_most" (tVar 0)) (tNil)))) (fTup 2 (gCons (gName 3) (gCons (gName 4) (gNil))))) (tSeq (tDrop (fBM "dict" gPop2 (fFld (He.ga K "Asker") "flying" (tVar 0)) (tCons (tVar 1) (tCons (tC .non) (tNil))))) (tSeq (tDrop (fMeth (He.ga K "Shelf") "put" (sp_Shelf_put K) E (fFld (He.ga K "Asker") "shelf" (tVar 0)) (tCons (tVar 2) (tCons (tVar 3) (tCons (tVar 4) (tCons (fFld (He.ga K "Asker") "time" (tVar 0)) (tNil))))))) (tIfS (tTest (tOp (gInI) (tVar 1) (fFld (He.ga K "Asker") "asked" (tVar 0)))) (tSeq (tDrop (fBM "dict" gPop1 (fFld (He.ga K "Asker") "asked" (tVar 0)) (tCons (tVar 1) (tNil)))) (tSeq (tDrop (fBM "list" rAppend (fFld (He.ga K "Asker") "rows" (tVar 0)) (tCons (tTup (tCons (tC (.str "came")) (tCons (tVar 1) (tNil)))) (tNil)))) (tDrop (fMeth (He.ga K "Asker") "show" (sp_Asker_show K) E (tVar 0) (tCons (tVar 3) (tNil)))))) (tSeq (tDrop (fBM "list" rAppend (fFld (He.ga K "Asker") "rows" (tVar 0)) (tCons (tTup (tCons (tC (.str "late")) (tCons (tVar 1) (tNil)))) (tNil)))) (tDrop (fMeth (He.ga K "Asker") "look_near" (sp_Asker_look_near K) E (tVar 0) (tNil))))))))) (tSeq (tDrop (fMeth (He.ga K "Asker") "try_again" (sp_Asker_try_again K) E (tVar 0) (tNil))) (tDrop (fMeth (He.ga K "Asker") "ask_if_due" (sp_Asker_ask_if_due K) E (tVar 0) (tNil)))))
abbrev nn_Asker_step : List Str := ["self", "number", "query", "some", "is_all"]
def t_Asker_try_again (K : PySem.W.Frag) (E : XK) : TS := fForL (tCB (gSortK) (tCons (fBM0 "dict" gKeys (fFld (He.ga K "Asker") "flying" (tVar 0))) (tNil))) (gName 1) (tIfS (tTest (tOp (rI0 fun i j => .bl (decide (j ≤ i))) (tOp (rI0 fun i j => .int (i - j)) (fFld (He.ga K "Asker") "time" (tVar 0)) (fGetI (fFld (He.ga K "Asker") "flying" (tVar 0)) (tVar 1))) (fFld (He.ga K "Asker") "patience" (tVar 0)))) (tSeq (tDrop (fBM "dict" gPop1 (fFld (He.ga K "Asker") "flying" (tVar 0)) (tCons (tVar 1) (tNil)))) (tIfS (tTest (tOp (gInI) (tVar 1) (fFld (He.ga K "Asker") "asked" (tVar 0)))) (tSeq (tDrop (fBM "dict" gPop1 (fFld (He.ga K "Asker") "asked" (tVar 0)) (tCons (tVar 1) (tNil)))) (tSeq (tDrop (fBM "list" rAppend (fFld (He.ga K "Asker") "rows" (tVar 0)) (tCons (tTup (tCons (tC (.str "lost")) (tCons (tVar 1) (tNil)))) (tNil)))) (fSet (He.ga K "Asker") "is_due" (tVar 0) (tOp (rI0 fun i j => .bl (decide (i < j))) (fFld (He.ga K "Asker") "tries" (tVar 0)) (tC (.int 3)))))) (tNext))) (tNext))
abbrev nn_Asker_try_again : List Str := ["self", "number"]
def t_Asker_tick (K : PySem.W.Frag) (E : XK) : TS := tSeq (tIfS (tNot (tTest (tChain (rI0 fun i j => .bl (decide (i ≤ j))) (rI0 fun i j => .bl (decide (i ≤ j))) (tC (.int 0)) (tVar 1) (tC (.int 100))))) (fRaise (WD E) (He.ga K "BadNumber")) (tNext)) (fForR1 (tCons (tVar 1) (tNil)) (gName 2) (tDrop (fMeth (He.ga K "Asker") "step" (sp_Asker_step K) E (tVar 0) (tNil))))
abbrev nn_Asker_tick : List Str := ["self", "many", "k"]
def t_Asker_again (K : PySem.W.Frag) (E : XK) : TS := tSeq (tIfS (tOr (tTest (tOp (rEq) (tCall (sp_folded K) [] E (tCons (fFld (He.ga K "Asker") "now" (tVar 0)) (tNil))) (tC (.str "")))) (fTru (fFld (He.ga K "Asker") "asked" (tVar 0)))) (fRaise (WD E) (He.ga K "BadAsk")) (tNext)) (tSeq (tDrop (fMeth (He.ga K "Shelf") "clear" (sp_Shelf_clear K) E (fFld (He.ga K "Asker") "shelf" (tVar 0)) (tNil))) (tSeq (fSet (He.ga K "Asker") "is_due" (tVar 0) (tC (.bl true))) (tSeq (fSet (He.ga K "Asker") "tries" (tVar 0) (tC (.int 0))) (tSeq (fSet (He.ga K "Asker") "typed_at" (tVar 0) (tOp (rI0 fun i j => .int (i - j)) (fFld (He.ga K "Asker") "time" (tVar 0)) (fFld (He.ga K "Asker") "pause" (tVar 0)))) (tDrop (fMeth (He.ga K "Asker") "ask_if_due" (sp_Asker_ask_if_due K) E (tVar 0) (tNil)))))))
abbrev nn_Asker_again : List Str := ["self"]
def t_Asker_view_B1_2 (K : PySem.W.Frag) (E : XK) : TS := tRet (tTup (tCons (tVar 1) (tCons (tOp gIxT (fFld (He.ga K "Asker") "shown" (tVar 0)) (tC (.int 0))) (tCons (tCB (gListL) (tCons (tOp gIxT (fFld (He.ga K "Asker") "shown" (tVar 0)) (tC (.int 1))) (tNil))) (tNil)))))
def t_Asker_view (K : PySem.W.Frag) (E : XK) : TS := tSeq (tIfS (tTest (tOp (rIsN) (fFld (He.ga K "Asker") "shown" (tVar 0)) (tC .non))) (tRet (tTup (tCons (tC (.str "nothing")) (tCons (tC (.str "")) (tCons (tLst (tNil)) (tNil)))))) (tNext)) (tSeq (tAsg (tIf (tB (fMeth (He.ga K "Asker") "is_fresh" (sp_Asker_is_fresh K) E (tVar 0) (tNil))) (tC (.str "fresh")) (tC (.str "old"))) (gName 1)) (t_Asker_view_B1_2 K E))
abbrev nn_Asker_view : List Str := ["self", "word"]
def t_Asker_is_waiting (K : PySem.W.Frag) (E : XK) : TS := tRet (tOrV (fFld (He.ga K "Asker") "is_due" (tVar 0)) (tOp (rI0 fun i j => .bl (decide (j < i))) (tCB (gLenI) (tCons (fFld (He.ga K "Asker") "asked" (tVar 0)) (tNil))) (tC (.int 0))))
abbrev nn_Asker_is_waiting : List Str := ["self"]
def t_Asker_log (K : PySem.W.Frag) (E : XK) : TS := tRet (tCB (gListL) (tCons (fFld (He.ga K "Asker") "rows" (tVar 0)) (tNil)))
abbrev nn_Asker_log : List Str := ["self"]
section
variable {K : PySem.W.Frag}
theorem len_Asker___init__ : ∀ vs H Q E, sp_Asker___init__ K vs H Q E → vs.length = ["self", "store", "road", "shelf", "many", "pause", "asks", "patience"].length := by
  rintro _ _ _ _ ⟨_, _, _, _, _, _, _, _, _, _, _, _, _, _, _, _, rfl, _⟩; rfl
theorem len_Asker_clock : ∀ vs H Q E, sp_Asker_clock K vs H Q E → vs.length = ["self"].length := by
  rintro _ _ _ _ ⟨_, _, _, _, _, _, rfl, _⟩; rfl
theorem len_Asker_typed : ∀ vs H Q E, sp_Asker_typed K vs H Q E → vs.length = ["self"].length := by
  rintro _ _ _ _ ⟨_, _, _, _, _, _, rfl, _⟩; rfl
theorem len_Asker_is_waiting : ∀ vs H Q E, sp_Asker_is_waiting K vs H Q E → vs.length = ["self"].length := by
  rintro _ _ _ _ ⟨_, _, _, _, _, _, rfl, _⟩; rfl
theorem len_Asker_log : ∀ vs H Q E, sp_Asker_log K vs H Q E → vs.length = ["self"].length := by
  rintro _ _ _ _ ⟨_, _, _, _, _, _, rfl, _⟩; rfl
theorem len_Asker_is_fresh : ∀ vs H Q E, sp_Asker_is_fresh K vs H Q E → vs.length = ["self"].length := by
  rintro _ _ _ _ ⟨_, _, _, _, _, _, rfl, _⟩; rfl
theorem len_Asker_drop_other : ∀ vs H Q E, sp_Asker_drop_other K vs H Q E → vs.length = ["self", "wanted"].length := by
  rintro _ _ _ _ ⟨_, _, _, _, _, _, _, _, rfl, _⟩; rfl
theorem len_Asker_show : ∀ vs H Q E, sp_Asker_show K vs H Q E → vs.length = ["self", "some"].length := by
  rintro _ _ _ _ ⟨_, _, _, _, _, _, _, _, _, rfl, _⟩; rfl
theorem len_Asker_look_near : ∀ vs H Q E, sp_Asker_look_near K vs H Q E → vs.length = ["self"].length := by
  rintro _ _ _ _ ⟨_, _, _, _, _, _, _, rfl, _⟩; rfl
theorem len_Asker_ask_if_due : ∀ vs H Q E, sp_Asker_ask_if_due K vs H Q E → vs.length = ["self"].length := by
  rintro _ _ _ _ ⟨_, _, _, _, _, _, _, rfl, _⟩; rfl
theorem len_Asker_try_again : ∀ vs H Q E, sp_Asker_try_again K vs H Q E → vs.length = ["self"].length := by
  rintro _ _ _ _ ⟨_, _, _, _, _, _, _, rfl, _⟩; rfl
theorem len_Asker_step : ∀ vs H Q E, sp_Asker_step K vs H Q E → vs.length = ["self"].length := by
  rintro _ _ _ _ ⟨_, _, _, _, _, _, rfl, _⟩; rfl
theorem len_Asker_tick : ∀ vs H Q E, sp_Asker_tick K vs H Q E → vs.length = ["self", "many"].length := by
  rintro _ _ _ _ ⟨_, _, _, _, _, _, _, rfl, _⟩; rfl
theorem len_Asker_put : ∀ vs H Q E, sp_Asker_put K vs H Q E → vs.length = ["self", "text"].length := by
  rintro _ _ _ _ ⟨_, _, _, _, _, _, _, rfl, _⟩; rfl
theorem len_Asker_key : ∀ vs H Q E, sp_Asker_key K vs H Q E → vs.length = ["self", "sign"].length := by
  rintro _ _ _ _ ⟨_, _, _, _, _, _, _, rfl, _⟩; rfl
theorem len_Asker_rub : ∀ vs H Q E, sp_Asker_rub K vs H Q E → vs.length = ["self"].length := by
  rintro _ _ _ _ ⟨_, _, _, _, _, _, rfl, _⟩; rfl
theorem len_Asker_again : ∀ vs H Q E, sp_Asker_again K vs H Q E → vs.length = ["self"].length := by
  rintro _ _ _ _ ⟨_, _, _, _, _, _, rfl, _⟩; rfl
theorem len_Asker_view : ∀ vs H Q E, sp_Asker_view K vs H Q E → vs.length = ["self"].length := by
  rintro _ _ _ _ ⟨_, _, _, _, _, _, rfl, _⟩; rfl
theorem pure_Asker_clock : ∀ vs H Q E, sp_Asker_clock K vs H Q E → t_Asker_clock K E { nx := fun _ H2 => Q .non H2, rt := Q } (L2.start nn_Asker_clock vs) H := by
  rintro vs H Q E ⟨I, M, a, R, rows, s, rfl, w, hQ⟩
  obtain ⟨vs, hx, _⟩ := w.obj
  unfold t_Asker_clock oAsker at *
  simp! [hx, lk_Asker_time]
  exact hQ
theorem pure_Asker_typed : ∀ vs H Q E, sp_Asker_typed K vs H Q E → t_Asker_typed K E { nx := fun _ H2 => Q .non H2, rt := Q } (L2.start nn_Asker_typed vs) H := by
  rintro vs H Q E ⟨I, M, a, R, rows, s, rfl, w, hQ⟩
  obtain ⟨vs, hx, _⟩ := w.obj
  unfold t_Asker_typed oAsker at *
  simp! [hx, lk_Asker_now]
  exact hQ
theorem pure_Asker_is_waiting : ∀ vs H Q E, sp_Asker_is_waiting K vs H Q E → t_Asker_is_waiting K E { nx := fun _ H2 => Q .non H2, rt := Q } (L2.start nn_Asker_is_waiting vs) H := by
  rintro vs H Q E ⟨I, M, a, R, rows, s, rfl, w, hQ⟩
  obtain ⟨L, ⟨u, o, vs, lv, zs, rfl, hd, en, es, so, rl, hs⟩, w, l1, l2⟩ := w
  have hx := w.has.1
  have ha := w.has.2.1
  unfold t_Asker_is_waiting oAsker at *
  simp! [hx, lk_Asker_is_due, lk_Asker_asked]
  cases hd : s.due with
  | true => rw [if_pos rfl]; rw [hd] at hQ; exact hQ
  | false =>
    rw [if_neg (by decide)]
    rw [hd] at hQ
    refine ⟨_, ha, ?_⟩
    have e : decide ((0 : Int) < ((s.asked.map fun p => (p.1, sV p.2)).length : Nat)) = !s.asked.isEmpty := by
      cases s.asked <;> simp
    rw [e]; exact hQ
theorem pure_Asker_log : ∀ vs H Q E, sp_Asker_log K vs H Q E → t_Asker_log K E { nx := fun _ H2 => Q .non H2, rt := Q } (L2.start nn_Asker_log vs) H := by
  rintro vs H Q E ⟨I, M, a, R, rows, s, rfl, w, hQ⟩
  obtain ⟨L, ⟨u, o, vs, lv, zs, rfl, hd, en, es, so, rl, hs⟩, w, l1, l2⟩ := w
  have hx := w.has.1
  have ha := w.has.2.2.2.1
  unfold t_Asker_log oAsker at *
  simp! [hx, lk_Asker_rows, ha]
  intro p hp
  exact hQ _ p lv (AskW.newM ⟨_, ⟨u, o, vs, lv, zs, rfl, hd, en, es, so, rl, hs⟩, w, l1, l2⟩ hp) rl
theorem freshS_some {s : AS} {k : Tx} {rs : List Tx} {old : Bool} (h : s.shown = some (k, rs, old)) : freshS s = (decide (k = foldL s.now) && !old) := by
  unfold freshS; rw [h]
theorem at3_0 {a b c : V} : atI [a, b, c] 0 = some a := atN (i := 0) rfl
theorem at3_1 {a b c : V} : atI [a, b, c] 1 = some b := atN (i := 1) rfl
theorem pure_Asker_is_fresh : ∀ vs H Q E, sp_Asker_is_fresh K vs H Q E → t_Asker_is_fresh K E { nx := fun _ H2 => Q .non H2, rt := Q } (L2.start nn_Asker_is_fresh vs) H := by
  rintro vs H Q E ⟨I, M, a, R, rows, s, rfl, w, ok, hne, hQ⟩
  obtain ⟨vs, hx, hs⟩ := w.obj
  cases hsh : s.shown with
  | none => exact absurd hsh hne
  | some v =>
    obtain ⟨k, rs, old⟩ := v
    rw [hsh] at hs
    obtain ⟨t, l, rfl, h1, h2⟩ := hs
    have h1' := w.sub _ _ h1
    unfold t_Asker_is_fresh oAsker at *
    simp! [hx, lk_Asker_shown, lk_Asker_now, h1', at3_0]
    refine use_fold ok fun H' sm => ?_
    rw [freshS_some hsh] at hQ
    simp! [S_eq, sm _ _ hx, lk_Asker_shown, sm _ _ h1', at3_2]
    by_cases c : k = foldL s.now
    · rw [decide_eq_true c] at hQ
      rw [if_pos (decide_eq_true c)]
      exact hQ H' sm
    · rw [decide_eq_false c] at hQ
      rw [if_neg (by rw [decide_eq_false c]; decide)]
      exact hQ H' sm
end
end TA

set_option linter.all false
set_option maxRecDepth 100000
set_option maxHeartbeats 1000000
/-! Askers: calling off, showing, looking near, asking. -/
namespace TA
open PySem L2 PyProof.Rows
open SX (S S_len S_inj S_cat S_tl)
local macro_rules | `(tactic| simp! [$as,*]) => `(tactic| first | simp only [L2.start, tSeq, tAsg, tOp, fFld, tVar, gIxL, gIxT, tCB, tCons, tNil, gLenL, gLenT, gLenS, rI, rI0, fSet, tIfS, tTest, tB, rNotN, rIsN, rEq, rNe, tC, tDrop, fBM, fBM0, gTy, rAppend, tTup, tLst, tRet, tRetN, tNext, gName, fTup, gCons, gNil, tCall, fCallS, fMeth, tMeth, fMethS, fMake, tMake, fMakeS, tUn, rU, tAnd, tOr, tNot, tAndV, tOrV, tNotV, tIf, tChain, gListL, gListT, tSl, tNoPart, tPart, gSlL, fRaise, gStrI, gCatS, gMin2, gMax2, gIntB, tYes, fLcL, fLcT, fLcS, fLcR1, fForL, fForR1, fForR2, fRev, fGetI, gGetI, gInI, gLenI, fPutI, fNewI,
  List.map_cons, List.map_nil, List.length_cons, List.length_nil, List.replicate, List.cons_append, List.nil_append, List.append_nil, List.getElem?_cons_zero, List.getElem?_cons_succ, List.set_cons_zero, List.set_cons_succ, reduceIte, Bool.not_true, Bool.not_false, Nat.reduceAdd, Nat.reduceSub, Bool.false_eq_true, eq_self,
  Option.some.injEq, V.int.injEq, V.ref.injEq, V.str.injEq, V.bl.injEq, HO.ins.injEq, HO.lst.injEq, HO.tup.injEq, HO.dK.injEq, List.cons.injEq, and_assoc, exists_eq_left', exists_and_left, and_true, true_and, true_or, or_true, false_or, or_false, exists_eq_left, exists_eq_right, exists_eq_right', exists_eq, exists_eq', exists_const, upd_same, sc_ii, sc_ss, sc_bb, sc_in, sc_ni, sc_ns, sc_sn, sc_nn, $as,*] | skip)
section
variable {K : PySem.W.Frag}
structure PDrop (K : PySem.W.Frag) (I : Hp) (a : Ad) (R : Rul) (rows : List Tx) (s : AS) (w : Option Tx) (M : List (Addr × HO)) (i : Nat) (σ : L2.St) (H : Hp) : Prop where
  ex : ∃ (I' : Hp) (v : Option V), σ = [some (.ref a.x), some (wV w), v] ∧ Sub I I' ∧ AskW K I' H a R rows (dropPre s w i) M
theorem wV_ne {k : Tx} {w : Option Tx} : (sV k = wV w) ↔ some k = w := by
  cases w with
  | none => simp [wV]
  | some x => simp [wV, S_eq]
theorem scal_w {k : Tx} {w : Option Tx} : scal (sV k) (wV w) = true := by cases w <;> rfl
theorem keys_asked (l : List (Int × Tx)) : ((l.map fun p => (p.1, sV p.2)).map fun p => ((Sum.inl p.1 : L2.Key), p.2)).map (fun kv => kV kv.1) = (l.map (·.1)).map V.int := by
  simp [kV]
theorem pure_Asker_drop_other : ∀ vs H Q E, sp_Asker_drop_other K vs H Q E → t_Asker_drop_other K E { nx := fun _ H2 => Q .non H2, rt := Q } (L2.start nn_Asker_drop_other vs) H := by
  rintro vs H Q E ⟨I, M, a, R, rows, s, k, wt, rfl, aw, ok, hse, hQ⟩
  have hb := line_big
  obtain ⟨L, ⟨u, o, vs, lv, zs, rfl, hd, en, es, so, rl, hs⟩, w, l1, l2⟩ := id aw
  have hx := w.has.1
  have ha := w.has.2.1
  unfold t_Asker_drop_other
  unfold oAsker at hx
  simp! [hx, lk_Asker_asked, gKeys, gListK]
  refine ⟨.inr ⟨_, ha⟩, _, ha, fun p hp => ⟨a.pa, rfl, _, (w.skip hp).has.2.1, fun p1 hp1 => ?_⟩⟩
  rw [keys_asked]
  obtain ⟨I1, s1, aw1, h1⟩ := (aw.skip (o := KwO a.pa p) hp).mkI hp1 (.lst ((s.asked.map (·.1)).map V.int))
  refine ⟨PDrop K I1 a R rows s wt M, ⟨I1, _, rfl, Sub.refl _, by rw [dropPre_0]; exact aw1⟩, ?_, ?_, ?_⟩
  · rintro i σ H' _ ⟨I', v, rfl, s', aw'⟩
    exact aw'.sub _ _ (s' _ _ h1)
  · rintro i x σ H' hi ⟨I', v, rfl, s', aw'⟩
    rw [List.map_map, List.getElem?_map, Option.map_eq_some_iff] at hi
    obtain ⟨pr, hpr, rfl⟩ := hi
    obtain ⟨e1, e2⟩ := nd_pre (w := wt) ok.na hpr
    have nd2 := pre_nd (w := wt) (i := i) ok.na
    have hlk := lk_asked nd2 e2
    have okp := (ok.qa pr (List.mem_of_getElem? hpr)).1
    obtain ⟨L, ⟨u, o, vs, lv, zs, rfl, hd, en, es, so, rl, hs⟩, w', l1, l2⟩ := id aw'
    have hx' := w'.has.1
    have ha' := w'.has.2.1
    unfold oAsker at hx'
    simp! [Function.comp, hx', lk_Asker_asked]
    refine ⟨_, ha', _, hlk, use_fold okp fun H2 sm => ?_⟩
    have aw2 := aw'.same sm
    have w2 := w'.same sm
    have hx2 := w2.has.1
    have ha2 := w2.has.2.1
    have hl2 := w2.has.2.2.2.1
    unfold oAsker at hx2
    refine ⟨scal_w, ?_⟩
    by_cases c : some (foldL pr.2) = wt
    · rw [if_neg (by rw [decide_eq_true (wV_ne.mpr c)]; decide)]
      exact ⟨I', _, rfl, s', by rw [dropPre_keep hpr (decide_eq_true c)]; exact aw2⟩
    · rw [if_pos (by rw [decide_eq_false (fun h => c (wV_ne.mp h))]; decide)]
      simp! [hx2, lk_Asker_asked, gPop1]
      refine ⟨.inr ⟨_, ha2⟩, _, ha2, _, hlk, ?_⟩
      rw [drop_asked, e1]
      have w3 := w2.put1 (o' := dI (((s.asked.take i).filter (keepA wt) ++ s.asked.drop (i + 1)).map fun p => (p.1, sV p.2)))
      have hx3 := w3.has.1
      have hl3 := w3.has.2.2.2.1
      unfold oAsker at hx3
      simp! [hx3, lk_Asker_rows, hl3]
      refine ⟨two_le, fun p4 hp4 => ?_⟩
      obtain ⟨I4, s4, w4, h4⟩ := w3.mkI hp4 (.tup [.str "off", .int pr.1])
      have hlen : lv.length < sizeLine := by
        have := rl.length
        have := ok.lg
        have : (dropPre s wt i).log.length ≤ s.log.length + s.asked.length := by
          unfold dropPre
          simp only [List.length_append, List.length_map]
          have := List.length_filter_le (fun p => !keepA wt p) (s.asked.take i)
          rw [List.length_take] at this
          omega
        rw [List.length_map] at *
        omega
      refine ⟨_, w4.has.2.2.2.1, hlen, ?_⟩
      refine ⟨I4, _, rfl, s'.trans s4, ?_⟩
      rw [dropPre_off hpr (decide_eq_false c)]
      refine ⟨_, ⟨u, o, vs, lv ++ [.ref p4], zs, rfl, s4 _ _ hd, en.mono s4, es, so.mono s4, ?_, hs.mono s4⟩, w4.put3 (o' := .lst (lv ++ [.ref p4])), l1.mono s4, l2.mono s4⟩
      rw [List.map_append]
      exact (rl.mono s4).snoc (.tup h4 (.cons (.str _) (.cons (.int _) .nil)))
  · rintro σ H' ⟨I', v, rfl, s', aw'⟩
    have e : (List.map V.int (List.map (fun x => x.fst) s.asked)).length = s.asked.length := by simp
    rw [e, dropPre_all] at aw'
    exact hQ I' H' (s1.trans s') aw'
theorem pure_Asker_show : ∀ vs H Q E, sp_Asker_show K vs H Q E → t_Asker_show K E { nx := fun _ H2 => Q .non H2, rt := Q } (L2.start nn_Asker_show vs) H := by
  rintro vs H Q E ⟨I, M, a, R, rows, s, k, l, rs, rfl, aw, ok, hse, hl, ro, hQ⟩
  obtain ⟨L, ⟨u, o, vs, lv, zs, rfl, hd, en, es, so, rl, hs⟩, w, l1, l2⟩ := id aw
  have hx := w.has.1
  unfold t_Asker_show
  unfold oAsker at hx
  simp! [hx, lk_Asker_now]
  refine use_fold ok.now fun H1 sm => ?_
  have w1 := w.same sm
  refine ⟨three_le, fun p hp => ?_⟩
  obtain ⟨I2, s2, w2, h2⟩ := w1.mkI hp (.tup [sV (foldL s.now), .ref l, .bl false])
  refine ⟨_, _, w2.has.1, ln_Asker, ?_⟩
  simp! [pf_Asker_shown, pf_Asker_is_due, ln_Asker, no_Asker_drop_other]
  have w3 := (w2.put (o' := oAsker K a R s (.ref p))).put (o' := oAsker K a R { s with due := false } (.ref p))
  refine ⟨I2, M, a, R, rows, { s with shown := some (foldL s.now, rs, false), due := false }, k, none, rfl, ⟨_, ⟨u, o, .ref p, lv, zs, rfl, s2 _ _ hd, en.mono s2, es, so.mono s2, rl.mono s2, ⟨p, l, rfl, h2, s2 _ _ hl⟩⟩, w3, l1.mono s2, l2.mono s2⟩, { ok with sh := fun _ _ _ e => by cases e; exact ro }, hse, fun I' H' sb aw' => hQ I' H' (s2.trans sb) aw'⟩
theorem sendU_S {R : Rul} {s : AS} : sentUw R.ds s.sent (uwS s.uw) (S s.now) s.time = uwS (sendU R s) := by
  unfold sentUw sendU
  cases nextDelay R.ds s.sent with
  | none => rfl
  | some d => simp [uwS, uw1]
theorem lkI_none {kvs : List (Int × V)} {k : Int} (h : ∀ p ∈ kvs, p.1 ≠ k) : lkI kvs k = none := by
  unfold lkI
  rw [Option.map_eq_none_iff, List.find?_eq_none]
  intro p hp
  simpa using h p hp
theorem lk_new {l : List (Int × Tx)} {n : Nat} (h : ∀ p ∈ l, p.1 ≤ n) : lkI (l.map fun p => (p.1, sV p.2)) ((n + 1 : Nat) : Int) = none := lkI_none fun p hp => by
  obtain ⟨q, hq, rfl⟩ := List.mem_map.mp hp
  have := h q hq
  simp only []; omega
theorem lk_newF {l : List (Int × Int)} {n : Nat} (h : ∀ p ∈ l, p.1 ≤ n) : lkI (l.map fun p => (p.1, V.int p.2)) ((n + 1 : Nat) : Int) = none := lkI_none fun p hp => by
  obtain ⟨q, hq, rfl⟩ := List.mem_map.mp hp
  have := h q hq
  simp only []; omega
theorem pure_Asker_ask_if_due : ∀ vs H Q E, sp_Asker_ask_if_due K vs H Q E → t_Asker_ask_if_due K E { nx := fun _ H2 => Q .non H2, rt := Q } (L2.start nn_Asker_ask_if_due vs) H := by
  rintro vs H Q E ⟨I, M, a, R, rows, s, k, rfl, aw, ok, hse, hQ⟩
  have hb := line_big
  obtain ⟨L, ⟨u, o, vs, lv, zs, rfl, hd, en, es, so, rl, hs⟩, w, l1, l2⟩ := id aw
  have hx := w.has.1
  have hf := w.has.2.2.1
  unfold t_Asker_ask_if_due
  unfold oAsker at hx
  simp! [hx, lk_Asker_time, lk_Asker_typed_at, lk_Asker_pause, lk_Asker_is_due]
  have hno : ¬ (s.due = true ∧ R.pause ≤ s.time - s.at_ ∧ (s.flying.length : Int) < R.asks) → Q .non H := fun h => by
    have := hQ I H (Sub.refl _)
    unfold askS at this
    rw [if_neg h] at this
    exact this aw
  by_cases c1 : s.due = true
  · rw [if_pos c1]
    by_cases c2 : R.pause ≤ s.time - s.at_
    · refine ite_t c2 ?_
      simp! [hx, lk_Asker_flying, lk_Asker_asks_most]
      refine ⟨_, hf, ?_⟩
      rw [List.length_map]
      by_cases c3 : (s.flying.length : Int) < R.asks
      · refine ite_t c3 ?_
        have hQ := fun I' H' sb => hQ I' H' sb
        unfold askS at hQ
        simp only [if_pos (And.intro c1 (And.intro c2 c3))] at hQ
        simp! [pf_Asker_is_due, pf_Asker_tries, ln_Asker, lk_Asker_tries, lk_Asker_road]
        have w2 := (w.put (o' := oAsker K a R { s with due := false } vs)).put (o' := oAsker K a R { s with due := false, tries := s.tries + 1 } vs)
        refine ⟨_, _, w2.has.2.2.2.2.1, no_Road_send, ?_⟩
        simp! [lk_Asker_now, lk_Asker_time]
        have hzl : zs.length = s.uw.length := by
          have := congrArg List.length es
          unfold uwS at this
          rw [List.length_map, List.length_map] at this
          exact this
        have hlg := ok.lg
        refine ⟨I, _, a.rd, a.drd, a.d, u, R.ds, s.sent, zs, S s.now, s.time, rfl, ⟨w2.sel [_, _, _, _, _, _, _] [4, 5, 0, 1, 2, 3, 6], hd, en⟩, ok.ds, by omega, fun I3 H3 zs3 s3 ⟨w3', hd3, en3⟩ es3 => ?_⟩
        have w3 : W I3 H3 ((a.x, oAsker K a R { s with due := false, tries := s.tries + 1 } vs) :: (a.pa, dAsked s) :: (a.pf, dFly s) :: (a.pl, .lst lv) :: (a.rd, oRoad K a.drd a.d ((s.sent + 1 : Nat) : Int) u) :: (u, .lst (zs3.map Prod.fst)) :: (a.sh, o) :: M) := w3'.sel [_, _, _, _, _, _, _] [2, 3, 4, 5, 0, 1, 6]
        rw [es, sendU_S] at es3
        clear w3' w2
        have hx3 := w3.has.1
        have ha3 := w3.has.2.1
        unfold oAsker at hx3
        simp! [hx3, lk_Asker_now, lk_Asker_asked]
        refine ⟨_, ha3, lk_new fun p hp => (ok.qa p hp).2, by rw [List.length_map]; omega, ?_⟩
        have w4 := w3.put1 (o' := dI ((s.asked.map fun p => (p.1, sV p.2)) ++ [(((s.sent + 1 : Nat) : Int), sV s.now)]))
        have hx4 := w4.has.1
        have hf4 := w4.has.2.2.1
        unfold oAsker at hx4
        simp! [hx4, lk_Asker_time, lk_Asker_flying]
        refine ⟨_, hf4, lk_newF fun p hp => ok.fs p hp, by have := ok.fl; rw [List.length_map]; omega, ?_⟩
        have w5 := w4.put2 (o' := dI ((s.flying.map fun p => (p.1, V.int p.2)) ++ [(((s.sent + 1 : Nat) : Int), V.int s.time)]))
        have hx5 := w5.has.1
        have hl5 := w5.has.2.2.2.1
        unfold oAsker at hx5
        simp! [hx5, lk_Asker_rows, hl5, lk_Asker_now]
        refine use_fold ok.now fun H6 sm => ?_
        have w6 := w5.same sm
        refine ⟨three_le, fun p7 hp7 => ?_⟩
        obtain ⟨I7, s7, w7, h7⟩ := w6.mkI hp7 (.tup [.str "asked", .int ((s.sent + 1 : Nat) : Int), sV (foldL s.now)])
        have hlv := rl.length
        rw [List.length_map] at hlv
        refine ⟨_, w7.has.2.2.2.1, by omega, ?_⟩
        have sb := s3.trans s7
        refine hQ I7 _ sb ⟨_, ⟨u, o, vs, lv ++ [.ref p7], zs3, rfl, sb _ _ hd, en3.mono s7, es3, so.mono sb, ?_, hs.mono sb⟩, ?_, l1.mono sb, l2.mono sb⟩
        · rw [List.map_append]
          exact (rl.mono sb).snoc (.tup h7 (.cons (.str _) (.cons (.int _) (.cons (.str _) .nil))))
        · have w8 := w7.put3 (o' := .lst (lv ++ [.ref p7]))
          unfold dAsked dFly
          simp only [List.map_append, List.map_cons, List.map_nil]
          exact w8
      · exact ite_f c3 (hno fun h => c3 h.2.2)
    · refine ite_f c2 (hno fun h => c2 h.2.1)
  · rw [if_neg c1]
    exact hno fun h => c1 h.1
end
end TA

set_option linter.all false
set_option maxRecDepth 100000
set_option maxHeartbeats 1000000
/-! Askers: looking near. -/
namespace TA
open PySem L2 PyProof.Rows
open SX (S S_len S_inj S_cat S_tl)
local macro_rules | `(tactic| simp! [$as,*]) => `(tactic| first | simp only [L2.start, tSeq, tAsg, tOp, fFld, tVar, gIxL, gIxT, tCB, tCons, tNil, gLenL, gLenT, gLenS, rI, rI0, fSet, tIfS, tTest, tB, rNotN, rIsN, rEq, rNe, tC, tDrop, fBM, fBM0, gTy, rAppend, tTup, tLst, tRet, tRetN, tNext, gName, fTup, gCons, gNil, tCall, fCallS, fMeth, tMeth, fMethS, fMake, tMake, fMakeS, tUn, rU, tAnd, tOr, tNot, tAndV, tOrV, tNotV, tIf, tChain, gListL, gListT, tSl, tNoPart, tPart, gSlL, fRaise, gStrI, gCatS, gMin2, gMax2, gIntB, tYes, fLcL, fLcT, fLcS, fLcR1, fForL, fForR1, fForR2, fRev, fGetI, gGetI, gInI, gLenI, fPutI, fNewI,
  List.map_cons, List.map_nil, List.length_cons, List.length_nil, List.replicate, List.cons_append, List.nil_append, List.append_nil, List.getElem?_cons_zero, List.getElem?_cons_succ, List.set_cons_zero, List.set_cons_succ, reduceIte, Bool.not_true, Bool.not_false, Nat.reduceAdd, Nat.reduceSub, Bool.false_eq_true, eq_self,
  Option.some.injEq, V.int.injEq, V.ref.injEq, V.str.injEq, V.bl.injEq, HO.ins.injEq, HO.lst.injEq, HO.tup.injEq, HO.dK.injEq, List.cons.injEq, and_assoc, exists_eq_left', exists_and_left, and_true, true_and, true_or, or_true, false_or, or_false, exists_eq_left, exists_eq_right, exists_eq_right', exists_eq, exists_eq', exists_const, upd_same, sc_ii, sc_ss, sc_bb, sc_in, sc_ni, sc_ns, sc_sn, sc_nn, $as,*] | skip)
section
variable {K : PySem.W.Frag}
theorem pure_Asker_look_near : ∀ vs H Q E, sp_Asker_look_near K vs H Q E → t_Asker_look_near K E { nx := fun _ H2 => Q .non H2, rt := Q } (L2.start nn_Asker_look_near vs) H := by
  rintro vs H Q E ⟨I, M, a, R, rows, s, k, rfl, aw, ok, hse, hQ⟩
  have hb := line_big
  obtain ⟨L, ⟨u, o, vs, lv, zs, rfl, hd, en, es, so, rl, hs⟩, w, l1, l2⟩ := id aw
  have hx := w.has.1
  unfold t_Asker_look_near
  unfold oAsker at hx
  simp! [hx, lk_Asker_now]
  refine use_fold ok.now fun H1 sm => ?_
  have w1 := w.same sm
  have aw1 := aw.same sm
  have hx1 := w1.has.1
  unfold oAsker at hx1
  simp! [lit_e, S_eq]
  by_cases c1 : foldL s.now = []
  · refine ite_t c1 ?_
    have hQ := hQ I
    unfold nearS at hQ
    simp only [if_pos c1] at hQ
    simp! [hx1, pf_Asker_shown, pf_Asker_is_due, ln_Asker]
    refine hQ _ (Sub.refl _) ⟨_, ⟨u, o, .non, lv, zs, rfl, hd, en, es, so, rl, rfl⟩, (w1.put (o' := oAsker K a R { s with due := false } vs)).put, l1, l2⟩
  · refine ite_f c1 ?_
    simp! [hx1, lk_Asker_shelf, lk_Asker_now, lk_Asker_rows_most, lk_Asker_time]
    obtain ⟨su, szs, rfl, sh1, sh2, sh3⟩ := id so
    refine ⟨_, _, w1.has.2.2.2.2.2.2.1, no_Shelf_get, ?_⟩
    refine ⟨I, _, a.sh, a.dsh, R.most, R.term, s.ks, _, s.now, R.many, s.time, rfl, w1.sel [_, _, _, _, _, _, _] [6, 0, 1, 2, 3, 4, 5], so, ok.now, ⟨ok.ks, by have := ok.kl; omega⟩, ok.n0, fun hno H2 w2' => ?_, fun one hone I2 H2 o2 p2 s2 w2' so2 h2 => ?_⟩
    · have w2 : W I H2 ((a.x, oAsker K a R s vs) :: (a.pa, dAsked s) :: (a.pf, dFly s) :: (a.pl, .lst lv) :: (a.rd, oRoad K a.drd a.d s.sent u) :: (u, .lst (zs.map Prod.fst)) :: (a.sh, oShelf K a.dsh R.most R.term su) :: M) := w2'.sel [_, _, _, _, _, _, _] [1, 2, 3, 4, 5, 6, 0]
      clear w2'
      have aw2 : AskW K I H2 a R rows s M := ⟨_, ⟨u, _, vs, lv, zs, rfl, hd, en, es, so, rl, hs⟩, w2, l1, l2⟩
      have hx2 := w2.has.1
      unfold oAsker at hx2
      have hQ := fun I' H' sb => hQ I' H' sb
      unfold nearS at hQ
      simp only [if_neg c1, hno] at hQ
      cases hsh : s.shown with
      | none =>
        rw [hsh] at hs hQ
        have hs : vs = .non := hs
        subst hs
        simp! [decide_true, hx2, lk_Asker_shown]
        exact hQ I H2 (Sub.refl _) aw2
      | some v =>
        obtain ⟨key, rs, old⟩ := v
        have hs0 := hs
        rw [hsh] at hs hQ
        obtain ⟨t, l, rfl, h1, h2⟩ := hs
        simp only [] at hQ
        simp! [decide_true, decide_false, hx2, lk_Asker_shown, reduceCtorEq, no_Asker_is_fresh]
        refine ⟨I, M, a, R, rows, s, rfl, aw2, ok.now, by rw [hsh]; simp, fun H3 sm3 => ?_⟩
        have aw3 := aw2.same sm3
        have w3 := w2.same sm3
        have hx3 := w3.has.1
        unfold oAsker at hx3
        simp! [and_true]
        by_cases c2 : freshS s = true
        · simp only [if_pos c2] at hQ
          rw [c2]
          simp! [and_true]
          exact hQ I H3 (Sub.refl _) aw3
        · simp only [if_neg c2] at hQ
          rw [show freshS s = false by simpa using c2]
          have h1' := w3.sub _ _ h1
          simp! [hx3, lk_Asker_shown, h1', at3_1, lk_Asker_now, lk_Asker_rows_most]
          refine ⟨I, _, l, rs, s.now, R.many, rfl, w3, Ls.i h2, ok.sh _ _ _ hsh, ok.now, ok.n0, fun I4 H4 p s4 w4 h4 => ?_⟩
          have hx4 := w4.has.1
          unfold oAsker at hx4
          have h4' := w4.sub _ _ h4
          simp! [fTru, gTru, h4']
          refine ⟨_, .inl rfl, ?_⟩
          cases hr : ansR rs s.now R.many with
          | nil =>
            rw [hr] at h4 h4'
            simp only [hr, if_pos] at hQ
            rw [List.map_nil, List.isEmpty_nil]
            simp! [hx4, pf_Asker_shown, ln_Asker]
            exact hQ I4 _ s4 ⟨_, ⟨u, _, .non, lv, zs, rfl, s4 _ _ hd, en.mono s4, es, so.mono s4, rl.mono s4, rfl⟩, w4.put, l1.mono s4, l2.mono s4⟩
          | cons r0 rs0 =>
            rw [hr] at h4 h4'
            simp only [hr, reduceCtorEq, if_neg, not_false_eq_true] at hQ
            rw [List.map_cons, List.isEmpty_cons]
            have h1'' := w4.sub _ _ (s4 _ _ h1)
            simp! [hx4, lk_Asker_shown, h1'', at3_0]
            refine ⟨three_le, fun p5 hp5 => ?_⟩
            obtain ⟨I5, s5, w5, h5⟩ := w4.mkI hp5 (.tup [sV key, .ref p, .bl true])
            have sb := s4.trans s5
            refine ⟨_, _, w5.has.1, ln_Asker, ?_⟩
            rw [pf_Asker_shown]
            exact hQ I5 _ sb ⟨_, ⟨u, _, .ref p5, lv, zs, rfl, sb _ _ hd, en.mono sb, es, so.mono sb, rl.mono sb, ⟨p5, p, rfl, h5, s5 _ _ h4⟩⟩, w5.put, l1.mono sb, l2.mono sb⟩
    · have w2 : W I2 H2 ((a.x, oAsker K a R s vs) :: (a.pa, dAsked s) :: (a.pf, dFly s) :: (a.pl, .lst lv) :: (a.rd, oRoad K a.drd a.d s.sent u) :: (u, .lst (zs.map Prod.fst)) :: (a.sh, o2) :: M) := w2'.sel [_, _, _, _, _, _, _] [1, 2, 3, 4, 5, 6, 0]
      clear w2'
      have aw2 : AskW K I2 H2 a R rows { s with ks := useK s.ks one } M := ⟨_, ⟨u, _, vs, lv, zs, rfl, s2 _ _ hd, en.mono s2, es, so2, rl.mono s2, hs.mono s2⟩, w2, l1.mono s2, l2.mono s2⟩
      have hx2 := w2.has.1
      unfold oAsker at hx2
      have hQ := fun I' H' sb => hQ I' H' sb
      unfold nearS at hQ
      simp only [if_neg c1, hone] at hQ
      simp! [decide_false, reduceCtorEq, hx2, no_Asker_show]
      have hm := src_mem hone
      exact ⟨I2, M, a, R, rows, _, k, p2, ansR one.2.1 s.now R.many, rfl, aw2, ok.use hm, hse, h2, ansR_ok (ok.ks one hm).1, fun I' H' sb aw' => hQ I' H' (s2.trans sb) aw'⟩
end
end TA

set_option linter.all false
set_option maxRecDepth 100000
set_option maxHeartbeats 1000000
/-! Askers: asks that took too long; ticks. -/
namespace TA
open PySem L2 PyProof.Rows
open SX (S S_len S_inj S_cat S_tl)
local macro_rules | `(tactic| simp! [$as,*]) => `(tactic| first | simp only [L2.start, tSeq, tAsg, tOp, fFld, tVar, gIxL, gIxT, tCB, tCons, tNil, gLenL, gLenT, gLenS, rI, rI0, fSet, tIfS, tTest, tB, rNotN, rIsN, rEq, rNe, tC, tDrop, fBM, fBM0, gTy, rAppend, tTup, tLst, tRet, tRetN, tNext, gName, fTup, gCons, gNil, tCall, fCallS, fMeth, tMeth, fMethS, fMake, tMake, fMakeS, tUn, rU, tAnd, tOr, tNot, tAndV, tOrV, tNotV, tIf, tChain, gListL, gListT, tSl, tNoPart, tPart, gSlL, fRaise, gStrI, gCatS, gMin2, gMax2, gIntB, tYes, fLcL, fLcT, fLcS, fLcR1, fForL, fForR1, fForR2, fRev, fGetI, gGetI, gInI, gLenI, fPutI, fNewI,
  List.map_cons, List.map_nil, List.length_cons, List.length_nil, List.replicate, List.cons_append, List.nil_append, List.append_nil, List.getElem?_cons_zero, List.getElem?_cons_succ, List.set_cons_zero, List.set_cons_succ, reduceIte, Bool.not_true, Bool.not_false, Nat.reduceAdd, Nat.reduceSub, Bool.false_eq_true, eq_self,
  Option.some.injEq, V.int.injEq, V.ref.injEq, V.str.injEq, V.bl.injEq, HO.ins.injEq, HO.lst.injEq, HO.tup.injEq, HO.dK.injEq, List.cons.injEq, and_assoc, exists_eq_left', exists_and_left, and_true, true_and, true_or, or_true, false_or, or_false, exists_eq_left, exists_eq_right, exists_eq_right', exists_eq, exists_eq', exists_const, upd_same, sc_ii, sc_ss, sc_bb, sc_in, sc_ni, sc_ns, sc_sn, sc_nn, $as,*] | skip)
section
variable {K : PySem.W.Frag}
theorem lk_gen {α : Type} (f : α → V) : ∀ {l : List (Int × α)} {p : Int × α}, (l.map (·.1)).Nodup → p ∈ l → lkI (l.map fun p => (p.1, f p.2)) p.1 = some (f p.2)
  | [], _, _, h => by cases h
  | q :: l, p, nd, h => by
    rw [List.map_cons, List.nodup_cons] at nd
    unfold lkI
    rw [List.map_cons]
    by_cases e : q.1 = p.1
    · rw [List.find?_cons_of_pos (by simpa using e)]
      rcases List.mem_cons.mp h with c | c
      · rw [c]; rfl
      · exact absurd (List.mem_map.mpr ⟨p, c, e.symm⟩) nd.1
    · rw [List.find?_cons_of_neg (by simpa using e)]
      rcases List.mem_cons.mp h with c | c
      · exact absurd (by rw [c]) e
      · exact lk_gen f nd.2 c
theorem drop_gen {α : Type} (f : α → V) (l : List (Int × α)) (n : Int) : dropI (l.map fun p => (p.1, f p.2)) n = (l.filter fun p => !decide (p.1 = n)).map fun p => (p.1, f p.2) := by
  unfold dropI; rw [List.filter_map]; rfl
theorem lk_any {α : Type} (f : α → V) (l : List (Int × α)) (n : Int) : (lkI (l.map fun p => (p.1, f p.2)) n).isSome = l.any fun p => decide (p.1 = n) := by
  induction l with
  | nil => rfl
  | cons q l ih =>
    unfold lkI at *
    rw [List.map_cons, List.any_cons]
    by_cases e : q.1 = n
    · rw [List.find?_cons_of_pos (by simpa using e)]; simp [e]
    · rw [List.find?_cons_of_neg (by simpa using e), ih]; simp [e]
theorem keys_fly (l : List (Int × Int)) : ((l.map fun p => (p.1, V.int p.2)).map fun p => ((Sum.inl p.1 : L2.Key), p.2)).map (fun kv => kV kv.1) = (l.map (·.1)).map V.int := by
  simp [kV]
def flyK (s : AS) : List Int := (s.flying.map (·.1)).mergeSort fun a b => decide (a ≤ b)
theorem againT_eq (R : Rul) (s : AS) : againT R s = (flyK s).foldl (lostS R) s := rfl
theorem lost_fly {R : Rul} {s : AS} {n : Int} {p : Int × Int} (h : p ∈ s.flying) (hn : p.1 ≠ n) : p ∈ (lostS R s n).flying := by
  have : p ∈ s.flying.filter fun p => !decide (p.1 = n) := List.mem_filter.mpr ⟨h, by simpa using hn⟩
  unfold lostS
  split
  · simp only []; split <;> exact this
  · exact h
theorem losts_fly {R : Rul} : ∀ {l : List Int} {s : AS} {p : Int × Int}, p ∈ s.flying → p.1 ∉ l → p ∈ (l.foldl (lostS R) s).flying
  | [], _, _, h, _ => h
  | n :: l, s, p, h, hn => losts_fly (l := l) (lost_fly h fun e => hn (e ▸ List.mem_cons_self)) fun h => hn (List.mem_cons_of_mem _ h)
theorem lost_time {R : Rul} {s : AS} {n : Int} : (lostS R s n).time = s.time ∧ (lostS R s n).tries = s.tries := by
  unfold lostS; split
  · simp only []; split <;> exact ⟨rfl, rfl⟩
  · exact ⟨rfl, rfl⟩
theorem lost_if {R : Rul} {s : AS} {p : Int × Int} (nd : (s.flying.map (·.1)).Nodup) (h : p ∈ s.flying) : (s.flying.any fun q => decide (q.1 = p.1 ∧ R.pat ≤ s.time - q.2)) = decide (R.pat ≤ s.time - p.2) := by
  rw [Bool.eq_iff_iff, List.any_eq_true]
  constructor
  · rintro ⟨q, hq, e⟩
    have e := of_decide_eq_true e
    have := lk_gen V.int nd hq
    rw [e.1, lk_gen V.int nd h] at this
    have : p.2 = q.2 := by simpa using this
    rw [this]; exact decide_eq_true e.2
  · intro e
    exact ⟨p, h, by rw [decide_eq_true ⟨rfl, of_decide_eq_true e⟩]⟩
structure PTry (K : PySem.W.Frag) (I : Hp) (a : Ad) (R : Rul) (rows : List Tx) (s : AS) (M : List (Addr × HO)) (i : Nat) (σ : L2.St) (H : Hp) : Prop where
  ex : ∃ (I' : Hp) (v : Option V), σ = [some (.ref a.x), v] ∧ Sub I I' ∧ AskW K I' H a R rows (((flyK s).take i).foldl (lostS R) s) M
theorem pure_Asker_try_again : ∀ vs H Q E, sp_Asker_try_again K vs H Q E → t_Asker_try_again K E { nx := fun _ H2 => Q .non H2, rt := Q } (L2.start nn_Asker_try_again vs) H := by
  rintro vs H Q E ⟨I, M, a, R, rows, s, k, rfl, aw, ok, hse, hQ⟩
  have hb := line_big
  obtain ⟨L, ⟨u, o, vs, lv, zs, rfl, hd, en, es, so, rl, hs⟩, w, l1, l2⟩ := id aw
  have hx := w.has.1
  have ha := w.has.2.2.1
  unfold t_Asker_try_again
  unfold oAsker at hx
  simp! [hx, lk_Asker_flying, gKeys, gSortK]
  refine ⟨.inr ⟨_, ha⟩, _, ha, fun p hp => ⟨a.pf, rfl, _, (w.skip hp).has.2.2.1, s.flying.map (·.1), keys_fly _, fun p1 hp1 => ?_⟩⟩
  obtain ⟨I1, s1, aw1, h1⟩ := (aw.skip (o := KwO a.pf p) hp).mkI hp1 (.lst ((flyK s).map V.int))
  refine ⟨PTry K I1 a R rows s M, ⟨I1, _, rfl, Sub.refl _, aw1⟩, ?_, ?_, ?_⟩
  · rintro i σ H' _ ⟨I', v, rfl, s', aw'⟩
    exact aw'.sub _ _ (s' _ _ h1)
  · rintro i x σ H' hi ⟨I', v, rfl, s', aw'⟩
    have hi : ((flyK s).map V.int)[i]? = some x := hi
    rw [List.getElem?_map, Option.map_eq_some_iff] at hi
    obtain ⟨n, hn, rfl⟩ := hi
    have hke : ((flyK s).take (i + 1)).foldl (lostS R) s = lostS R (((flyK s).take i).foldl (lostS R) s) n := by
      rw [take_succ_get hn, List.foldl_append]; rfl
    have hnd : (flyK s).Nodup := (List.mergeSort_perm _ _).nodup_iff.mpr ok.nf
    have hin : n ∈ s.flying.map (·.1) := (List.mergeSort_perm _ _).mem_iff.mp (List.mem_of_getElem? hn)
    obtain ⟨pr, hpr, rfl⟩ := List.mem_map.mp hin
    have hpr2 : pr ∈ (((flyK s).take i).foldl (lostS R) s).flying := losts_fly hpr fun hm => by
      obtain ⟨j, hj, e⟩ := List.getElem_of_mem hm
      rw [List.length_take] at hj
      rw [List.getElem_take] at e
      have := nodup_ix_any hnd (List.getElem?_eq_some_iff.mpr ⟨by omega, e⟩) hn
      omega
    have ok2 : OkS R k (((flyK s).take i).foldl (lostS R) s) := OkS.losts ok
    have hse2 : (((flyK s).take i).foldl (lostS R) s).sent ≤ 300001 := by rw [losts_sent]; exact hse
    have hgo : ∀ I2 H2 v, Sub I1 I2 → AskW K I2 H2 a R rows (lostS R (((flyK s).take i).foldl (lostS R) s) pr.1) M → PTry K I1 a R rows s M (i + 1) [some (.ref a.x), v] H2 := fun I2 H2 v sb aw2 => ⟨I2, v, rfl, sb, by rw [hke]; exact aw2⟩
    clear hke
    generalize ((flyK s).take i).foldl (lostS R) s = s2 at *
    obtain ⟨L, ⟨u, o, vs, lv, zs, rfl, hd, en, es, so, rl, hs⟩, w', l1, l2⟩ := id aw'
    have hx' := w'.has.1
    have ha' := w'.has.2.2.1
    unfold oAsker at hx'
    simp! [hx', lk_Asker_flying, lk_Asker_time, lk_Asker_patience]
    refine ⟨_, ha', _, lk_gen V.int ok2.nf hpr2, ?_⟩
    unfold lostS at hgo
    rw [lost_if ok2.nf hpr2] at hgo
    simp! [and_true]
    by_cases c1 : R.pat ≤ s2.time - pr.2
    · refine ite_t c1 ?_
      simp only [decide_eq_true c1, if_pos] at hgo
      simp! [hx', lk_Asker_flying, gPop1]
      refine ⟨.inr ⟨_, ha'⟩, _, ha', _, lk_gen V.int ok2.nf hpr2, ?_⟩
      rw [drop_gen V.int]
      have w2 := w'.put2 (o' := dI ((s2.flying.filter fun p => !decide (p.1 = pr.1)).map fun p => (p.1, V.int p.2)))
      have hx2 := w2.has.1
      have ha2 := w2.has.2.1
      unfold oAsker at hx2
      simp! [hx2, lk_Asker_asked]
      refine ⟨_, ha2, ?_⟩
      rw [lk_any sV]
      cases c2 : s2.asked.any fun p => decide (p.1 = pr.1) with
      | false =>
        simp only [c2, Bool.false_eq_true, if_false] at hgo
        simp! [and_true]
        exact hgo I' _ _ s' ⟨_, ⟨u, o, vs, lv, zs, rfl, hd, en, es, so, rl, hs⟩, w2, l1, l2⟩
      | true =>
        simp only [c2, if_true] at hgo
        obtain ⟨qr, hqr, e⟩ := List.any_eq_true.mp c2
        have e := of_decide_eq_true e
        have hlk := lk_gen sV ok2.na hqr
        rw [e] at hlk
        simp! [hx2, lk_Asker_asked]
        refine ⟨.inr ⟨_, ha2⟩, _, ha2, _, hlk, ?_⟩
        rw [drop_gen sV]
        have w3 := w2.put1 (o' := dI ((s2.asked.filter fun p => !decide (p.1 = pr.1)).map fun p => (p.1, sV p.2)))
        have hx3 := w3.has.1
        have hl3 := w3.has.2.2.2.1
        unfold oAsker at hx3
        simp! [hx3, lk_Asker_rows, hl3]
        refine ⟨two_le, fun p4 hp4 => ?_⟩
        obtain ⟨I4, s4, w4, h4⟩ := w3.mkI hp4 (.tup [.str "lost", .int pr.1])
        have hlv := rl.length
        have hlg := ok2.lg
        rw [List.length_map] at hlv
        refine ⟨_, w4.has.2.2.2.1, by omega, ?_⟩
        have w5 := w4.put3 (o' := .lst (lv ++ [.ref p4]))
        have hx5 := w5.has.1
        unfold oAsker at hx5
        simp! [hx5, lk_Asker_tries, pf_Asker_is_due, ln_Asker]
        refine hgo I4 _ _ (s'.trans s4) ⟨_, ⟨u, o, vs, lv ++ [.ref p4], zs, rfl, s4 _ _ hd, en.mono s4, es, so.mono s4, ?_, hs.mono s4⟩, w5.put, l1.mono s4, l2.mono s4⟩
        rw [List.map_append]
        exact (rl.mono s4).snoc (.tup h4 (.cons (.str _) (.cons (.int _) .nil)))
    · refine ite_f c1 ?_
      simp only [decide_eq_false c1, Bool.false_eq_true, if_false] at hgo
      exact hgo I' _ _ s' aw'
  · rintro σ H' ⟨I', v, rfl, s', aw'⟩
    have e : ((flyK s).map V.int).length = (flyK s).length := by simp
    have e2 : (flyK s).take (((flyK s).map V.int).length) = flyK s := by rw [e, List.take_length]
    refine hQ I' H' (s1.trans s') ?_
    rw [againT_eq]
    have aw' : AskW K I' H' a R rows (((flyK s).take (((flyK s).map V.int).length)).foldl (lostS R) s) M := aw'
    rw [e2] at aw'
    exact aw'
end
end TA

set_option linter.all false
set_option maxRecDepth 100000
set_option maxHeartbeats 1000000
/-! Askers: ticks. -/
namespace TA
open PySem L2 PyProof.Rows
open SX (S S_len S_inj S_cat S_tl)
local macro_rules | `(tactic| simp! [$as,*]) => `(tactic| first | simp only [L2.start, tSeq, tAsg, tOp, fFld, tVar, gIxL, gIxT, tCB, tCons, tNil, gLenL, gLenT, gLenS, rI, rI0, fSet, tIfS, tTest, tB, rNotN, rIsN, rEq, rNe, tC, tDrop, fBM, fBM0, gTy, rAppend, tTup, tLst, tRet, tRetN, tNext, gName, fTup, gCons, gNil, tCall, fCallS, fMeth, tMeth, fMethS, fMake, tMake, fMakeS, tUn, rU, tAnd, tOr, tNot, tAndV, tOrV, tNotV, tIf, tChain, gListL, gListT, tSl, tNoPart, tPart, gSlL, fRaise, gStrI, gCatS, gMin2, gMax2, gIntB, tYes, fLcL, fLcT, fLcS, fLcR1, fForL, fForR1, fForR2, fRev, fGetI, gGetI, gInI, gLenI, fPutI, fNewI,
  List.map_cons, List.map_nil, List.length_cons, List.length_nil, List.replicate, List.cons_append, List.nil_append, List.append_nil, List.getElem?_cons_zero, List.getElem?_cons_succ, List.set_cons_zero, List.set_cons_succ, reduceIte, Bool.not_true, Bool.not_false, Nat.reduceAdd, Nat.reduceSub, Bool.false_eq_true, eq_self,
  Option.some.injEq, V.int.injEq, V.ref.injEq, V.str.injEq, V.bl.injEq, HO.ins.injEq, HO.lst.injEq, HO.tup.injEq, HO.dK.injEq, List.cons.injEq, and_assoc, exists_eq_left', exists_and_left, and_true, true_and, true_or, or_true, false_or, or_false, exists_eq_left, exists_eq_right, exists_eq_right', exists_eq, exists_eq', exists_const, upd_same, sc_ii, sc_ss, sc_bb, sc_in, sc_ni, sc_ns, sc_sn, sc_nn, $as,*] | skip)
section
variable {K : PySem.W.Frag}
theorem rp_answ {I : Hp} {v : V} {rows : List Tx} {q : Tx} {n : Int} (h : Rp I v (ansD rows q n)) : ∃ t l, v = .ref t ∧ I t = some (.tup [.ref l, .bl (ansA rows q n)]) ∧ I l = some (.lst ((ansR rows q n).map sV)) := by
  cases h with
  | tup h1 h2 =>
    cases h2 with
    | cons x1 h2 =>
      cases h2 with
      | cons x2 h2 =>
        cases h2; cases x2
        cases x1 with
        | lst y1 y2 =>
          obtain ⟨zs, rfl, e, en⟩ := enc_of (e := sD) y2
          rw [enc_strs en, ← e] at y1
          exact ⟨_, _, rfl, h1, y1⟩
theorem rl_snoc {I : Hp} {lv : List V} {lg : List Lg} {v : V} {x : Lg} (h : RpAll I lv (lg.map lgD)) (r : Rp I v (lgD x)) : RpAll I (lv ++ [v]) ((lg ++ [x]).map lgD) := by
  rw [List.map_append]; exact h.snoc r
theorem rp_due {I : Hp} {v : V} {y : Int × Int × Tx} (h : Rp I v (dueD (uw1 y))) : ∃ t, v = .ref t ∧ I t = some (.tup [.int y.2.1, sV y.2.2]) := by
  cases h with
  | tup h1 h2 =>
    cases h2 with
    | cons x1 h2 =>
      cases h2 with
      | cons x2 h2 =>
        cases h2; cases x2; cases x1
        exact ⟨_, rfl, h1⟩
structure PStep (K : PySem.W.Frag) (I : Hp) (a : Ad) (R : Rul) (rows : List Tx) (s : AS) (l : List (Int × Int × Tx)) (M : List (Addr × HO)) (i : Nat) (σ : L2.St) (H : Hp) : Prop where
  ex : ∃ (I' : Hp) (rest : List (Option V)), σ = some (.ref a.x) :: rest ∧ rest.length = 4 ∧ Sub I I' ∧ AskW K I' H a R rows (comeAll R rows s (l.take i)) M
theorem many_ok {R : Rul} {k : Nat} {s : AS} (ok : OkS R k s) {q : Tx} (hq : okL 12 q = true) : ansE q R.many = none := by
  unfold ansE
  rw [if_neg (by rw [ok.many]; decide), if_neg (by rw [hq]; decide)]
theorem pure_Asker_step : ∀ vs H Q E, sp_Asker_step K vs H Q E → t_Asker_step K E { nx := fun _ H2 => Q .non H2, rt := Q } (L2.start nn_Asker_step vs) H := by
  rintro vs H Q E ⟨I, M, a, R, rows, s, rfl, aw, ok, ro, hse, hQ⟩
  have hb := line_big
  obtain ⟨L, ⟨u, o, vs, lv, zs, rfl, hd, en, es, so, rl, hs⟩, w, l1, l2⟩ := id aw
  have hx := w.has.1
  unfold t_Asker_step
  unfold oAsker at hx
  simp! [hx, lk_Asker_time, pf_Asker_time, ln_Asker, lk_Asker_road]
  have w1 := w.put (o' := oAsker K a R { s with time := s.time + 1 } vs)
  refine ⟨_, _, w1.has.2.2.2.2.1, no_Road_due, ?_⟩
  simp! [lk_Asker_time]
  have hzl : zs.length = s.uw.length := by
    have := congrArg List.length es
    unfold uwS at this
    rw [List.length_map, List.length_map] at this
    exact this
  have hlg := ok.lg
  refine ⟨I, _, a.rd, a.drd, a.d, u, R.ds, s.sent, zs, s.time + 1, rfl, ⟨w1.sel [_, _, _, _, _, _, _] [4, 5, 0, 1, 2, 3, 6], hd, en⟩, by omega, fun I3 H3 u3 zs3 v s3 rw3 es30 rv => ?_⟩
  obtain ⟨w3', hd3, en3⟩ := rw3
  have w3 : W I3 H3 ((a.x, oAsker K a R { s with time := s.time + 1 } vs) :: (a.pa, dAsked s) :: (a.pf, dFly s) :: (a.pl, .lst lv) :: (a.rd, oRoad K a.drd a.d s.sent u3) :: (u3, .lst (zs3.map Prod.fst)) :: (a.sh, o) :: M) := w3'.sel [_, _, _, _, _, _, _] [2, 3, 4, 5, 0, 1, 6]
  clear w3' w1
  have es3 : zs3.map Prod.snd = uwS (restU (s.time + 1) s.uw) := by
    rw [es30, es]; unfold uwS restU; rw [List.filter_map]; rfl
  have ev : sortE askD ((zs.map Prod.snd).filter fun x => decide (x.1 ≤ s.time + 1)) = uwS (dueU (s.time + 1) s.uw) := by
    unfold dueU; rw [← sortU_S, es]; unfold uwS; rw [List.filter_map]; rfl
  rw [ev] at rv
  have aw3 : AskW K I3 H3 a R rows (tick0 s) M := ⟨_, ⟨u3, o, vs, lv, zs3, rfl, hd3, en3, es3, so.mono s3, rl.mono s3, hs.mono s3⟩, w3, l1.mono s3, l2.mono s3⟩
  have ok3 := ok.tick0
  have hq3 : ∀ x ∈ dueU (s.time + 1) s.uw, okL 12 x.2.2 = true := fun x hx => ok.qu x (mem_due.mp hx).1
  have hse3 : (tick0 s).sent ≤ 30000 := hse
  unfold stepS at hQ
  generalize dueU (s.time + 1) s.uw = due at *
  generalize tick0 s = s1 at *
  clear es3 es30 ev en3 es en w3 w hx so rl hs hd3 hd l1 l2 hzl hlg ok aw
  cases rv with
  | lst h4 r4 =>
  rename_i dl xs
  have h4' := aw3.sub _ _ h4
  have hxl : xs.length = due.length := by have := r4.length; simpa [uwS] using this
  simp! [h4']
  refine ⟨PStep K I3 a R rows s1 due M, ⟨I3, _, rfl, rfl, Sub.refl _, aw3⟩, ?_, ?_, ?_⟩
  · rintro i σ H' _ ⟨I', rest, rfl, hr, s', aw'⟩
    exact aw'.sub _ _ (s' _ _ h4)
  · rintro i x σ H' hi ⟨I', rest, rfl, hr, s', aw'⟩
    match rest, hr with
    | [r1, r2, r3, r5], _ =>
    obtain ⟨d, hd, rd⟩ := r4.get hi
    unfold uwS at hd
    rw [List.map_map, List.getElem?_map, Option.map_eq_some_iff] at hd
    obtain ⟨y, hy, rfl⟩ := hd
    obtain ⟨t, rfl, ht⟩ := rp_due rd
    have hil : i < due.length := (List.getElem?_eq_some_iff.mp hy).1
    have okq := hq3 y (List.mem_of_getElem? hy)
    have hke : comeAll R rows s1 (due.take (i + 1)) = comeS R rows (comeAll R rows s1 (due.take i)) y.2.1 y.2.2 := by
      unfold comeAll; rw [take_succ_get hy, List.foldl_append]; rfl
    have ok2 : OkS R (due.length - i) (comeAll R rows s1 (due.take i)) := OkS.comes ro (by rw [List.length_take]; rw [show due.length - i + min i due.length = 0 + due.length by omega]; exact ok3) fun x hx => hq3 x (List.mem_of_mem_take hx)
    have hse2 : (comeAll R rows s1 (due.take i)).sent ≤ 30000 := by rw [comes_sent]; exact hse3
    have hgo : ∀ I2 H2 rest, rest.length = 4 → Sub I3 I2 → AskW K I2 H2 a R rows (comeS R rows (comeAll R rows s1 (due.take i)) y.2.1 y.2.2) M → PStep K I3 a R rows s1 due M (i + 1) (some (.ref a.x) :: rest) H2 := fun I2 H2 rest hr sb aw2 => ⟨I2, rest, rfl, hr, sb, by rw [hke]; exact aw2⟩
    clear hke
    generalize comeAll R rows s1 (due.take i) = s2 at *
    obtain ⟨j, hj⟩ : ∃ j, due.length - i = j + 1 := ⟨due.length - i - 1, by omega⟩
    rw [hj] at ok2
    have ht' := aw'.sub _ _ (s' _ _ ht)
    obtain ⟨L, ⟨u, o, vs, lv, zs, rfl, hd, en, es, so, rl, hs⟩, w', l1, l2⟩ := id aw'
    have hx' := w'.has.1
    unfold oAsker at hx'
    simp! [ht', hx', lk_Asker_store]
    refine ⟨_, _, (l1.cons.cons.cons.cons.cons.cons.cons).at w', no_Store_answer, ?_⟩
    simp! [lk_Asker_rows_most]
    refine ⟨I', _, a.st, a.dst, a.r, rows, y.2.2, R.many, rfl, w', l1.cons.cons.cons.cons.cons.cons.cons, l2.cons.cons.cons.cons.cons.cons.cons, ro, by have := okL_len okq; omega, fun _ I5 H5 v5 s5 w5 rv5 => ?_, fun e he => by rw [many_ok ok2 okq] at he; cases he⟩
    obtain ⟨tt, l, rfl, e1, e2⟩ := rp_answ rv5
    have e1' := w5.sub _ _ e1
    have hx5 := w5.has.1
    have hf5 := w5.has.2.2.1
    unfold oAsker at hx5
    simp! [e1', hx5, lk_Asker_flying, gPop2]
    refine ⟨.inr ⟨_, hf5⟩, _, hf5, ?_⟩
    rw [drop_gen V.int]
    have w6 := w5.put2 (o' := dI ((s2.flying.filter fun p => !decide (p.1 = y.2.1)).map fun p => (p.1, V.int p.2)))
    have hx6 := w6.has.1
    unfold oAsker at hx6
    simp! [hx6, lk_Asker_shelf, lk_Asker_time]
    obtain ⟨su, szs, rfl, sh1, sh2, sh3⟩ := id so
    refine ⟨_, _, w6.has.2.2.2.2.2.2.1, no_Shelf_put, ?_⟩
    have arl := ansR_ok (q := y.2.2) (n := R.many) ro
    refine ⟨I5, _, a.sh, a.dsh, R.most, R.term, s2.ks, _, y.2.2, l, ansR rows y.2.2 R.many, ansA rows y.2.2 R.many, s2.time, rfl, w6.sel [_, _, _, _, _, _, _] [6, 0, 1, 2, 3, 4, 5], so.mono s5, Ls.i e2, okL_le okq (by decide), ⟨ok2.ks, by have := ok2.kl; omega⟩, arl.2, fun I7 H7 o7 s7 w7' so7 => ?_⟩
    have w7 : W I7 H7 ((a.x, oAsker K a R s2 vs) :: (a.pa, dAsked s2) :: (a.pf, dI ((s2.flying.filter fun p => !decide (p.1 = y.2.1)).map fun p => (p.1, V.int p.2))) :: (a.pl, .lst lv) :: (a.rd, oRoad K a.drd a.d s2.sent u) :: (u, .lst (zs.map Prod.fst)) :: (a.sh, o7) :: M) := w7'.sel [_, _, _, _, _, _, _] [1, 2, 3, 4, 5, 6, 0]
    clear w7'
    have hx7 := w7.has.1
    have ha7 := w7.has.2.1
    have hl7 := w7.has.2.2.2.1
    unfold oAsker at hx7
    have sb := s5.trans s7
    have hlv := rl.length
    have hlg := ok2.lg
    rw [List.length_map] at hlv
    simp! [hx7, lk_Asker_asked]
    refine ⟨_, ha7, ?_⟩
    rw [lk_any sV]
    simp only [comeS_eq] at hgo
    cases c2 : s2.asked.any fun p => decide (p.1 = y.2.1) with
    | true =>
      simp only [c2, if_true] at hgo
      obtain ⟨qr, hqr, e⟩ := List.any_eq_true.mp c2
      have e := of_decide_eq_true e
      have hlk := lk_gen sV ok2.na hqr
      rw [e] at hlk
      simp! [hx7, lk_Asker_asked, gPop1]
      refine ⟨.inr ⟨_, ha7⟩, _, ha7, _, hlk, ?_⟩
      rw [drop_gen sV]
      have w8 := w7.put1 (o' := dI ((s2.asked.filter fun p => !decide (p.1 = y.2.1)).map fun p => (p.1, sV p.2)))
      have hx8 := w8.has.1
      have hl8 := w8.has.2.2.2.1
      unfold oAsker at hx8
      simp! [hx8, lk_Asker_rows, hl8]
      refine ⟨two_le, fun p9 hp9 => ?_⟩
      obtain ⟨I9, s9, w9, h9⟩ := w8.mkI hp9 (.tup [.str "came", .int y.2.1])
      refine ⟨_, w9.has.2.2.2.1, by omega, ?_⟩
      have w10 := w9.put3 (o' := .lst (lv ++ [.ref p9]))
      have hx10 := w10.has.1
      unfold oAsker at hx10
      have sc := sb.trans s9
      simp! [hx10, no_Asker_show]
      refine ⟨I9, M, a, R, rows, came0 R rows s2 y.2.1 y.2.2, j, l, ansR rows y.2.2 R.many, rfl, ?_, ok2.came ro okq c2, by simp only [came0]; omega, s9 _ _ (s7 _ _ e2), arl, fun I' H' sb' aw' => hgo I' H' _ rfl (s'.trans (sc.trans sb')) aw'⟩
      · show AskW K I9 _ a R rows _ M
        refine ⟨_, ⟨u, o7, vs, lv ++ [V.ref p9], zs, rfl, sc _ _ hd, en.mono sc, es, so7.mono s9, ?_, hs.mono sc⟩, w10, l1.mono sc, l2.mono sc⟩
        exact rl_snoc (rl.mono sc) (.tup h9 (.cons (.str _) (.cons (.int _) .nil)))
    | false =>
      simp only [c2, Bool.false_eq_true, if_false] at hgo
      simp! [hx7, lk_Asker_rows, hl7]
      refine ⟨two_le, fun p9 hp9 => ?_⟩
      obtain ⟨I9, s9, w9, h9⟩ := w7.mkI hp9 (.tup [.str "late", .int y.2.1])
      refine ⟨_, w9.has.2.2.2.1, by omega, ?_⟩
      have w10 := w9.put3 (o' := .lst (lv ++ [.ref p9]))
      have hx10 := w10.has.1
      unfold oAsker at hx10
      have sc := sb.trans s9
      simp! [hx10, no_Asker_look_near]
      refine ⟨I9, M, a, R, rows, late0 R rows s2 y.2.1 y.2.2, j, rfl, ?_, ok2.late ro okq, by simp only [late0]; omega, fun I' H' sb' aw' => hgo I' H' _ rfl (s'.trans (sc.trans sb')) aw'⟩
      · show AskW K I9 _ a R rows _ M
        refine ⟨_, ⟨u, o7, vs, lv ++ [V.ref p9], zs, rfl, sc _ _ hd, en.mono sc, es, so7.mono s9, ?_, hs.mono sc⟩, w10, l1.mono sc, l2.mono sc⟩
        exact rl_snoc (rl.mono sc) (.tup h9 (.cons (.str _) (.cons (.int _) .nil)))
  · rintro σ H' ⟨I', rest, rfl, hr, s', aw'⟩
    match rest, hr with
    | [r1, r2, r3, r5], _ =>
    rw [hxl, List.take_length] at aw'
    have ok2 : OkS R 0 (comeAll R rows s1 due) := OkS.comes ro ok3 hq3
    have hse2 : (comeAll R rows s1 due).sent ≤ 30000 := by rw [comes_sent]; exact hse3
    obtain ⟨vs, hx', _⟩ := aw'.obj
    unfold oAsker at hx'
    simp! [hx', no_Asker_try_again]
    refine ⟨I', M, a, R, rows, _, 0, rfl, aw', ok2, by omega, fun I5 H5 s5 aw5 => ?_⟩
    obtain ⟨vs, hx5, _⟩ := aw5.obj
    unfold oAsker at hx5
    simp! [hx5, no_Asker_ask_if_due]
    exact ⟨I5, M, a, R, rows, _, 0, rfl, aw5, ok2.againT, by rw [againT_eq, losts_sent]; exact hse2, fun I6 H6 s6 aw6 => hQ I6 H6 (s3.trans (s'.trans (s5.trans s6))) aw6⟩
end
end TA

set_option linter.all false
set_option maxRecDepth 100000
set_option maxHeartbeats 1000000
/-! Askers: what others call. -/
namespace TA
open PySem L2 PyProof.Rows
open SX (S S_len S_inj S_cat S_tl)
local macro_rules | `(tactic| simp! [$as,*]) => `(tactic| first | simp only [L2.start, tSeq, tAsg, tOp, fFld, tVar, gIxL, gIxT, tCB, tCons, tNil, gLenL, gLenT, gLenS, rI, rI0, fSet, tIfS, tTest, tB, rNotN, rIsN, rEq, rNe, tC, tDrop, fBM, fBM0, gTy, rAppend, tTup, tLst, tRet, tRetN, tNext, gName, fTup, gCons, gNil, tCall, fCallS, fMeth, tMeth, fMethS, fMake, tMake, fMakeS, tUn, rU, tAnd, tOr, tNot, tAndV, tOrV, tNotV, tIf, tChain, gListL, gListT, tSl, tNoPart, tPart, gSlL, fRaise, gStrI, gCatS, gMin2, gMax2, gIntB, tYes, fLcL, fLcT, fLcS, fLcR1, fForL, fForR1, fForR2, fRev, fGetI, gGetI, gInI, gLenI, fPutI, fNewI,
  List.map_cons, List.map_nil, List.length_cons, List.length_nil, List.replicate, List.cons_append, List.nil_append, List.append_nil, List.getElem?_cons_zero, List.getElem?_cons_succ, List.set_cons_zero, List.set_cons_succ, reduceIte, Bool.not_true, Bool.not_false, Nat.reduceAdd, Nat.reduceSub, Bool.false_eq_true, eq_self,
  Option.some.injEq, V.int.injEq, V.ref.injEq, V.str.injEq, V.bl.injEq, HO.ins.injEq, HO.lst.injEq, HO.tup.injEq, HO.dK.injEq, List.cons.injEq, and_assoc, exists_eq_left', exists_and_left, and_true, true_and, true_or, or_true, false_or, or_false, exists_eq_left, exists_eq_right, exists_eq_right', exists_eq, exists_eq', exists_const, upd_same, sc_ii, sc_ss, sc_bb, sc_in, sc_ni, sc_ns, sc_sn, sc_nn, $as,*] | skip)
section
variable {K : PySem.W.Frag}
structure PTick (K : PySem.W.Frag) (I : Hp) (a : Ad) (R : Rul) (rows : List Tx) (s : AS) (n : Int) (M : List (Addr × HO)) (i : Nat) (σ : L2.St) (H : Hp) : Prop where
  ex : ∃ (I' : Hp) (v : Option V), σ = [some (.ref a.x), some (.int n), v] ∧ Sub I I' ∧ AskW K I' H a R rows (tickS R rows i s) M
theorem pure_Asker_tick : ∀ vs H Q E, sp_Asker_tick K vs H Q E → t_Asker_tick K E { nx := fun _ H2 => Q .non H2, rt := Q } (L2.start nn_Asker_tick vs) H := by
  rintro vs H Q E ⟨I, M, a, R, rows, s, n, rfl, aw, ok, ro, hse, hQ, hE⟩
  unfold t_Asker_tick
  simp! [and_true]
  unfold tickOk at hQ hE
  by_cases c1 : 0 ≤ n
  · refine ite_t c1 ?_
    by_cases c2 : n ≤ 100
    · refine ite_nt c2 ?_
      have hQ := hQ (decide_eq_true ⟨c1, c2⟩)
      refine ⟨by omega, by omega, PTick K I a R rows s n M, ⟨I, _, rfl, Sub.refl _, aw⟩, ?_, ?_⟩
      · rintro i σ H' hi ⟨I', v, rfl, s', aw'⟩
        obtain ⟨vs, hx', _⟩ := aw'.obj
        unfold oAsker at hx'
        simp! [hx', no_Asker_step]
        have := tick_sent R rows i s
        refine ⟨I', M, a, R, rows, _, rfl, aw', OkS.tick ro ok, ro, by omega, fun I2 H2 s2 aw2 => ⟨I2, _, rfl, s'.trans s2, by rw [tickS_succ]; exact aw2⟩⟩
      · rintro σ H' ⟨I', v, rfl, s', aw'⟩
        exact hQ I' H' s' aw'
    · exact ite_nf c2 (hE (decide_eq_false fun h => c2 h.2))
  · exact ite_f c1 (hE (decide_eq_false fun h => c1 h.1))
theorem use_look {t : Tx} {H : Hp} {Q : VK} {E : XK} (h : t.length ≤ 1000000) (q : ∀ H', Same H H' → if okL 12 t = true then Q .non H' else E (bT K) none H') : sp_look_text K [sV t, .int 12] H Q E := ⟨t, 12, rfl, h, q⟩
theorem pure_Asker_put : ∀ vs H Q E, sp_Asker_put K vs H Q E → t_Asker_put K E { nx := fun _ H2 => Q .non H2, rt := Q } (L2.start nn_Asker_put vs) H := by
  rintro vs H Q E ⟨I, M, a, R, rows, s, t, rfl, aw, ok, hse, htl, hQ, hE⟩
  unfold t_Asker_put
  simp! [and_true]
  refine use_look htl fun H1 sm1 => ?_
  have aw1 := aw.same sm1
  by_cases okt : okL 12 t = true
  · rw [if_pos okt]
    have hQ := hQ okt
    refine use_fold okt fun H2 sm2 => ?_
    have aw2 := aw1.same sm2
    obtain ⟨vs, hx2, _⟩ := aw2.obj
    unfold oAsker at hx2
    simp! [hx2, lk_Asker_now]
    refine use_fold ok.now fun H3 sm3 => ?_
    have aw3 := aw2.same sm3
    -- the end of it
    have fin : ∀ (s' : AS) (I' H' : Hp) (σ : L2.St), Sub I I' → OkS R 0 s' → okL 12 t = true → s'.sent ≤ 29000 → AskW K I' H' a R rows s' M → (∀ I2 H2, Sub I' I2 → AskW K I2 H2 a R rows (askS R (nearS R { s' with now := t })) M → Q .non H2) →
        t_Asker_put_B1_2 K E { nx := fun _ H2 => Q .non H2, rt := Q } [some (.ref a.x), some (sV t)] H' := by
      intro s' I' H' σ sb ok' okt hse' aw' hq
      obtain ⟨L, ⟨u, o, vs, lv, zs, rfl, hd, en, es, so, rl, hs⟩, w', l1, l2⟩ := id aw'
      have hx' := w'.has.1
      unfold oAsker at hx'
      unfold t_Asker_put_B1_2
      simp! [hx', pf_Asker_now, ln_Asker, no_Asker_look_near]
      have aw4 : AskW K I' _ a R rows { s' with now := t } M := ⟨_, ⟨u, o, vs, lv, zs, rfl, hd, en, es, so, rl, hs⟩, w'.put, l1, l2⟩
      refine ⟨I', M, a, R, rows, { s' with now := t }, 0, rfl, aw4, { ok' with now := okt }, by simp only []; omega, fun I5 H5 s5 aw5 => ?_⟩
      obtain ⟨vs, hx5, _⟩ := aw5.obj
      unfold oAsker at hx5
      simp! [hx5, no_Asker_ask_if_due]
      refine ⟨I5, M, a, R, rows, _, 0, rfl, aw5, OkS.near { ok' with now := okt }, by rw [near_sent]; simp only []; omega, fun I6 H6 s6 aw6 => hq I6 H6 (s5.trans s6) aw6⟩
    unfold putS at hQ
    simp! [S_eq]
    by_cases c : foldL t = foldL s.now
    · refine ite_nt c ?_
      simp only [if_pos c] at hQ
      exact fin s I H3 [] (Sub.refl _) ok okt (by omega) aw3 hQ
    · refine ite_nf c ?_
      simp only [if_neg c] at hQ
      obtain ⟨vs, hx3, _⟩ := aw3.obj
      unfold oAsker at hx3
      simp! [hx3, no_Asker_drop_other]
      refine use_fold okt fun H4 sm4 => ?_
      have aw4 := aw3.same sm4
      refine ⟨I, M, a, R, rows, s, 0, some (foldL t), rfl, aw4, ok, by omega, fun I5 H5 s5 aw5 => ?_⟩
      obtain ⟨L, ⟨u, o, vs, lv, zs, rfl, hd, en, es, so, rl, hs⟩, w5, l1, l2⟩ := id aw5
      have hx5 := w5.has.1
      unfold oAsker at hx5
      simp! [hx5, lk_Asker_time, pf_Asker_typed_at, ln_Asker]
      have w6 := w5.put (o' := oAsker K a R { dropS s (some (foldL t)) with at_ := s.time } vs)
      refine use_fold okt fun H7 sm7 => ?_
      have w7 := w6.same sm7
      have hx7 := w7.has.1
      unfold oAsker at hx7
      simp! [lit_e, S_eq, hx7, pf_Asker_is_due, pf_Asker_tries, ln_Asker]
      refine fin { dropS s (some (foldL t)) with at_ := s.time, due := decide (foldL t ≠ []), tries := 0 } I5 _ [] s5 { ok.drop (some (foldL t)) with } okt (by simp only [dropS]; omega) ⟨_, ⟨u, o, vs, lv, zs, rfl, hd, en, es, so, rl, hs⟩, ?_, l1, l2⟩ fun I2 H2 s2 aw2 => hQ I2 H2 (s5.trans s2) aw2
      have e : (!decide (foldL t = [])) = decide (foldL t ≠ []) := by by_cases z : foldL t = [] <;> simp [z]
      rw [← e]
      exact (w7.put (o' := oAsker K a R { dropS s (some (foldL t)) with at_ := s.time, due := !decide (foldL t = []) } vs)).put
  · rw [if_neg okt]
    exact hE (by simpa using okt) H1 sm1
theorem pure_Asker_key : ∀ vs H Q E, sp_Asker_key K vs H Q E → t_Asker_key K E { nx := fun _ H2 => Q .non H2, rt := Q } (L2.start nn_Asker_key vs) H := by
  rintro vs H Q E ⟨I, M, a, R, rows, s, t, rfl, aw, ok, hse, htl, hQ, hE⟩
  have hb := line_big
  have hn := okL_len ok.now
  unfold t_Asker_key
  obtain ⟨vs, hx, _⟩ := aw.obj
  unfold oAsker at hx
  simp! [hx, lk_Asker_now, no_Asker_put, S_len, S_cat]
  exact ⟨by omega, I, M, a, R, rows, s, s.now ++ t, rfl, aw, ok, hse, by rw [List.length_append]; omega, hQ, hE⟩
theorem pure_Asker_rub : ∀ vs H Q E, sp_Asker_rub K vs H Q E → t_Asker_rub K E { nx := fun _ H2 => Q .non H2, rt := Q } (L2.start nn_Asker_rub vs) H := by
  rintro vs H Q E ⟨I, M, a, R, rows, s, rfl, aw, ok, hse, hQ⟩
  have hb := line_big
  have hn := okL_len ok.now
  have okd : okL 12 s.now.dropLast = true := by
    have := ok.now
    unfold okL at this ⊢
    rw [Bool.and_eq_true] at this ⊢
    refine ⟨decide_eq_true (by rw [List.length_dropLast]; omega), List.all_eq_true.mpr fun c hc => List.all_eq_true.mp this.2 c ((List.dropLast_sublist _).subset hc)⟩
  unfold t_Asker_rub
  obtain ⟨vs, hx, _⟩ := aw.obj
  unfold oAsker at hx
  simp! [hx, lk_Asker_now, no_Asker_put, rSlS, S_len, cut_hi]
  refine ⟨by omega, I, M, a, R, rows, s, s.now.dropLast, rfl, aw, ok, hse, by rw [List.length_dropLast]; omega, fun _ => hQ, fun h => by rw [okd] at h; cases h⟩
theorem pure_Asker_again : ∀ vs H Q E, sp_Asker_again K vs H Q E → t_Asker_again K E { nx := fun _ H2 => Q .non H2, rt := Q } (L2.start nn_Asker_again vs) H := by
  rintro vs H Q E ⟨I, M, a, R, rows, s, rfl, aw, ok, hse, hQ, hE⟩
  unfold t_Asker_again
  obtain ⟨vs, hx, _⟩ := aw.obj
  unfold oAsker at hx
  unfold againE at hQ hE
  simp! [hx, lk_Asker_now]
  refine use_fold ok.now fun H1 sm1 => ?_
  have aw1 := aw.same sm1
  simp! [lit_e, S_eq]
  by_cases c1 : foldL s.now = []
  · exact ite_t c1 (hE (by simp [c1]) H1 sm1)
  refine ite_f c1 ?_
  obtain ⟨L, ⟨u, o, vs, lv, zs, rfl, hd, en, es, so, rl, hs⟩, w1, l1, l2⟩ := id aw1
  have hx1 := w1.has.1
  have ha1 := w1.has.2.1
  unfold oAsker at hx1
  simp! [fTru, hx1, lk_Asker_asked, gTru]
  refine ⟨!s.asked.isEmpty, .inr (.inr ⟨_, ha1, by simp⟩), ?_⟩
  cases c2 : s.asked.isEmpty with
  | false => simp! [and_true]; exact hE (by simp [c2]) H1 sm1
  | true =>
    have hQ := hQ (by simp [c1, c2])
    unfold againS at hQ
    simp! [hx1, lk_Asker_shelf]
    obtain ⟨su, szs, rfl, sh1, sh2, sh3⟩ := id so
    refine ⟨_, _, w1.has.2.2.2.2.2.2.1, no_Shelf_clear, ?_⟩
    refine ⟨I, _, a.sh, a.dsh, R.most, R.term, s.ks, _, rfl, w1.sel [_, _, _, _, _, _, _] [6, 0, 1, 2, 3, 4, 5], so, fun I2 H2 o2 s2 w2' so2 => ?_⟩
    have w2 : W I2 H2 ((a.x, oAsker K a R s vs) :: (a.pa, dAsked s) :: (a.pf, dFly s) :: (a.pl, .lst lv) :: (a.rd, oRoad K a.drd a.d s.sent u) :: (u, .lst (zs.map Prod.fst)) :: (a.sh, o2) :: M) := w2'.sel [_, _, _, _, _, _, _] [1, 2, 3, 4, 5, 6, 0]
    clear w2'
    have hx2 := w2.has.1
    unfold oAsker at hx2
    simp! [hx2, pf_Asker_is_due, pf_Asker_tries, pf_Asker_typed_at, ln_Asker, lk_Asker_time, lk_Asker_pause, no_Asker_ask_if_due]
    have w3 := ((w2.put (o' := oAsker K a R { s with due := true } vs)).put (o' := oAsker K a R { s with due := true, tries := 0 } vs)).put (o' := oAsker K a R { s with due := true, tries := 0, at_ := s.time - R.pause } vs)
    refine ⟨I2, M, a, R, rows, { s with ks := [], due := true, tries := 0, at_ := s.time - R.pause }, 0, rfl, ⟨_, ⟨u, o2, vs, lv, zs, rfl, s2 _ _ hd, en.mono s2, es, so2, rl.mono s2, hs.mono s2⟩, w3, l1.mono s2, l2.mono s2⟩, { ok with ks := (by simp), kl := Nat.zero_le _ }, by simp only []; omega, fun I4 H4 s4 aw4 => hQ I4 H4 (s2.trans s4) aw4⟩
theorem lit_nothing : ("nothing" : Str) = S [110, 111, 116, 104, 105, 110, 103] := by kernel_rfl
theorem lit_fresh : ("fresh" : Str) = S [102, 114, 101, 115, 104] := by kernel_rfl
theorem lit_old : ("old" : Str) = S [111, 108, 100] := by kernel_rfl
theorem pure_Asker_view : ∀ vs H Q E, sp_Asker_view K vs H Q E → t_Asker_view K E { nx := fun _ H2 => Q .non H2, rt := Q } (L2.start nn_Asker_view vs) H := by
  rintro vs H Q E ⟨I, M, a, R, rows, s, rfl, aw, ok, hQ⟩
  unfold t_Asker_view
  obtain ⟨vs, hx, hs⟩ := aw.obj
  unfold oAsker at hx
  cases hsh : s.shown with
  | none =>
    rw [hsh] at hs
    have hs : vs = .non := hs
    subst hs
    simp! [hx, lk_Asker_shown, decide_true]
    refine ⟨Nat.zero_le _, fun l hl => ⟨three_le, fun t ht => ?_⟩⟩
    have hv : viewR s = [] ∧ viewK s = [] ∧ viewW s = [110, 111, 116, 104, 105, 110, 103] := by unfold viewR viewK viewW; rw [hsh]; exact ⟨rfl, rfl, rfl⟩
    rw [hv.1, hv.2.1, hv.2.2] at hQ
    have aw1 := aw.newM (o := .lst []) hl
    obtain ⟨I2, s2, aw2, h2⟩ := aw1.mkI ht (.tup [.str "nothing", .str "", .ref l])
    rw [lit_nothing, lit_e] at h2 aw2 ⊢
    exact hQ I2 _ t l s2 aw2 h2
  | some v =>
    obtain ⟨key, rs, old⟩ := v
    rw [hsh] at hs
    obtain ⟨t, l, rfl, h1, h2⟩ := hs
    simp! [hx, lk_Asker_shown, decide_false, reduceCtorEq, no_Asker_is_fresh]
    refine ⟨I, M, a, R, rows, s, rfl, aw, ok.now, by rw [hsh]; simp, fun H1 sm1 => ?_⟩
    have aw1 := aw.same sm1
    have hx1 := sm1 _ _ hx
    have h1' := aw1.sub _ _ h1
    have h2' := aw1.sub _ _ h2
    have hv : viewR s = rs ∧ viewK s = key ∧ viewW s = if freshS s = true then [102, 114, 101, 115, 104] else [111, 108, 100] := by unfold viewR viewK viewW; rw [hsh]; exact ⟨rfl, rfl, rfl⟩
    rw [hv.1, hv.2.1] at hQ
    have fin : t_Asker_view_B1_2 K E { nx := fun _ H2 => Q .non H2, rt := Q } [some (.ref a.x), some (sV (viewW s))] H1 := by
      unfold t_Asker_view_B1_2
      simp! [hx1, lk_Asker_shown, h1', at3_0, at3_1, h2']
      intro l2 hl2
      refine ⟨three_le, fun t2 ht2 => ?_⟩
      have aw2 := aw1.newM (o := .lst (rs.map sV)) hl2
      obtain ⟨I3, s3, aw3, h3⟩ := aw2.mkI ht2 (.tup [sV (viewW s), sV key, .ref l2])
      exact hQ I3 _ t2 l2 s3 aw3 h3
    rw [hv.2.2] at fin
    cases c : freshS s with
    | true =>
      rw [c, if_pos rfl] at fin
      simp! [lit_fresh]
      exact fin
    | false =>
      rw [c, if_neg (by decide)] at fin
      simp! [lit_old]
      exact fin
end
end TA

set_option linter.all false
set_option maxRecDepth 100000
set_option maxHeartbeats 4000000
/-! A new asker. -/
namespace TA
open PySem L2 PyProof.Rows
open SX (S S_len S_inj S_cat S_tl)
local macro_rules | `(tactic| simp! [$as,*]) => `(tactic| first | simp only [L2.start, tSeq, tAsg, tOp, fFld, tVar, gIxL, gIxT, tCB, tCons, tNil, gLenL, gLenT, gLenS, rI, rI0, fSet, tIfS, tTest, tB, rNotN, rIsN, rEq, rNe, tC, tDrop, fBM, fBM0, gTy, rAppend, tTup, tLst, tRet, tRetN, tNext, gName, fTup, gCons, gNil, tCall, fCallS, fMeth, tMeth, fMethS, fMake, tMake, fMakeS, tUn, rU, tAnd, tOr, tNot, tAndV, tOrV, tNotV, tIf, tChain, gListL, gListT, tSl, tNoPart, tPart, gSlL, fRaise, gStrI, gCatS, gMin2, gMax2, gIntB, tYes, fLcL, fLcT, fLcS, fLcR1, fForL, fForR1, fForR2, fRev, fGetI, gGetI, gInI, gLenI, fPutI, fNewI,
  List.map_cons, List.map_nil, List.length_cons, List.length_nil, List.replicate, List.cons_append, List.nil_append, List.append_nil, List.getElem?_cons_zero, List.getElem?_cons_succ, List.set_cons_zero, List.set_cons_succ, reduceIte, Bool.not_true, Bool.not_false, Nat.reduceAdd, Nat.reduceSub, Bool.false_eq_true, eq_self,
  Option.some.injEq, V.int.injEq, V.ref.injEq, V.str.injEq, V.bl.injEq, HO.ins.injEq, HO.lst.injEq, HO.tup.injEq, HO.dK.injEq, List.cons.injEq, and_assoc, exists_eq_left', exists_and_left, and_true, true_and, true_or, or_true, false_or, or_false, exists_eq_left, exists_eq_right, exists_eq_right', exists_eq, exists_eq', exists_const, upd_same, sc_ii, sc_ss, sc_bb, sc_in, sc_ni, sc_ns, sc_sn, sc_nn, $as,*] | skip)
section
variable {K : PySem.W.Frag}
theorem upd_upd {H : Hp} {a : Addr} {o o' : HO} : upd (upd H a o) a o' = upd H a o' := by
  funext b
  by_cases e : b = a
  · subst e; rw [upd_same, upd_same]
  · rw [upd_ne e, upd_ne e, upd_ne e]
theorem pure_Asker___init__ : ∀ vs H Q E, sp_Asker___init__ K vs H Q E → t_Asker___init__ K E { nx := fun _ H2 => Q .non H2, rt := Q } (L2.start nn_Asker___init__ vs) H := by
  rintro vs H Q E ⟨I, M, x, dx, st, rd, sh, drd, d, u, dsh, dst, r, o, R, rows, rfl, w, hd, so, l1, l2, hQ, hE⟩
  have hx := w.has.1
  unfold t_Asker___init__
  simp! [and_true]
  unfold rulesOk at hQ hE
  refine ⟨R.many, rfl, ?_⟩
  by_cases c0 : manyOk R.many = true
  · rw [if_pos c0]
    rw [c0, Bool.true_and] at hQ hE
    unfold Out
    simp only []
    by_cases c1 : 0 ≤ R.pause
    · refine ite_t c1 ?_
      by_cases c2 : R.pause ≤ 9
      · refine ite_nt c2 ?_
        by_cases c3 : 1 ≤ R.asks
        · refine ite_t c3 ?_
          by_cases c4 : R.asks ≤ 3
          · refine ite_nt c4 ?_
            by_cases c5 : 1 ≤ R.pat
            · refine ite_t c5 ?_
              by_cases c6 : R.pat ≤ 40
              · refine ite_nt c6 ?_
                have hQ := hQ (by simp [c1, c2, c3, c4, c5, c6])
                simp! [hx, upd_upd, il_Asker_1, il_Asker_2, il_Asker_3, il_Asker_4, il_Asker_5, il_Asker_6, il_Asker_7, il_Asker_8, il_Asker_9, il_Asker_10, il_Asker_11, il_Asker_12, List.length_nil, show (0 : Nat) < 1000 from by decide]
                intro pa hpa
                have w2 := (w.put (o' := .ins (He.ga K "Asker") dx (putF "tries" (.int 0) (putF "is_due" (.bl false) (putF "typed_at" (.int 0) (putF "now" (.str "") (putF "time" (.int 0) (putF "patience" (.int R.pat) (putF "asks_most" (.int R.asks) (putF "pause" (.int R.pause) (putF "rows_most" (.int R.many) (putF "shelf" (.ref sh) (putF "road" (.ref rd) (putF "store" (.ref st) [])))))))))))))).newM (o := dI []) hpa
                refine ⟨_, _, w2.has.2.1, il_Asker_12, fun pf hpf => ?_⟩
                have w3 := (w2.put1 (o' := .ins (He.ga K "Asker") dx (putF "asked" (.ref pa) (putF "tries" (.int 0) (putF "is_due" (.bl false) (putF "typed_at" (.int 0) (putF "now" (.str "") (putF "time" (.int 0) (putF "patience" (.int R.pat) (putF "asks_most" (.int R.asks) (putF "pause" (.int R.pause) (putF "rows_most" (.int R.many) (putF "shelf" (.ref sh) (putF "road" (.ref rd) (putF "store" (.ref st) []))))))))))))))).newM (o := dI []) hpf
                refine ⟨_, _, w3.has.2.2.1, il_Asker_13, ?_⟩
                simp! [il_Asker_14]
                refine ⟨Nat.zero_le _, fun pl hpl => ?_⟩
                have w5 := (w3.put2 (o' := .ins (He.ga K "Asker") dx (putF "shown" .non (putF "flying" (.ref pf) (putF "asked" (.ref pa) (putF "tries" (.int 0) (putF "is_due" (.bl false) (putF "typed_at" (.int 0) (putF "now" (.str "") (putF "time" (.int 0) (putF "patience" (.int R.pat) (putF "asks_most" (.int R.asks) (putF "pause" (.int R.pause) (putF "rows_most" (.int R.many) (putF "shelf" (.ref sh) (putF "road" (.ref rd) (putF "store" (.ref st) []))))))))))))))))).newM (o := .lst []) hpl
                refine ⟨_, _, w5.has.2.2.2.1, il_Asker_15, ?_⟩
                rw [in_Asker]
                have w6 := w5.put3 (o' := oAsker K ⟨x, dx, pa, pf, pl, rd, drd, d, sh, dsh, st, dst, r⟩ R S0 .non)
                have hlit : (V.str ("" : Str)) = sV [] := by rw [lit_e]
                rw [hlit]
                refine hQ I _ pa pf pl (Sub.refl _) ⟨_, ⟨u, o, .non, [], [], rfl, hd, Enc.nil, rfl, so, .nil, rfl⟩, ?_, l1, l2⟩
                exact W.sel [_, _, _, _, _, _, _] w6 [3, 2, 1, 0, 4, 5, 6]
              · exact ite_nf c6 (hE (by simp [c6]))
            · exact ite_f c5 (hE (by simp [c5]))
          · exact ite_nf c4 (hE (by simp [c4]))
        · exact ite_f c3 (hE (by simp [c3]))
      · exact ite_nf c2 (hE (by simp [c2]))
    · exact ite_f c1 (hE (by simp [c1]))
  · rw [if_neg c0]
    exact hE (by simp [c0])
end
end TA

set_option linter.all false
set_option maxRecDepth 100000
set_option maxHeartbeats 1000000
/-! What the laws about askers draw and make. -/
namespace TA
open PySem L2 PyProof.Rows
open SX (S S_len S_inj S_cat S_tl)
local macro_rules | `(tactic| simp! [$as,*]) => `(tactic| first | simp only [L2.start, tSeq, tAsg, tOp, fFld, tVar, gIxL, gIxT, tCB, tCons, tNil, gLenL, gLenT, gLenS, rI, rI0, fSet, tIfS, tTest, tB, rNotN, rIsN, rEq, rNe, tC, tDrop, fBM, fBM0, gTy, rAppend, tTup, tLst, tRet, tRetN, tNext, gName, fTup, gCons, gNil, tCall, fCallS, fMeth, tMeth, fMethS, fMake, tMake, fMakeS, tUn, rU, tAnd, tOr, tNot, tAndV, tOrV, tNotV, tIf, tChain, gListL, gListT, tSl, tNoPart, tPart, gSlL, fRaise, gStrI, gCatS, gMin2, gMax2, gIntB, tYes, fLcL, fLcT, fLcS, fLcR1, fForL, fForR1, fForR2, fRev, fGetI, gGetI, gInI, gLenI, fPutI, fNewI,
  List.map_cons, List.map_nil, List.length_cons, List.length_nil, List.replicate, List.cons_append, List.nil_append, List.append_nil, List.getElem?_cons_zero, List.getElem?_cons_succ, List.set_cons_zero, List.set_cons_succ, reduceIte, Bool.not_true, Bool.not_false, Nat.reduceAdd, Nat.reduceSub, Bool.false_eq_true, eq_self,
  Option.some.injEq, V.int.injEq, V.ref.injEq, V.str.injEq, V.bl.injEq, HO.ins.injEq, HO.lst.injEq, HO.tup.injEq, HO.dK.injEq, List.cons.injEq, and_assoc, exists_eq_left', exists_and_left, and_true, true_and, true_or, or_true, false_or, or_false, exists_eq_left, exists_eq_right, exists_eq_right', exists_eq, exists_eq', exists_const, upd_same, sc_ii, sc_ss, sc_bb, sc_in, sc_ni, sc_ns, sc_sn, sc_nn, $as,*] | skip)
/-- the script, the town, an asker, and the rest -/
structure LW (K : PySem.W.Frag) (I H : Hp) (a t : Addr) (n : Nat) (ad : Ad) (R : Rul) (rows : List Tx) (s : AS) (M : List (Addr × HO)) : Prop where
  ex : ∃ L, AskO K I ad R s L ∧ Dr K I H a t n (L ++ M) ∧ Ls I M ad.st (oStore K ad.dst ad.r) ∧ Ls I M ad.r (.lst (rows.map sV))
section
variable {K : PySem.W.Frag} {I I' H H' : Hp} {a t p : Addr} {o : HO} {n m : Nat} {ad : Ad} {R : Rul} {rows : List Tx} {s s' : AS} {M : List (Addr × HO)} {Q : VK} {E : XK}
theorem LW.le (h : LW K I H a t n ad R rows s M) (e : n ≤ m) : LW K I H a t m ad R rows s M := by
  obtain ⟨L, ao, d, l1, l2⟩ := h
  exact ⟨L, ao, d.le e, l1, l2⟩
theorem LW.same (h : LW K I H a t n ad R rows s M) (e : Same H H') : LW K I H' a t n ad R rows s M := by
  obtain ⟨L, ao, d, l1, l2⟩ := h
  exact ⟨L, ao, d.same e, l1, l2⟩
theorem LW.sub (h : LW K I H a t n ad R rows s M) : Sub I H := by
  obtain ⟨L, ao, d, l1, l2⟩ := h
  exact d.sub
theorem LW.mkI (h : LW K I H a t n ad R rows s M) (hp : H p = none) (o : HO) : ∃ I', Sub I I' ∧ LW K I' (upd H p o) a t n ad R rows s M ∧ I' p = some o := by
  obtain ⟨L, ao, d, l1, l2⟩ := h
  have sb : Sub I (upd I p o) := Sub.new (d.noI hp)
  exact ⟨_, sb, ⟨L, ao.mono sb, d.newI hp, l1.mono sb, l2.mono sb⟩, upd_same⟩
theorem LW.skip (h : LW K I H a t n ad R rows s M) (hp : H p = none) : LW K I (upd H p o) a t n ad R rows s M := by
  obtain ⟨L, ao, d, l1, l2⟩ := h
  exact ⟨L, ao, d.skip hp, l1, l2⟩
theorem LW.newM (h : LW K I H a t n ad R rows s M) (hp : H p = none) : LW K I (upd H p o) a t n ad R rows s ((p, o) :: M) := by
  obtain ⟨L, ao, d, l1, l2⟩ := h
  exact ⟨L, ao, (d.newM hp).perm List.perm_middle, l1.cons, l2.cons⟩
theorem LW.l1 (h : LW K I H a t n ad R rows s M) : Ls I M ad.st (oStore K ad.dst ad.r) := by
  obtain ⟨L, ao, d, l1, l2⟩ := h
  exact l1
theorem LW.l2 (h : LW K I H a t n ad R rows s M) : Ls I M ad.r (.lst (rows.map sV)) := by
  obtain ⟨L, ao, d, l1, l2⟩ := h
  exact l2
/-- the first one will not change any more -/
theorem LW.frz (h : LW K I H a t n ad R rows s ((p, o) :: M)) (l1 : Ls I M ad.st (oStore K ad.dst ad.r)) (l2 : Ls I M ad.r (.lst (rows.map sV))) : ∃ I', Sub I I' ∧ LW K I' H a t n ad R rows s M ∧ I' p = some o := by
  obtain ⟨L, ao, d, _, _⟩ := h
  have d1 : Dr K I H a t n ((p, o) :: (L ++ M)) := d.perm List.perm_middle.symm
  have sb : Sub I (upd I p o) := Sub.new (d1.out (p, o) List.mem_cons_self)
  exact ⟨_, sb, ⟨L, ao.mono sb, d1.freeze, l1.mono sb, l2.mono sb⟩, upd_same⟩
theorem LW.put (h : LW K I H a t n ad R rows s ((p, o) :: M)) {o' : HO} (l1 : Ls I M ad.st (oStore K ad.dst ad.r)) (l2 : Ls I M ad.r (.lst (rows.map sV))) : LW K I (upd H p o') a t n ad R rows s ((p, o') :: M) := by
  obtain ⟨L, ao, d, _, _⟩ := h
  have d1 : Dr K I H a t n ((p, o) :: (L ++ M)) := d.perm List.perm_middle.symm
  exact ⟨L, ao, d1.put.perm List.perm_middle, l1.cons, l2.cons⟩
theorem LW.drop (h : LW K I H a t n ad R rows s ((p, o) :: M)) (l1 : Ls I M ad.st (oStore K ad.dst ad.r)) (l2 : Ls I M ad.r (.lst (rows.map sV))) : LW K I H a t n ad R rows s M := by
  obtain ⟨L, ao, d, _, _⟩ := h
  have d1 : Dr K I H a t n ((p, o) :: (L ++ M)) := d.perm List.perm_middle.symm
  exact ⟨L, ao, d1.drop, l1, l2⟩
theorem LW.scr (h : LW K I H a t n ad R rows s M) : Scr K I a := by
  obtain ⟨L, ao, d, l1, l2⟩ := h
  exact d.scr
/-- as a method sees it -/
theorem LW.aw (h : LW K I H a t n ad R rows s M) : ∃ zs : List V, AskW K I H ad R rows s ((t, .lst zs) :: M) ∧ (∀ (I' H' : Hp) (s' : AS), Sub I I' → AskW K I' H' ad R rows s' ((t, .lst zs) :: M) → LW K I' H' a t n ad R rows s' M) ∧
    ∀ (I' H' : Hp) (s' : AS) (p : Addr) (o : HO), Sub I I' → AskW K I' H' ad R rows s' ((p, o) :: (t, .lst zs) :: M) → LW K I' H' a t n ad R rows s' ((p, o) :: M) := by
  obtain ⟨L, ao, ⟨sc, zs, lz, w⟩, l1, l2⟩ := h
  refine ⟨zs, ⟨L, ao, w.perm List.perm_middle, l1.cons, l2.cons⟩, fun I' H' s' sb aw => ?_, fun I' H' s' p o sb aw => ?_⟩
  · obtain ⟨L', ao', w', _, _⟩ := aw
    exact ⟨L', ao', ⟨sc.mono sb, zs, lz, w'.perm List.perm_middle.symm⟩, l1.mono sb, l2.mono sb⟩
  · obtain ⟨L', ao', w', _, _⟩ := aw
    refine ⟨L', ao', ⟨sc.mono sb, zs, lz, w'.perm ?_⟩, (l1.mono sb).cons, (l2.mono sb).cons⟩
    have e := (List.perm_middle (a := (t, HO.lst zs)) (l₁ := L' ++ [(p, o)]) (l₂ := M)).symm
    simp only [List.append_assoc, List.cons_append, List.nil_append] at e
    exact e
theorem LW.obj (h : LW K I H a t n ad R rows s M) : ∃ vs, H ad.x = some (oAsker K ad R s vs) ∧ ShV I vs s.shown := by
  obtain ⟨zs, aw, _⟩ := h.aw
  exact aw.obj
theorem LW.store (h : LW K I H a t n ad R rows s M) : H ad.st = some (oStore K ad.dst ad.r) := by
  obtain ⟨L, ao, ⟨sc, zs, lz, w⟩, l1, l2⟩ := h
  have := l1.at (w.perm (M' := M ++ ((t, .lst zs) :: L)) ?_ |> fun w => (⟨w.sub, has_of fun p hp => has_mem w.has p (List.mem_append_left _ hp), fun p hp => w.out p (List.mem_append_left _ hp), by have := w.nd; rw [List.map_append] at this; exact (List.nodup_append.mp this).1⟩ : W I H M))
  · exact this
  · exact (List.perm_append_comm (l₁ := M) (l₂ := (t, .lst zs) :: L))
/-! ### draws -/
theorem LW.draw {b : Int} (h : LW K I H a t n ad R rows s M) (hn : n < 1000000) (hb : 0 < b) (q : ∀ (d : Int) (H' : Hp), 0 ≤ d → d < b → LW K I H' a t (n + 1) ad R rows s M → Q (.int d) H') : sp__law_draw K [.ref a, .ref t, .int b] H Q E := by
  obtain ⟨L, ao, d, l1, l2⟩ := h
  exact ⟨I, a, t, n, _, b, rfl, d, hn, hb, fun i H' h0 h1 d' => q i H' h0 h1 ⟨L, ao, d', l1, l2⟩⟩
theorem LW.pick {l : Addr} {xs : List V} (h : LW K I H a t n ad R rows s M) (hn : n < 1000000) (hl : I l = some (.lst xs)) (hx : xs ≠ []) (q : ∀ (x : V) (H' : Hp), x ∈ xs → LW K I H' a t (n + 1) ad R rows s M → Q x H') : sp__law_pick K [.ref a, .ref t, .ref l] H Q E := by
  obtain ⟨L, ao, d, l1, l2⟩ := h
  refine ⟨I, a, t, l, n, _, xs, rfl, d, hn, fun H' hd => ?_, hx, fun x H' hx d' => q x H' hx ⟨L, ao, d', l1, l2⟩⟩
  rcases hd with hd | hd
  · exact hd.sub _ _ hl
  · exact hd.sub _ _ hl
theorem LW.query (h : LW K I H a t n ad R rows s M) (hn : n < 900000) (q : ∀ (l : Tx) (H' : Hp), okL 8 l = true → LW K I H' a t (n + 5) ad R rows s M → Q (sV l) H') : sp__law_query K [.ref a, .ref t] H Q E := by
  obtain ⟨L, ao, d, l1, l2⟩ := h
  exact ⟨I, a, t, n, _, rfl, d, hn, fun l H' h0 d' => q l H' h0 ⟨L, ao, d', l1, l2⟩⟩
theorem LW.row (h : LW K I H a t n ad R rows s M) (hn : n < 900000) (q : ∀ (l : Tx) (H' : Hp), okL 15 l = true → LW K I H' a t (n + 7) ad R rows s M → Q (sV l) H') : sp__law_row K [.ref a, .ref t] H Q E := by
  obtain ⟨L, ao, d, l1, l2⟩ := h
  exact ⟨I, a, t, n, _, rfl, d, hn, fun l H' h0 d' => q l H' h0 ⟨L, ao, d', l1, l2⟩⟩
/-! ### the asker's methods -/
theorem LW.m_put {tx : Tx} (h : LW K I H a t n ad R rows s M) (ok : OkS R 0 s) (hse : s.sent ≤ 29000) (hl : tx.length ≤ 1000000) (q : okL 12 tx = true → ∀ I' H', Sub I I' → LW K I' H' a t n ad R rows (putS R s tx) M → Q .non H') (e : okL 12 tx = false → ∀ H', Same H H' → E (bT K) none H') : sp_Asker_put K [.ref ad.x, sV tx] H Q E := by
  obtain ⟨zs, aw, b, _⟩ := h.aw
  exact ⟨I, _, ad, R, rows, s, tx, rfl, aw, ok, hse, hl, fun o I' H' sb aw' => q o I' H' sb (b I' H' _ sb aw'), e⟩
theorem LW.m_key {tx : Tx} (h : LW K I H a t n ad R rows s M) (ok : OkS R 0 s) (hse : s.sent ≤ 29000) (hl : tx.length ≤ 1000) (q : okL 12 (s.now ++ tx) = true → ∀ I' H', Sub I I' → LW K I' H' a t n ad R rows (putS R s (s.now ++ tx)) M → Q .non H') (e : okL 12 (s.now ++ tx) = false → ∀ H', Same H H' → E (bT K) none H') : sp_Asker_key K [.ref ad.x, sV tx] H Q E := by
  obtain ⟨zs, aw, b, _⟩ := h.aw
  exact ⟨I, _, ad, R, rows, s, tx, rfl, aw, ok, hse, hl, fun o I' H' sb aw' => q o I' H' sb (b I' H' _ sb aw'), e⟩
theorem LW.m_rub (h : LW K I H a t n ad R rows s M) (ok : OkS R 0 s) (hse : s.sent ≤ 29000) (q : ∀ I' H', Sub I I' → LW K I' H' a t n ad R rows (putS R s s.now.dropLast) M → Q .non H') : sp_Asker_rub K [.ref ad.x] H Q E := by
  obtain ⟨zs, aw, b, _⟩ := h.aw
  exact ⟨I, _, ad, R, rows, s, rfl, aw, ok, hse, fun I' H' sb aw' => q I' H' sb (b I' H' _ sb aw')⟩
theorem LW.m_tick {k : Int} (h : LW K I H a t n ad R rows s M) (ok : OkS R 0 s) (ro : rowsOk rows) (hse : s.sent ≤ 29000) (q : tickOk k = true → ∀ I' H', Sub I I' → LW K I' H' a t n ad R rows (tickS R rows k.toNat s) M → Q .non H') (e : tickOk k = false → E (bN K) none H) : sp_Asker_tick K [.ref ad.x, .int k] H Q E := by
  obtain ⟨zs, aw, b, _⟩ := h.aw
  exact ⟨I, _, ad, R, rows, s, k, rfl, aw, ok, ro, hse, fun o I' H' sb aw' => q o I' H' sb (b I' H' _ sb aw'), e⟩
theorem LW.m_again (h : LW K I H a t n ad R rows s M) (ok : OkS R 0 s) (hse : s.sent ≤ 29000) (q : againE s = false → ∀ I' H', Sub I I' → LW K I' H' a t n ad R rows (againS R s) M → Q .non H') (e : againE s = true → ∀ H', Same H H' → E (bA K) none H') : sp_Asker_again K [.ref ad.x] H Q E := by
  obtain ⟨zs, aw, b, _⟩ := h.aw
  exact ⟨I, _, ad, R, rows, s, rfl, aw, ok, hse, fun o I' H' sb aw' => q o I' H' sb (b I' H' _ sb aw'), e⟩
theorem LW.m_typed (h : LW K I H a t n ad R rows s M) (q : Q (sV s.now) H) : sp_Asker_typed K [.ref ad.x] H Q E := by
  obtain ⟨zs, aw, b, _⟩ := h.aw
  exact ⟨I, _, ad, R, rows, s, rfl, aw, q⟩
theorem LW.m_clock (h : LW K I H a t n ad R rows s M) (q : Q (.int s.time) H) : sp_Asker_clock K [.ref ad.x] H Q E := by
  obtain ⟨zs, aw, b, _⟩ := h.aw
  exact ⟨I, _, ad, R, rows, s, rfl, aw, q⟩
theorem LW.m_wait (h : LW K I H a t n ad R rows s M) (q : Q (.bl (s.due || !s.asked.isEmpty)) H) : sp_Asker_is_waiting K [.ref ad.x] H Q E := by
  obtain ⟨zs, aw, b, _⟩ := h.aw
  exact ⟨I, _, ad, R, rows, s, rfl, aw, q⟩
/-- the view, its list still to be changed -/
theorem LW.m_viewM (h : LW K I H a t n ad R rows s M) (ok : OkS R 0 s) (q : ∀ (I' H' : Hp) (v l : Addr), Sub I I' → LW K I' H' a t n ad R rows s ((l, .lst ((viewR s).map sV)) :: M) → I' v = some (.tup [sV (viewW s), sV (viewK s), .ref l]) → Q (.ref v) H') : sp_Asker_view K [.ref ad.x] H Q E := by
  obtain ⟨zs, aw, _, b⟩ := h.aw
  exact ⟨I, _, ad, R, rows, s, rfl, aw, ok, fun I' H' v l sb aw' hv => q I' H' v l sb (b I' H' _ _ _ sb aw') hv⟩
theorem LW.m_view (h : LW K I H a t n ad R rows s M) (ok : OkS R 0 s) (q : ∀ (I' H' : Hp) (v l : Addr), Sub I I' → LW K I' H' a t n ad R rows s M → I' v = some (.tup [sV (viewW s), sV (viewK s), .ref l]) → I' l = some (.lst ((viewR s).map sV)) → Q (.ref v) H') : sp_Asker_view K [.ref ad.x] H Q E :=
  h.m_viewM ok fun I' H' v l sb lw hv => by
    obtain ⟨I2, s2, lw2, h2⟩ := lw.frz (h.l1.mono sb) (h.l2.mono sb)
    exact q I2 H' v l (sb.trans s2) lw2 (s2 _ _ hv) h2
theorem LW.m_logM (h : LW K I H a t n ad R rows s M) (q : ∀ (H' : Hp) (p : Addr) (lv : List V), LW K I H' a t n ad R rows s ((p, .lst lv) :: M) → RpAll I lv (s.log.map lgD) → Q (.ref p) H') : sp_Asker_log K [.ref ad.x] H Q E := by
  obtain ⟨zs, aw, _, b⟩ := h.aw
  exact ⟨I, _, ad, R, rows, s, rfl, aw, fun H' p lv aw' r => q H' p lv (b I H' _ _ _ (Sub.refl _) aw') r⟩
theorem LW.m_log (h : LW K I H a t n ad R rows s M) (q : ∀ (I' H' : Hp) (v : V), Sub I I' → LW K I' H' a t n ad R rows s M → Rp I' v (.list (s.log.map lgD)) → Q v H') : sp_Asker_log K [.ref ad.x] H Q E :=
  h.m_logM fun H' p lv lw r => by
    obtain ⟨I2, s2, lw2, h2⟩ := lw.frz h.l1 h.l2
    exact q I2 H' _ s2 lw2 (.lst h2 (r.mono s2))
/-- the store is asked -/
theorem LW.m_answer {qr : Tx} (h : LW K I H a t n ad R rows s M) (ro : rowsOk rows) (ok : OkS R 0 s) (okq : okL 12 qr = true) (q : ∀ (I' H' : Hp) (v l : Addr), Sub I I' → LW K I' H' a t n ad R rows s M → I' v = some (.tup [.ref l, .bl (ansA rows qr R.many)]) → I' l = some (.lst ((ansR rows qr R.many).map sV)) → Q (.ref v) H') : sp_Store_answer K [.ref ad.st, sV qr, .int R.many] H Q E := by
  obtain ⟨L, ao, ⟨sc, zs, lz, w⟩, l1, l2⟩ := h
  have lift : ∀ {p : Addr} {o : HO}, Ls I M p o → Ls I ((t, .lst zs) :: (L ++ M)) p o := fun h => h.elim .inl fun h => .inr (List.mem_cons_of_mem _ (List.mem_append_right _ h))
  refine ⟨I, _, ad.st, ad.dst, ad.r, rows, qr, R.many, rfl, w, lift l1, lift l2, ro, by have := okL_len okq; omega, fun _ I5 H5 v5 s5 w5 rv5 => ?_, fun e he => by rw [many_ok ok okq] at he; cases he⟩
  obtain ⟨tt, l, rfl, e1, e2⟩ := rp_answ rv5
  exact q I5 H5 tt l s5 ⟨L, ao.mono s5, ⟨sc.mono s5, zs, lz, w5⟩, l1.mono s5, l2.mono s5⟩ e1 e2
/-- all that may change, as one list -/
theorem LW.wv (h : LW K I H a t n ad R rows s M) : ∃ X, W I H X ∧ (∀ I' H', Sub I I' → W I' H' X → LW K I' H' a t n ad R rows s M) ∧ (∀ I' H' p o, Sub I I' → W I' H' ((p, o) :: X) → LW K I' H' a t n ad R rows s ((p, o) :: M)) ∧ ∀ p o, Ls I M p o → Ls I X p o := by
  obtain ⟨L, ao, ⟨sc, zs, lz, w⟩, l1, l2⟩ := h
  refine ⟨_, w, fun I' H' sb w' => ⟨L, ao.mono sb, ⟨sc.mono sb, zs, lz, w'⟩, l1.mono sb, l2.mono sb⟩, fun I' H' p o sb w' => ⟨L, ao.mono sb, ⟨sc.mono sb, zs, lz, w'.perm ?_⟩, (l1.mono sb).cons, (l2.mono sb).cons⟩, fun p o h => h.elim .inl fun h => .inr (List.mem_cons_of_mem _ (List.mem_append_right _ h))⟩
  have e := (List.perm_middle (a := (p, o)) (l₁ := (t, HO.lst zs) :: L) (l₂ := M))
  exact e
theorem LW.m_best {l : Addr} {rs : List Tx} {qr : Tx} {k : Int} (h : LW K I H a t n ad R rows s M) (hl : I l = some (.lst (rs.map sV))) (ro : rowsOk rs) (okq : okL 12 qr = true) (k0 : 0 ≤ k) (q : ∀ (I' H' : Hp) (p : Addr), Sub I I' → LW K I' H' a t n ad R rows s M → I' p = some (.lst ((ansR rs qr k).map sV)) → Q (.ref p) H') : sp_best K [.ref l, sV qr, .int k] H Q E := by
  obtain ⟨X, w, b, _, _⟩ := h.wv
  exact ⟨I, X, l, rs, qr, k, rfl, w, Ls.i hl, ro, okq, k0, fun I' H' p sb w' hp => q I' H' p sb (b I' H' sb w') hp⟩
/-- [x for x in xs if ..] of texts -/
theorem LW.filt {l : Addr} {rs : List Tx} {p : Tx → Bool} {j : Nat} {tt : TT} {σ : L2.St} (h : LW K I H a t n ad R rows s M) (hl : I l = some (.lst (rs.map sV))) (hn : rs.length ≤ 1000000) (hj : ∀ x, wipe ((wipe σ [j]).set j x) [j] = wipe σ [j]) (hjj : ∀ x : V, ((wipe σ [j]).set j (some x))[j]? = some (some x))
    (ht : ∀ r ∈ rs, ∀ H' Q', Sub I H' → Q' (p r) H' → tt ((wipe σ [j]).set j (some (sV r))) H' Q') (hd : ∀ (I' H' : Hp) (D : Addr), Sub I I' → LW K I' H' a t n ad R rows s M → I' D = some (.lst ((rs.filter p).map sV)) → Q (.ref D) H') :
    CompW (fun H => H l = some (.lst (rs.map sV))) (rs.map sV).length (fun i x => (rs.map sV)[i]? = some x) (gName j) tt (tVar j) [j] σ H Q := by
  obtain ⟨X, w, _, b, _⟩ := h.wv
  have e : (rs.map fun r => ((sV r : V), r)).map Prod.fst = rs.map sV := by rw [List.map_map]; rfl
  have := comp_filter (zs := rs.map fun r => ((sV r : V), r)) (p := fun z => p z.2) (src := fun H => H l = some (.lst (rs.map sV))) (j := j) (tt := tt) (σ := σ) (Q := Q) w (by rw [List.length_map]; exact hn) hj hjj (fun D o H' w' => w'.sub _ _ hl) (fun z hz D o H' Q' w' q' => ?_) (fun D H' w' => ?_)
  · rw [e] at this; exact this
  · obtain ⟨r, hr, rfl⟩ := List.mem_map.mp hz
    exact ht r hr H' Q' w'.sub q'
  · have e2 : ((rs.map fun r => ((sV r : V), r)).filter fun z => p z.2).map Prod.fst = (rs.filter p).map sV := by
      rw [List.filter_map, List.map_map]; rfl
    rw [e2] at w'
    have lw := b I H' D _ (Sub.refl _) w'
    obtain ⟨I2, s2, lw2, h2⟩ := lw.frz h.l1 h.l2
    exact hd I2 H' D s2 lw2 h2
end
end TA

set_option linter.all false
set_option maxRecDepth 100000
set_option maxHeartbeats 1000000
/-! Stores, delays, rules that are drawn; roads, shelves, askers that are made. -/
namespace TA
open PySem L2 PyProof.Rows
open SX (S S_len S_inj S_cat S_tl)
local macro_rules | `(tactic| simp! [$as,*]) => `(tactic| first | simp only [L2.start, tSeq, tAsg, tOp, fFld, tVar, gIxL, gIxT, tCB, tCons, tNil, gLenL, gLenT, gLenS, rI, rI0, fSet, tIfS, tTest, tB, rNotN, rIsN, rEq, rNe, tC, tDrop, fBM, fBM0, gTy, rAppend, tTup, tLst, tRet, tRetN, tNext, gName, fTup, gCons, gNil, tCall, fCallS, fMeth, tMeth, fMethS, fMake, tMake, fMakeS, tUn, rU, tAnd, tOr, tNot, tAndV, tOrV, tNotV, tIf, tChain, gListL, gListT, tSl, tNoPart, tPart, gSlL, fRaise, gStrI, gCatS, gMin2, gMax2, gIntB, tYes, fLcL, fLcT, fLcS, fLcR1, fForL, fForR1, fForR2, fRev, fGetI, gGetI, gInI, gLenI, fPutI, fNewI,
  List.map_cons, List.map_nil, List.length_cons, List.length_nil, List.replicate, List.cons_append, List.nil_append, List.append_nil, List.getElem?_cons_zero, List.getElem?_cons_succ, List.set_cons_zero, List.set_cons_succ, reduceIte, Bool.not_true, Bool.not_false, Nat.reduceAdd, Nat.reduceSub, Bool.false_eq_true, eq_self,
  Option.some.injEq, V.int.injEq, V.ref.injEq, V.str.injEq, V.bl.injEq, HO.ins.injEq, HO.lst.injEq, HO.tup.injEq, HO.dK.injEq, List.cons.injEq, and_assoc, exists_eq_left', exists_and_left, and_true, true_and, true_or, or_true, false_or, or_false, exists_eq_left, exists_eq_right, exists_eq_right', exists_eq, exists_eq', exists_const, upd_same, sc_ii, sc_ss, sc_bb, sc_in, sc_ni, sc_ns, sc_sn, sc_nn, $as,*] | skip)
/-- a comprehension whose turns draw -/
theorem comp_draw {β : Type} {K : PySem.W.Frag} {src : Hp → Prop} {N : Nat} {item : Nat → V → Prop} {g : TG} {tt : TT} {te : TE} {vs : List Nat} {σ : Sl} {H : Hp} {Q : VK} {I : Hp} {M : List (Addr × HO)} {a t : Addr} {n0 : Nat} (c : Nat) (Rel : Hp → V → β → Prop) (mono : ∀ {I I' : Hp} {v : V} {b : β}, Sub I I' → Rel I v b → Rel I' v b)
    (d : Dr K I H a t n0 M) (hN : N ≤ 1000) (hsrc : ∀ I' D acc m H', Sub I I' → Dr K I' H' a t m ((D, .lst acc) :: M) → src H')
    (turn : ∀ D i x acc I' H' (T : VK) (F : Hp → Prop), i < N → item i x → Sub I I' → Dr K I' H' a t (n0 + c * i) ((D, .lst acc) :: M) → (∀ I4 H4 y b, Sub I' I4 → Rel I4 y b → Dr K I4 H4 a t (n0 + c * i + c) ((D, .lst acc) :: M) → T y H4) →
      g x (wipe σ vs) H' fun σ2 H2 => wipe σ2 vs = wipe σ vs ∧ tt σ2 H2 fun b H3 => if b = true then te σ2 H3 T else F H3)
    (fin : ∀ I' D H' (zs : List (V × β)), Sub I I' → zs.length = N → (∀ z ∈ zs, Rel I' z.1 z.2) → Dr K I' H' a t (n0 + c * N) ((D, .lst (zs.map Prod.fst)) :: M) → Q (.ref D) H') : CompW src N item g tt te vs σ H Q := by
  obtain ⟨sc, tz, lz, w⟩ := d
  refine ⟨I, _, fun i I' acc M' => ∃ (tz : List V) (zs : List (V × β)), M' = (t, .lst tz) :: M ∧ tz.length ≤ n0 + c * i ∧ acc = zs.map Prod.fst ∧ zs.length = i ∧ ∀ z ∈ zs, Rel I' z.1 z.2, w, by omega, ⟨tz, [], rfl, lz, rfl, rfl, by simp⟩, ?_, ?_, ?_⟩
  · rintro i I' acc M' D H' ⟨tz, zs, rfl, h1, rfl, h3, h4⟩ sb w'
    exact hsrc I' D _ _ H' sb ⟨sc.mono sb, tz, h1, w'.swap⟩
  · rintro D i x H' I' acc M' hi hx sb w' ⟨tz, zs, rfl, h1, rfl, h3, h4⟩ _
    refine turn D i x _ I' H' _ _ hi hx sb ⟨sc.mono sb, tz, h1, w'.swap⟩ fun I4 H4 y b s4 r4 d4 => ?_
    obtain ⟨sc4, tz4, lz4, w4⟩ := d4
    refine nxt s4 w4.swap ⟨tz4, zs ++ [(y, b)], rfl, by rw [Nat.mul_succ]; omega, by simp, by simp [h3], fun z hz => ?_⟩
    rcases List.mem_append.mp hz with q | q
    · exact mono s4 (h4 z q)
    · rw [List.mem_singleton.mp q]; exact r4
  · rintro D H' I' acc M' sb w' ⟨tz, zs, rfl, h1, rfl, h3, h4⟩ _
    exact fin I' D H' zs sb h3 h4 ⟨sc.mono sb, tz, h1, w'.swap⟩
def sp__law_store (K : PySem.W.Frag) : Sp := fun vs H Q _ => ∃ (I : Hp) (M : List (Addr × HO)) (p : Addr) (rows : List Tx), vs = [.ref p] ∧ W I H M ∧ Ls I M p (.lst (rows.map sV)) ∧ (∀ r ∈ rows, okL 15 r = true ∧ foldL r ≠ []) ∧ rows.Nodup ∧ rows.length ≤ 12 ∧
  ∀ (H' : Hp) (x dx r : Addr), W I H' ((x, oStore K dx r) :: (r, .lst (rows.map sV)) :: M) → Q (.ref x) H'
def sp__law_delays (K : PySem.W.Frag) : Sp := fun vs H Q _ => ∃ (I : Hp) (a t : Addr) (n : Nat) (M : List (Addr × HO)) (kind : Bool), vs = [.ref a, .ref t, .bl kind] ∧ Dr K I H a t n M ∧ n < 900000 ∧
  ∀ (I' H' : Hp) (p : Addr) (ds : List (Option Int)), Sub I I' → 1 ≤ ds.length → ds.length ≤ 8 → (∀ x ∈ ds, delOk x = true) → (kind = true → ∀ x ∈ ds, x ≠ none) → Dr K I' H' a t (n + 10) M → I' p = some (.lst (ds.map delV)) → Q (.ref p) H'
def sp__law_rules (K : PySem.W.Frag) : Sp := fun vs H Q _ => ∃ (I : Hp) (a t : Addr) (n : Nat) (M : List (Addr × HO)), vs = [.ref a, .ref t] ∧ Dr K I H a t n M ∧ n < 900000 ∧
  ∀ (I' H' : Hp) (p : Addr) (m pa ak pt : Int), Sub I I' → 1 ≤ m → m ≤ 6 → 0 ≤ pa → pa ≤ 9 → 1 ≤ ak → ak ≤ 3 → 1 ≤ pt → pt ≤ 40 → Dr K I' H' a t (n + 5) M → I' p = some (.tup [.int m, .int pa, .int ak, .int pt]) → Q (.ref p) H'
def t__law_store (K : PySem.W.Frag) (E : XK) : TS := tSeq (tAsg (fMake (He.ga K "Store") (sp_Store___init__ K) E (tNil)) (gName 1)) (tSeq (fForL (tVar 0) (gName 2) (tDrop (fMeth (He.ga K "Store") "add" (sp_Store_add K) E (tVar 1) (tCons (tVar 2) (tNil))))) (tRet (tVar 1)))
abbrev nn__law_store : List Str := ["rows", "found", "row"]
def t__law_delays (K : PySem.W.Frag) (E : XK) : TS := tSeq (tAsg (tOp (rCat) (tLst (tCons (tOp (rI0 fun i j => .int (i + j)) (tC (.int 1)) (tCall (sp__law_draw K) [] E (tCons (tVar 0) (tCons (tVar 1) (tCons (tC (.int 30)) (tNil)))))) (tCons (tC (.int 1)) (tCons (tC (.int 3)) (tCons (tC (.int 30)) (tNil)))))) (tOp (rRep) (tLst (tCons (tC .non) (tNil))) (tCB (gIntB) (tCons (tNotV (tVar 2)) (tNil))))) (gName 3)) (tRet (fLcR1 (tCons (tOp (rI0 fun i j => .int (i + j)) (tC (.int 1)) (tCall (sp__law_draw K) [] E (tCons (tVar 0) (tCons (tVar 1) (tCons (tC (.int 8)) (tNil)))))) (tNil)) (gName 4) (tYes) (tCall (sp__law_pick K) [] E0 (tCons (tVar 0) (tCons (tVar 1) (tCons (tVar 3) (tNil))))) [4]))
abbrev nn__law_delays : List Str := ["script", "town", "is_kind", "some", "k"]
def t__law_rules (K : PySem.W.Frag) (E : XK) : TS := tRet (tTup (tCons (tOp (rI0 fun i j => .int (i + j)) (tC (.int 1)) (tCall (sp__law_draw K) [] E (tCons (tVar 0) (tCons (tVar 1) (tCons (tC (.int 6)) (tNil)))))) (tCons (tCall (sp__law_draw K) [] E (tCons (tVar 0) (tCons (tVar 1) (tCons (tC (.int 10)) (tNil))))) (tCons (tOp (rI0 fun i j => .int (i + j)) (tC (.int 1)) (tCall (sp__law_draw K) [] E (tCons (tVar 0) (tCons (tVar 1) (tCons (tC (.int 3)) (tNil)))))) (tCons (tCall (sp__law_pick K) [] E (tCons (tVar 0) (tCons (tVar 1) (tCons (tLst (tCons (tC (.int 1)) (tCons (tC (.int 5)) (tCons (tC (.int 40)) (tCons (tOp (rI0 fun i j => .int (i + j)) (tC (.int 1)) (tCall (sp__law_draw K) [] E (tCons (tVar 0) (tCons (tVar 1) (tCons (tC (.int 40)) (tNil)))))) (tNil)))))) (tNil))))) (tNil))))))
abbrev nn__law_rules : List Str := ["script", "town"]
section
variable {K : PySem.W.Frag}
theorem len__law_store : ∀ vs H Q E, sp__law_store K vs H Q E → vs.length = ["rows"].length := by
  rintro _ _ _ _ ⟨_, _, _, _, rfl, _⟩; rfl
theorem len__law_delays : ∀ vs H Q E, sp__law_delays K vs H Q E → vs.length = ["script", "town", "is_kind"].length := by
  rintro _ _ _ _ ⟨_, _, _, _, _, _, rfl, _⟩; rfl
theorem len__law_rules : ∀ vs H Q E, sp__law_rules K vs H Q E → vs.length = ["script", "town"].length := by
  rintro _ _ _ _ ⟨_, _, _, _, _, rfl, _⟩; rfl
theorem add_none' {rows : List Tx} {i : Nat} {r : Tx} (ro : ∀ r ∈ rows, okL 15 r = true ∧ foldL r ≠ []) (nd : rows.Nodup) (hl : rows.length ≤ 12) (h : rows[i]? = some r) : addE (rows.take i) r = none ∧ addR (rows.take i) r = rows.take (i + 1) := by
  have hr := ro r (List.mem_of_getElem? h)
  have hi := (List.getElem?_eq_some_iff.mp h).1
  have h1 : r ∉ rows.take i := by
    intro hm
    obtain ⟨j, hj, e⟩ := List.mem_take_iff_getElem.mp hm
    have := nodup_ix_any nd (show rows[j]? = some r by rw [List.getElem?_eq_getElem (by omega), e]) h
    omega
  have e : addE (rows.take i) r = none := by
    unfold addE
    rw [if_neg, if_neg]
    · rw [List.length_take]; omega
    · simp only [not_or]
      exact ⟨by rw [okL_le hr.1 (by decide)]; simp, hr.2, h1⟩
  refine ⟨e, ?_⟩
  unfold addR
  rw [e, if_pos rfl, take_succ_get h]
structure PSto (K : PySem.W.Frag) (I : Hp) (p x dx r : Addr) (rows : List Tx) (M : List (Addr × HO)) (i : Nat) (σ : L2.St) (H : Hp) : Prop where
  ex : ∃ (v : Option V), σ = [some (.ref p), some (.ref x), v] ∧ W I H ((x, oStore K dx r) :: (r, .lst ((rows.take i).map sV)) :: M)
theorem pure__law_store : ∀ vs H Q E, sp__law_store K vs H Q E → t__law_store K E { nx := fun _ H2 => Q .non H2, rt := Q } (L2.start nn__law_store vs) H := by
  rintro vs H Q E ⟨I, M, p, rows, rfl, w, lp, ro, nd, rl, hQ⟩
  unfold t__law_store
  simp! [and_true]
  intro x dx hx hdx ne
  have w2 := w.skip (o := .own x) hdx
  have hx1 : upd H dx (.own x) x = none := by rw [upd_ne (Ne.symm ne)]; exact hx
  have w3 := w2.newM (o := .ins (He.ga K "Store") dx []) hx1
  refine ⟨I, _, x, dx, rfl, w3, fun H4 r w4 => ⟨rfl, ?_⟩⟩
  have hp4 := lp.cons.cons.at w4
  simp! [hp4]
  refine ⟨PSto K I p x dx r rows M, ⟨_, rfl, w4⟩, ?_, ?_, ?_⟩
  · rintro i σ H' _ ⟨v, rfl, w'⟩
    exact lp.cons.cons.at w'
  · rintro i y σ H' hy ⟨v, rfl, w'⟩
    rw [List.getElem?_map, Option.map_eq_some_iff] at hy
    obtain ⟨row, hrow, rfl⟩ := hy
    obtain ⟨e1, e2⟩ := add_none' ro nd rl hrow
    have lr := okL_len (ro row (List.mem_of_getElem? hrow)).1
    simp! [and_true]
    refine ⟨_, _, w'.has.1, no_Store_add, ?_⟩
    refine ⟨I, _, x, dx, r, rows.take i, row, rfl, w', by rw [List.length_take]; omega, by omega, fun H2 w2 => ?_⟩
    rw [e1]
    rw [e2] at w2
    exact ⟨_, rfl, w2⟩
  · rintro σ H5 ⟨v, rfl, w5⟩
    rw [List.length_map, List.take_length] at w5
    simp! [and_true]
    exact hQ H5 x dx r w5
theorem pure__law_rules : ∀ vs H Q E, sp__law_rules K vs H Q E → t__law_rules K E { nx := fun _ H2 => Q .non H2, rt := Q } (L2.start nn__law_rules vs) H := by
  rintro vs H Q E ⟨I, a, t, n, M, rfl, d, hn, hQ⟩
  unfold t__law_rules
  simp! [and_true]
  refine ⟨I, a, t, n, M, 6, rfl, d, by omega, by decide, fun d1 H1 a1 b1 D1 => ?_⟩
  simp! [and_true]
  refine ⟨I, a, t, _, M, 10, rfl, D1, by omega, by decide, fun d2 H2 a2 b2 D2 => ?_⟩
  simp! [and_true]
  refine ⟨I, a, t, _, M, 3, rfl, D2, by omega, by decide, fun d3 H3 a3 b3 D3 => ?_⟩
  simp! [and_true]
  refine ⟨I, a, t, _, M, 40, rfl, D3, by omega, by decide, fun d4 H4 a4 b4 D4 => ?_⟩
  simp! [and_true]
  have hb := line_big
  refine ⟨by omega, fun l hl => ?_⟩
  have D5 := D4.newI (o := .lst [V.int 1, V.int 5, V.int 40, V.int (1 + d4)]) hl
  have s5 := Sub.new (o := .lst [V.int 1, V.int 5, V.int 40, V.int (1 + d4)]) (D4.noI hl)
  refine ⟨_, a, t, l, _, M, _, rfl, D5, by omega, fun H' h => h.elim (fun d => d.sub _ _ upd_same) (fun d => d.sub _ _ upd_same), by simp, fun y H6 hy D6 => ?_⟩
  have hy : ∃ k : Int, y = .int k ∧ 1 ≤ k ∧ k ≤ 40 := by
    simp only [List.mem_cons, List.mem_nil_iff, or_false] at hy
    rcases hy with rfl | rfl | rfl | rfl
    · exact ⟨_, rfl, by decide, by decide⟩
    · exact ⟨_, rfl, by decide, by decide⟩
    · exact ⟨_, rfl, by decide, by decide⟩
    · exact ⟨_, rfl, by omega, by omega⟩
  obtain ⟨k, rfl, k1, k2⟩ := hy
  refine ⟨by omega, fun v hv => ?_⟩
  have D7 := D6.newI (o := .tup [V.int (1 + d1), V.int d2, V.int (1 + d3), V.int k]) hv
  have s7 := Sub.new (o := .tup [V.int (1 + d1), V.int d2, V.int (1 + d3), V.int k]) (D6.noI hv)
  exact hQ _ _ v (1 + d1) d2 (1 + d3) k (s5.trans s7) (by omega) (by omega) (by omega) (by omega) (by omega) (by omega) k1 k2 D7 upd_same
theorem pure__law_delays : ∀ vs H Q E, sp__law_delays K vs H Q E → t__law_delays K E { nx := fun _ H2 => Q .non H2, rt := Q } (L2.start nn__law_delays vs) H := by
  rintro vs H Q E ⟨I, a, t, n, M, kind, rfl, d, hn, hQ⟩
  have hb := line_big
  unfold t__law_delays
  simp! [and_true]
  refine ⟨I, a, t, n, M, 30, rfl, d, by omega, by decide, fun d1 H1 a1 b1 D1 => ?_⟩
  simp! [and_true]
  refine ⟨by omega, fun l1 hl1 => ?_⟩
  have D2 := D1.newM (o := .lst [V.int (1 + d1), V.int 1, V.int 3, V.int 30]) hl1
  refine ⟨by omega, fun l2 hl2 => ?_⟩
  have D3 := D2.newM (o := .lst [V.non]) hl2
  have hk : ∃ xs : List (Option Int), (List.replicate (if (!kind) = true then (1 : Int) else 0).toNat [V.non]).flatten = xs.map delV ∧ (∀ x ∈ xs, x = none ∧ kind = false) ∧ xs.length ≤ 1 := by
    cases kind with
    | true => exact ⟨[], rfl, by simp, by simp⟩
    | false => exact ⟨[none], rfl, by simp, by simp⟩
  obtain ⟨xs, e1, e2, e3⟩ := hk
  refine ⟨l2, _, _, rfl, rfl, D3.has.1, by cases kind <;> decide, by cases kind <;> decide, by cases kind <;> simp <;> omega, fun l3 hl3 => ?_⟩
  rw [e1]
  have D4 := D3.newM (o := .lst (xs.map delV)) hl3
  refine ⟨l1, l3, _, _, rfl, rfl, D4.has.2.2.1, D4.has.1, by simp; omega, fun l4 hl4 => ?_⟩
  have e4 : [V.int (1 + d1), V.int 1, V.int 3, V.int 30] ++ xs.map delV = ([some (1 + d1), some 1, some 3, some 30] ++ xs).map delV := by rw [List.map_append]; rfl
  rw [e4]
  have D5 := (D4.newI (o := .lst (([some (1 + d1), some 1, some 3, some 30] ++ xs).map delV)) hl4).drop.drop.drop
  have s5 := Sub.new (o := .lst (([some (1 + d1), some 1, some 3, some 30] ++ xs).map delV)) (D4.noI hl4)
  refine ⟨_, a, t, _, M, 8, rfl, D5, by omega, by decide, fun d2 H2 a2 b2 D6 => ⟨_, rfl, by omega, by omega, ?_⟩⟩
  generalize hI5 : upd I l4 _ = I5 at D6 s5
  have hl5 : I5 l4 = some (.lst (([some (1 + d1), some 1, some 3, some 30] ++ xs).map delV)) := by rw [← hI5, upd_same]
  refine comp_draw (β := Option Int) 1 (fun _ v b => v = delV b ∧ delOk b = true ∧ (kind = true → b ≠ none)) (fun _ h => h) D6 (by omega) (fun _ _ _ _ _ _ _ => trivial) ?_ ?_
  · rintro D i x acc I' H' T F hi rfl sb D7 kT
    simp! [wipe]
    refine ⟨I', a, t, l4, _, _, _, rfl, D7, by omega, fun H' h => h.elim (fun d => d.sub _ _ (sb _ _ hl5)) (fun d => d.sub _ _ (sb _ _ hl5)), by simp, fun y H8 hy D8 => ?_⟩
    obtain ⟨b, hb', rfl⟩ := List.mem_map.mp hy
    refine kT I' H8 _ b (Sub.refl _) ⟨rfl, ?_, ?_⟩ D8
    · rcases List.mem_append.mp hb' with q | q
      · simp only [List.mem_cons, List.mem_nil_iff, or_false] at q
        rcases q with rfl | rfl | rfl | rfl
        · simp [delOk]; omega
        · decide
        · decide
        · decide
      · rw [(e2 b q).1]; rfl
    · intro hk
      rcases List.mem_append.mp hb' with q | q
      · simp only [List.mem_cons, List.mem_nil_iff, or_false] at q
        rcases q with rfl | rfl | rfl | rfl <;> simp
      · rw [(e2 b q).2] at hk; cases hk
  · intro I' D H' zs sb hzl hz D7
    have e5 : zs.map Prod.fst = (zs.map Prod.snd).map delV := by
      rw [List.map_map]
      exact List.map_congr_left fun z hzz => (hz z hzz).1
    rw [e5] at D7
    have D8 := D7.freeze
    have s8 := Sub.new (o := .lst ((zs.map Prod.snd).map delV)) (D7.out (D, _) List.mem_cons_self)
    refine hQ _ _ D (zs.map Prod.snd) (s5.trans (sb.trans s8)) (by rw [List.length_map]; omega) (by rw [List.length_map]; omega) (fun x hx => ?_) (fun hk x hx => ?_) (D8.le (by omega)) upd_same
    · obtain ⟨z, hzz, rfl⟩ := List.mem_map.mp hx; exact (hz z hzz).2.1
    · obtain ⟨z, hzz, rfl⟩ := List.mem_map.mp hx; exact (hz z hzz).2.2 hk
end
/-! ### what is made -/
section
variable {K : PySem.W.Frag} {I H : Hp} {M : List (Addr × HO)} {Q : Addr → Hp → Prop} {E : XK}
theorem mk_shelf {most term : Int} (w : W I H M) (ok : shelfOk most term = true) (q : ∀ (I' H' : Hp) (x dsh : Addr) (o : HO), Sub I I' → W I' H' ((x, o) :: M) → ShO K I' dsh most term [] o → Q x H') :
    ∀ x dx, H x = none → H dx = none → dx ≠ x → sp_Shelf___init__ K [.ref x, .int most, .int term] (upd (upd H dx (.own x)) x (.ins (He.ga K "Shelf") dx [])) (fun v H2 => v = .non ∧ Q x H2) E := by
  intro x dx hx hdx ne
  have w1 := w.skip (o := .own x) hdx
  have hx1 : upd H dx (.own x) x = none := by rw [upd_ne (Ne.symm ne)]; exact hx
  have w2 := w1.newM (o := .ins (He.ga K "Shelf") dx []) hx1
  exact ⟨I, _, x, dx, most, term, rfl, w2, fun _ I' H' o s' w' so => ⟨rfl, q I' H' x dx o s' w' so⟩, fun e => by rw [ok] at e; cases e⟩
theorem mk_road {l : Addr} {ds : List (Option Int)} (w : W I H M) (hl : I l = some (.lst (ds.map delV))) (ok : roadOk ds = true) (hd : ds.length ≤ 100) (q : ∀ (I' H' : Hp) (x drd d u : Addr), Sub I I' → W I' H' ((x, oRoad K drd d 0 u) :: (u, .lst []) :: M) → I' d = some (.lst (ds.map delV)) → Q x H') :
    ∀ x dx, H x = none → H dx = none → dx ≠ x → sp_Road___init__ K [.ref x, .ref l] (upd (upd H dx (.own x)) x (.ins (He.ga K "Road") dx [])) (fun v H2 => v = .non ∧ Q x H2) E := by
  intro x dx hx hdx ne
  have w1 := w.skip (o := .own x) hdx
  have hx1 : upd H dx (.own x) x = none := by rw [upd_ne (Ne.symm ne)]; exact hx
  have w2 := w1.newM (o := .ins (He.ga K "Road") dx []) hx1
  refine ⟨I, _, x, dx, l, ds, rfl, w2, fun I' H' o s' w' => w'.sub _ _ (s' _ _ hl), hd, fun _ I' H' d u s' rw' => ⟨rfl, ?_⟩, fun e => by rw [ok] at e; cases e⟩
  obtain ⟨w', hd', _⟩ := rw'
  exact q I' H' x dx d u s' w' hd'
/-- a new asker -/
theorem mk_asker {a t st rd sh drd d u dsh dst r : Addr} {o : HO} {R : Rul} {rows : List Tx} {n : Nat} (dr : Dr K I H a t n ((rd, oRoad K drd d 0 u) :: (u, .lst []) :: (sh, o) :: M)) (hd : I d = some (.lst (R.ds.map delV))) (so : ShO K I dsh R.most R.term [] o) (l1 : Ls I M st (oStore K dst r)) (l2 : Ls I M r (.lst (rows.map sV))) (ok : rulesOk R = true)
    (q : ∀ (I' H' : Hp) (ad : Ad), Sub I I' → ad.st = st → ad.r = r → ad.dst = dst → LW K I' H' a t n ad R rows S0 M → Q ad.x H') :
    ∀ x dx, H x = none → H dx = none → dx ≠ x → sp_Asker___init__ K [.ref x, .ref st, .ref rd, .ref sh, .int R.many, .int R.pause, .int R.asks, .int R.pat] (upd (upd H dx (.own x)) x (.ins (He.ga K "Asker") dx [])) (fun v H2 => v = .non ∧ Q x H2) E := by
  intro x dx hx hdx ne
  obtain ⟨sc, zs, lz, w⟩ := dr
  have w1 := w.skip (o := .own x) hdx
  have hx1 : upd H dx (.own x) x = none := by rw [upd_ne (Ne.symm ne)]; exact hx
  have w2 := w1.newM (o := .ins (He.ga K "Asker") dx []) hx1
  refine ⟨I, (t, .lst zs) :: M, x, dx, st, rd, sh, drd, d, u, dsh, dst, r, o, R, rows, rfl, W.sel [_, _, _, _, _] w2 [0, 2, 3, 4, 1], hd, so, l1.cons, l2.cons, fun _ I' H' pa pf pl sb aw => ⟨rfl, ?_⟩, fun e => by rw [ok] at e; cases e⟩
  obtain ⟨L, ao, w', _, _⟩ := aw
  exact q I' H' ⟨x, dx, pa, pf, pl, rd, drd, d, sh, dsh, st, dst, r⟩ sb rfl rfl rfl ⟨L, ao, ⟨sc.mono sb, zs, lz, w'.perm List.perm_middle.symm⟩, l1.mono sb, l2.mono sb⟩
end
end TA

set_option linter.all false
set_option maxRecDepth 100000
set_option maxHeartbeats 1000000
/-! Askers, plain: what holds between two calls. -/
namespace TA
open PySem L2 PyProof.Rows
/-- asks and their texts; P: the asks that were not told yet -/
structure InvA (P : List (Int × Int × Tx)) (s : AS) : Prop where
  af : ∀ p ∈ s.asked, foldL p.2 = foldL s.now
  au : ∀ x ∈ P, ∀ p ∈ s.asked, p.1 = x.2.1 → p.2 = x.2.2
  pn : ∀ x ∈ P, x.2.1 ≤ s.sent
  an : ∀ p ∈ s.asked, p.1 ≤ s.sent
  one : s.asked.length ≤ 1
  da : s.due = true → s.asked = []
section
variable {R : Rul} {s : AS} {P : List (Int × Int × Tx)} {rows : List Tx}
theorem drop_none (s : AS) : (dropS s none).asked = [] := by
  unfold dropS; simp
theorem InvA.sub (h : InvA P s) {l : List (Int × Tx)} (hl : l.Sublist s.asked) : (∀ p ∈ l, foldL p.2 = foldL s.now) ∧ (∀ x ∈ P, ∀ p ∈ l, p.1 = x.2.1 → p.2 = x.2.2) ∧ (∀ p ∈ l, p.1 ≤ s.sent) ∧ l.length ≤ 1 :=
  ⟨fun p hp => h.af p (hl.subset hp), fun x hx p hp => h.au x hx p (hl.subset hp), fun p hp => h.an p (hl.subset hp), Nat.le_trans hl.length_le h.one⟩
theorem InvA.show (h : InvA P s) (rs : List Tx) : InvA P (showS s rs) := by
  have e : (showS s rs).asked = [] := drop_none _
  exact ⟨by simp [e], by simp [e], h.pn, by simp [e], by simp [e], fun _ => e⟩
theorem InvA.near (h : InvA P s) : InvA P (nearS R s) := by
  unfold nearS
  split
  · exact { h with da := fun z => by cases z }
  · split
    · rename_i one _
      exact InvA.show (s := { s with ks := useK s.ks one }) ⟨h.af, h.au, h.pn, h.an, h.one, h.da⟩ _
    · split
      · exact h
      · split
        · exact h
        · split
          · exact { h with }
          · exact { h with }
theorem InvA.ask (h : InvA s.uw s) : InvA (askS R s).uw (askS R s) := by
  unfold askS
  split
  · rename_i c
    have e := h.da c.1
    refine ⟨?_, ?_, ?_, ?_, ?_, fun z => by cases z⟩
    · intro p hp
      simp only [e, List.nil_append, List.mem_singleton] at hp
      rw [hp]
    · intro x hx p hp hn
      simp only [e, List.nil_append, List.mem_singleton] at hp
      rw [hp]
      rcases (show x ∈ s.uw ∨ x.2.2 = s.now from sendU_mem hx) with q | q
      · have := h.pn x q
        rw [hp] at hn
        simp only [nextN] at hn; omega
      · rw [q]
    · intro x hx
      simp only [] at hx ⊢
      unfold sendU at hx
      split at hx
      · have := h.pn x hx; omega
      · rcases List.mem_append.mp hx with q | q
        · have := h.pn x q; omega
        · rw [List.mem_singleton.mp q]; simp only []; omega
    · intro p hp
      simp only [e, List.nil_append, List.mem_singleton] at hp
      rw [hp]; simp only [nextN]; omega
    · simp [e]
  · exact h
theorem InvA.put (h : InvA s.uw s) (t : Tx) : InvA (putS R s t).uw (putS R s t) := by
  unfold putS
  have near_uw : ∀ s : AS, (nearS R s).uw = s.uw := fun s => by
    unfold nearS; split
    · rfl
    · split
      · rfl
      · split
        · rfl
        · split
          · rfl
          · split <;> rfl
  refine InvA.ask ?_
  rw [near_uw]
  refine InvA.near ?_
  split
  · rename_i c
    exact { h with af := fun p hp => (h.af p hp).trans c.symm }
  · rename_i c
    have e : s.asked.filter (fun p => decide (some (foldL p.2) = some (foldL t))) = [] := by
      rw [List.filter_eq_nil_iff]
      intro p hp
      rw [h.af p hp]
      simpa using fun z => c z.symm
    refine ⟨?_, ?_, h.pn, ?_, ?_, ?_⟩ <;> simp only [dropS, e]
    · simp
    · simp
    · simp
    · simp
    · simp
theorem near_uw (R : Rul) (s : AS) : (nearS R s).uw = s.uw := by
  unfold nearS; split
  · rfl
  · split
    · rfl
    · split
      · rfl
      · split
        · rfl
        · split <;> rfl
theorem come_uw (R : Rul) (rows : List Tx) (s : AS) (n : Int) (q : Tx) : (comeS R rows s n q).uw = s.uw := by
  rw [comeS_eq]; split
  · rfl
  · rw [near_uw]; rfl
theorem lost_uw (R : Rul) (s : AS) (n : Int) : (lostS R s n).uw = s.uw := by
  unfold lostS; split
  · simp only []; split <;> rfl
  · rfl
theorem InvA.come {x : Int × Int × Tx} (h : InvA (x :: P) s) : InvA P (comeS R rows s x.2.1 x.2.2) := by
  have h' : InvA P s := { h with au := fun y hy => h.au y (List.mem_cons_of_mem _ hy), pn := fun y hy => h.pn y (List.mem_cons_of_mem _ hy) }
  rw [comeS_eq]; split
  · refine InvA.show ?_ _
    obtain ⟨a, b, c, d⟩ := h'.sub (l := s.asked.filter fun p => !decide (p.1 = x.2.1)) List.filter_sublist
    exact ⟨a, b, h'.pn, c, d, fun z => by show (s.asked.filter fun p => !decide (p.1 = x.2.1)) = []; rw [h'.da z]; rfl⟩
  · refine InvA.near ?_
    exact { h' with }
theorem InvA.comes : ∀ {l : List (Int × Int × Tx)} {s : AS}, InvA (l ++ P) s → InvA P (comeAll R rows s l)
  | [], _, h => h
  | x :: l, s, h => InvA.comes (l := l) (InvA.come h)
theorem InvA.lost (h : InvA P s) (n : Int) : InvA P (lostS R s n) := by
  obtain ⟨a, b, c, d⟩ := h.sub (l := s.asked.filter fun p => !decide (p.1 = n)) List.filter_sublist
  unfold lostS; split
  · simp only []; split
    · rename_i hc
      obtain ⟨p, hp, e⟩ := List.any_eq_true.mp hc
      have e1 : (s.asked.filter fun p => !decide (p.1 = n)) = [] := by
        have := filter_len_lt (p := fun p : Int × Tx => !decide (p.1 = n)) hp (by simpa using e)
        have := h.one
        exact List.eq_nil_of_length_eq_zero (by omega)
      exact ⟨a, b, h.pn, c, d, fun _ => e1⟩
    · exact { h with }
  · exact h
theorem InvA.losts : ∀ {l : List Int} {s : AS}, InvA P s → InvA P (l.foldl (lostS R) s)
  | [], _, h => h
  | x :: l, _, h => InvA.losts (l := l) (h.lost x)
theorem comes_uw (R : Rul) (rows : List Tx) : ∀ (l : List (Int × Int × Tx)) (s : AS), (comeAll R rows s l).uw = s.uw
  | [], _ => rfl
  | x :: l, s => (comes_uw R rows l (comeS R rows s x.2.1 x.2.2)).trans (come_uw R rows s _ _)
theorem losts_uw (R : Rul) : ∀ (l : List Int) (s : AS), (l.foldl (lostS R) s).uw = s.uw
  | [], _ => rfl
  | x :: l, s => (losts_uw R l (lostS R s x)).trans (lost_uw R s x)
theorem InvA.tick0 (h : InvA s.uw s) : InvA (dueU (s.time + 1) s.uw ++ (tick0 s).uw) (tick0 s) := by
  have hm : ∀ x ∈ dueU (s.time + 1) s.uw ++ (TA.tick0 s).uw, x ∈ s.uw := fun x hx => by
    rcases List.mem_append.mp hx with q | q
    · exact (mem_due.mp q).1
    · exact (List.mem_filter.mp q).1
  exact { h with au := fun x hx => h.au x (hm x hx), pn := fun x hx => h.pn x (hm x hx) }
theorem InvA.step (h : InvA s.uw s) : InvA (stepS R rows s).uw (stepS R rows s) := by
  unfold stepS
  refine InvA.ask ?_
  have e : (againT R (comeAll R rows (TA.tick0 s) (dueU (s.time + 1) s.uw))).uw = (TA.tick0 s).uw := by
    unfold againT; rw [losts_uw, comes_uw]
  rw [e]
  exact InvA.losts (InvA.comes h.tick0)
theorem InvA.tick : ∀ {n : Nat} {s : AS}, InvA s.uw s → InvA (tickS R rows n s).uw (tickS R rows n s)
  | 0, _, h => h
  | n + 1, _, h => InvA.tick (n := n) h.step
theorem InvA.again (h : InvA s.uw s) (e : againE s = false) : InvA (againS R s).uw (againS R s) := by
  unfold againE at e
  rw [Bool.or_eq_false_iff] at e
  have ea : s.asked = [] := by have := e.2; simpa using this
  unfold againS
  refine InvA.ask ?_
  exact { h with da := fun _ => ea }
end
/-! ### what is shown, while the store stays -/
/-- what is shown was answered -/
def ShPre (rows : List Tx) (n : Int) : Option (Tx × List Tx × Bool) → Prop
  | none => True
  | some (k, rs, old) => okL 12 k = true ∧ foldL k = k ∧ (∀ r ∈ rs, r ∈ ansR rows k n) ∧ (old = false → rs = ansR rows k n)
/-- and fits what stands typed -/
def ShOk (rows : List Tx) (n : Int) (now : Tx) : Option (Tx × List Tx × Bool) → Prop
  | none => True
  | some (k, rs, old) => foldL now ≠ [] ∧ (old = false → k = foldL now) ∧ (old = true → rs ≠ [] ∧ bestL rs now = rs ∧ rs.length ≤ n.toNat)
structure Fr (rows : List Tx) (R : Rul) (s : AS) : Prop where
  fk : ∀ k ∈ s.ks, Faith rows R.many k
  pre : ShPre rows R.many s.shown
  ok : ShOk rows R.many s.now s.shown
theorem ansR_congr {rows : List Tx} {q q' : Tx} {n : Int} (h : foldL q = foldL q') : ansR rows q n = ansR rows q' n := by unfold ansR; rw [best_congr rows h]
section
variable {R : Rul} {s : AS} {rows : List Tx}
theorem Fr.showA {q : Tx} (hn : foldL s.now ≠ []) (okn : okL 12 s.now = true) (fk : ∀ k ∈ s.ks, Faith rows R.many k) (h : foldL q = foldL s.now) : Fr rows R (showS s (ansR rows q R.many)) := by
  refine ⟨fk, ⟨fold_okL okn, fold_idem _, fun r hr => ?_, fun _ => ?_⟩, ⟨hn, fun _ => rfl, fun z => by cases z⟩⟩
  · rw [ansR_congr (q := foldL s.now) (q' := q) ((fold_idem _).trans h.symm)]; exact hr
  · exact ansR_congr (h.trans (fold_idem _).symm)
theorem Fr.near (okn : okL 12 s.now = true) (n0 : 0 ≤ R.many) (fk : ∀ k ∈ s.ks, Faith rows R.many k) (pre : ShPre rows R.many s.shown) : Fr rows R (nearS R s) := by
  unfold nearS
  split
  · exact ⟨fk, trivial, trivial⟩
  · rename_i hn
    split
    · rename_i one e
      have e1 := told_get n0 fk e
      rw [e1]
      exact Fr.showA (s := { s with ks := useK s.ks one }) hn okn (faith_use fk (src_mem e)) rfl
    · split
      · rename_i e
        exact ⟨fk, by rw [e]; trivial, by rw [e]; trivial⟩
      · rename_i k rs old e
        rw [e] at pre
        obtain ⟨p1, p2, p3, p4⟩ := pre
        split
        · rename_i c
          unfold freshS at c
          rw [e] at c
          simp only [Bool.and_eq_true, decide_eq_true_eq] at c
          refine ⟨fk, by rw [e]; exact ⟨p1, p2, p3, p4⟩, ?_⟩
          rw [e]
          exact ⟨hn, fun _ => c.1, fun z => by rw [z] at c; simp at c⟩
        · split
          · exact ⟨fk, trivial, trivial⟩
          · rename_i hne
            refine ⟨fk, ⟨p1, p2, fun r hr => p3 r (mem_best.mp (List.mem_of_mem_take hr)).1, fun z => by cases z⟩, ⟨hn, (fun z => by cases z), fun _ => ⟨hne, ?_, ?_⟩⟩⟩
            · unfold ansR
              exact best_take rs s.now _
            · unfold ansR
              rw [List.length_take]; omega
theorem Fr.ask (h : Fr rows R s) : Fr rows R (askS R s) := by
  unfold askS; split
  · exact ⟨h.fk, h.pre, h.ok⟩
  · exact h
theorem Fr.put (h : Fr rows R s) (n0 : 0 ≤ R.many) {t : Tx} (ht : okL 12 t = true) : Fr rows R (putS R s t) := by
  unfold putS
  refine Fr.ask (Fr.near ht n0 ?_ ?_)
  · split
    · exact h.fk
    · exact h.fk
  · split
    · exact h.pre
    · exact h.pre
theorem come_now (R : Rul) (rows : List Tx) (s : AS) (n : Int) (q : Tx) : (comeS R rows s n q).now = s.now := by
  have : ∀ s : AS, (nearS R s).now = s.now := fun s => by
    unfold nearS; split
    · rfl
    · split
      · rfl
      · split
        · rfl
        · split
          · rfl
          · split <;> rfl
  rw [comeS_eq]; split
  · rfl
  · rw [this]; rfl
theorem Fr.come {x : Int × Int × Tx} {P : List (Int × Int × Tx)} (h : Fr rows R s) (i : InvA (x :: P) s) (okn : okL 12 s.now = true) (n0 : 0 ≤ R.many) (hx : okL 12 x.2.2 = true) (hne : foldL s.now = [] → s.asked = []) : Fr rows R (comeS R rows s x.2.1 x.2.2) := by
  have fk : ∀ k ∈ putK R.most s.ks (foldL x.2.2, ansR rows x.2.2 R.many, ansA rows x.2.2 R.many, s.time), Faith rows R.many k := faith_put h.fk ⟨x.2.2, hx, rfl, rfl, rfl⟩
  rw [comeS_eq]; split
  · rename_i c
    obtain ⟨p, hp, e⟩ := List.any_eq_true.mp c
    have e := of_decide_eq_true e
    have e1 := i.au x List.mem_cons_self p hp e
    have e2 := i.af p hp
    rw [e1] at e2
    refine Fr.showA (s := came0 R rows s x.2.1 x.2.2) (fun z => ?_) okn fk e2
    rw [hne z] at hp; cases hp
  · exact Fr.near okn n0 fk h.pre
/-- nothing typed, nothing asked -/
def NoE (s : AS) : Prop := foldL s.now = [] → s.asked = [] ∧ s.due = false
theorem NoE.near (h : NoE s) : NoE (nearS R s) := by
  unfold nearS
  split
  · rename_i c; exact fun _ => ⟨(h c).1, rfl⟩
  · rename_i c
    split
    · exact fun z => absurd z c
    · split
      · exact h
      · split
        · exact h
        · split <;> exact fun z => absurd z c
theorem NoE.ask (h : NoE s) : NoE (askS R s) := by
  unfold askS; split
  · rename_i c
    intro z
    have := (h z).2
    rw [this] at c
    exact absurd c.1 (by decide)
  · exact h
theorem NoE.put {t : Tx} (h : NoE s) (i : InvA s.uw s) : NoE (putS R s t) := by
  unfold putS
  refine NoE.ask (NoE.near ?_)
  split
  · rename_i c
    intro z
    exact h (c ▸ z)
  · rename_i c
    intro z
    have z : foldL t = [] := z
    refine ⟨?_, by simp [z]⟩
    show s.asked.filter (fun p => decide (some (foldL p.2) = some (foldL t))) = []
    rw [List.filter_eq_nil_iff]
    intro p hp
    rw [i.af p hp]
    simpa using fun z => c z.symm
theorem NoE.come {x : Int × Int × Tx} (h : NoE s) : NoE (comeS R rows s x.2.1 x.2.2) := by
  rw [comeS_eq]; split
  · rename_i c
    intro z
    obtain ⟨p, hp, e⟩ := List.any_eq_true.mp c
    rw [(h z).1] at hp; cases hp
  · exact NoE.near h
theorem NoE.lost (h : NoE s) (n : Int) : NoE (lostS R s n) := by
  unfold lostS; split
  · simp only []; split
    · rename_i c
      intro z
      obtain ⟨p, hp, e⟩ := List.any_eq_true.mp c
      have z : foldL s.now = [] := z
      rw [(h z).1] at hp; cases hp
    · exact h
  · exact h
theorem NoE.losts : ∀ {l : List Int} {s : AS}, NoE s → NoE (l.foldl (lostS R) s)
  | [], _, h => h
  | x :: l, _, h => NoE.losts (l := l) (h.lost x)
theorem comes_now (R : Rul) (rows : List Tx) : ∀ (l : List (Int × Int × Tx)) (s : AS), (comeAll R rows s l).now = s.now
  | [], _ => rfl
  | x :: l, s => (comes_now R rows l (comeS R rows s x.2.1 x.2.2)).trans (come_now R rows s _ _)
theorem Fr.comes : ∀ {l P : List (Int × Int × Tx)} {s : AS}, Fr rows R s → InvA (l ++ P) s → NoE s → okL 12 s.now = true → 0 ≤ R.many → (∀ x ∈ l, okL 12 x.2.2 = true) → Fr rows R (comeAll R rows s l) ∧ NoE (comeAll R rows s l)
  | [], _, _, h, _, n, _, _, _ => ⟨h, n⟩
  | x :: l, P, s, h, i, n, okn, n0, hx => Fr.comes (l := l) (P := P) (h.come i okn n0 (hx x List.mem_cons_self) fun z => (n z).1) (InvA.come i) n.come (by rw [come_now]; exact okn) n0 fun y hy => hx y (List.mem_cons_of_mem _ hy)
theorem lost_sh (R : Rul) (s : AS) (n : Int) : (lostS R s n).shown = s.shown ∧ (lostS R s n).now = s.now ∧ (lostS R s n).ks = s.ks := by
  unfold lostS; split
  · simp only []; split <;> exact ⟨rfl, rfl, rfl⟩
  · exact ⟨rfl, rfl, rfl⟩
theorem losts_sh (R : Rul) : ∀ (l : List Int) (s : AS), (l.foldl (lostS R) s).shown = s.shown ∧ (l.foldl (lostS R) s).now = s.now ∧ (l.foldl (lostS R) s).ks = s.ks
  | [], _ => ⟨rfl, rfl, rfl⟩
  | x :: l, s => by
    obtain ⟨a, b, c⟩ := losts_sh R l (lostS R s x)
    obtain ⟨d, e, f⟩ := lost_sh R s x
    exact ⟨a.trans d, b.trans e, c.trans f⟩
theorem Fr.losts {l : List Int} (h : Fr rows R s) : Fr rows R (l.foldl (lostS R) s) := by
  obtain ⟨a, b, c⟩ := losts_sh R l s
  exact ⟨by rw [c]; exact h.fk, by rw [a]; exact h.pre, by rw [a, b]; exact h.ok⟩
theorem Fr.step (h : Fr rows R s) (i : InvA s.uw s) (n : NoE s) (ok : OkS R 0 s) : Fr rows R (stepS R rows s) ∧ NoE (stepS R rows s) := by
  have h0 : Fr rows R (tick0 s) := ⟨h.fk, h.pre, h.ok⟩
  obtain ⟨a, b⟩ := Fr.comes (l := dueU (s.time + 1) s.uw) h0 i.tick0 (s := tick0 s) n ok.now ok.n0 fun x hx => ok.qu x (mem_due.mp hx).1
  exact ⟨Fr.ask (Fr.losts a), NoE.ask (NoE.losts b)⟩
theorem Fr.tick (ro : rowsOk rows) : ∀ {m : Nat} {s : AS}, Fr rows R s → InvA s.uw s → NoE s → OkS R 0 s → Fr rows R (tickS R rows m s) ∧ NoE (tickS R rows m s)
  | 0, _, h, _, n, _ => ⟨h, n⟩
  | m + 1, s, h, i, n, ok => Fr.tick ro (m := m) (h.step i n ok).1 i.step (h.step i n ok).2 (ok.step ro)
/-- all of it -/
structure Good (rows : List Tx) (R : Rul) (s : AS) : Prop where
  ok : OkS R 0 s
  ia : InvA s.uw s
  fr : Fr rows R s
  ne : NoE s
theorem Good.put (h : Good rows R s) {t : Tx} (ht : okL 12 t = true) : Good rows R (putS R s t) := ⟨h.ok.put ht, h.ia.put t, h.fr.put h.ok.n0 ht, h.ne.put h.ia⟩
theorem Good.tick (h : Good rows R s) (ro : rowsOk rows) (m : Nat) : Good rows R (tickS R rows m s) := ⟨h.ok.tick ro, h.ia.tick, (h.fr.tick ro h.ia h.ne h.ok).1, (h.fr.tick ro h.ia h.ne h.ok).2⟩
theorem again_ks {P : List (Int × Int × Tx)} : (againS R s).ks = [] := by unfold againS askS; split <;> rfl
theorem Good.again (h : Good rows R s) (e : againE s = false) : Good rows R (againS R s) := by
  refine ⟨h.ok.again, h.ia.again e, Fr.ask ⟨by simp, h.fr.pre, h.fr.ok⟩, ?_⟩
  unfold againE at e
  rw [Bool.or_eq_false_iff] at e
  have e1 : foldL s.now ≠ [] := by have := e.1; simpa using this
  exact NoE.ask fun z => absurd z e1
end
end TA

set_option linter.all false
set_option maxRecDepth 100000
set_option maxHeartbeats 2000000
/-! More for the laws of askers. -/
namespace TA
open PySem L2 PyProof.Rows
open SX (S S_len S_inj S_cat S_tl num_S)
local macro_rules | `(tactic| simp! [$as,*]) => `(tactic| first | simp only [L2.start, tSeq, tAsg, tOp, fFld, tVar, gIxL, gIxT, tCB, tCons, tNil, gLenL, gLenT, gLenS, rI, rI0, fSet, tIfS, tTest, tB, rNotN, rIsN, rEq, rNe, tC, tDrop, fBM, fBM0, gTy, rAppend, tTup, tLst, tRet, tRetN, tNext, gName, fTup, gCons, gNil, tCall, fCallS, fMeth, tMeth, fMethS, fMake, tMake, fMakeS, tUn, rU, tAnd, tOr, tNot, tAndV, tOrV, tNotV, tIf, tChain, gListL, gListT, tSl, tNoPart, tPart, gSlL, fRaise, gStrI, gCatS, gMin2, gMax2, gIntB, tYes, fLcL, fLcT, fLcS, fLcR1, fForL, fForR1, fForR2, fRev, fGetI, gGetI, gInI, gLenI, fPutI, fNewI,
  List.map_cons, List.map_nil, List.length_cons, List.length_nil, List.replicate, List.cons_append, List.nil_append, List.append_nil, List.getElem?_cons_zero, List.getElem?_cons_succ, List.set_cons_zero, List.set_cons_succ, reduceIte, Bool.not_true, Bool.not_false, Nat.reduceAdd, Nat.reduceSub, Bool.false_eq_true, eq_self,
  Option.some.injEq, V.int.injEq, V.ref.injEq, V.str.injEq, V.bl.injEq, HO.ins.injEq, HO.lst.injEq, HO.tup.injEq, HO.dK.injEq, List.cons.injEq, and_assoc, exists_eq_left', exists_and_left, and_true, true_and, true_or, or_true, false_or, or_false, exists_eq_left, exists_eq_right, exists_eq_right', exists_eq, exists_eq', exists_const, upd_same, sc_ii, sc_ss, sc_bb, sc_in, sc_ni, sc_ns, sc_sn, sc_nn, $as,*] | skip)
section
variable {K : PySem.W.Frag}
theorem good0 {rows : List Tx} {R : Rul} (h : rulesOk R = true) (hd : R.ds ≠ []) (hm : 0 ≤ R.most ∧ R.most ≤ 6) : Good rows R S0 := by
  unfold rulesOk at h
  simp only [Bool.and_eq_true, decide_eq_true_eq] at h
  refine ⟨⟨h.1, hd, hm, by omega, rfl, by simp [S0], by simp [S0], by simp [S0], by simp [S0], by simp [S0], by simp [S0], by simp [S0], by simp [S0], by simp [S0], by simp [S0]⟩, ⟨by simp [S0], by simp [S0], by simp [S0], by simp [S0], by simp [S0], by simp [S0]⟩, ⟨by simp [S0], trivial, trivial⟩, fun _ => ⟨rfl, rfl⟩⟩
theorem view_cases {rows : List Tx} {R : Rul} {s : AS} (h : Fr rows R s) : (s.shown = none ∧ viewW s = [110, 111, 116, 104, 105, 110, 103] ∧ viewK s = [] ∧ viewR s = []) ∨
    (foldL s.now ≠ [] ∧ viewW s = [102, 114, 101, 115, 104] ∧ viewK s = foldL s.now ∧ viewR s = ansR rows s.now R.many) ∨
    (foldL s.now ≠ [] ∧ viewW s = [111, 108, 100] ∧ okL 12 (viewK s) = true ∧ viewR s ≠ [] ∧ bestL (viewR s) s.now = viewR s ∧ (viewR s).length ≤ R.many.toNat ∧ ∀ r ∈ viewR s, r ∈ ansR rows (viewK s) R.many) := by
  obtain ⟨fk, pre, ok⟩ := h
  unfold viewW viewK viewR freshS
  cases hs : s.shown with
  | none => exact .inl ⟨rfl, rfl, rfl, rfl⟩
  | some v =>
    obtain ⟨k, rs, old⟩ := v
    rw [hs] at pre ok
    obtain ⟨p1, p2, p3, p4⟩ := pre
    obtain ⟨o1, o2, o3⟩ := ok
    right
    cases old with
    | false =>
      left
      have e := o2 rfl
      refine ⟨o1, ?_, e, ?_⟩
      · simp [e]
      · rw [p4 rfl]; exact ansR_congr (by rw [p2, e])
    | true =>
      right
      obtain ⟨q1, q2, q3⟩ := o3 rfl
      exact ⟨o1, by simp, p1, q1, q2, q3, p3⟩
theorem at2_0 {a b : V} : atI [a, b] 0 = some a := atN (i := 0) rfl
theorem d_list (l : List Tx) : (PyData.list (l.map sD)).depth ≤ 50 := Nat.le_trans (depth_list (k := 0) fun d hd => by obtain ⟨z, _, rfl⟩ := List.mem_map.mp hd; simp [PyData.depth]) (by decide)
theorem d_tup2 (x : Tx) (l : List Tx) : (PyData.tuple [sD x, .list (l.map sD)]).depth ≤ 50 := by
  refine Nat.le_trans (depth_tuple (k := 1) fun d hd => ?_) (by decide)
  simp only [List.mem_cons, List.mem_nil_iff, or_false] at hd
  rcases hd with rfl | rfl
  · simp [PyData.depth]
  · exact depth_list (k := 0) fun d hd => by obtain ⟨z, _, rfl⟩ := List.mem_map.mp hd; simp [PyData.depth]
theorem rp_tx {H : Hp} {l : Addr} {rs : List Tx} (h : H l = some (.lst (rs.map sV))) : Rp H (.ref l) (.list (rs.map sD)) := .lst h (rpAll_tx _)
theorem tickOk_of {k : Int} (h0 : 0 ≤ k) (h1 : k ≤ 100) : tickOk k = true := decide_eq_true ⟨h0, h1⟩
theorem AskW.wv {I H : Hp} {a : Ad} {R : Rul} {rows : List Tx} {s : AS} {M : List (Addr × HO)} (h : AskW K I H a R rows s M) : ∃ X, W I H X ∧ ∀ I' H', Sub I I' → W I' H' X → AskW K I' H' a R rows s M := by
  obtain ⟨L, ao, w, l1, l2⟩ := h
  exact ⟨_, w, fun I' H' sb w' => ⟨L, ao.mono sb, w', l1.mono sb, l2.mono sb⟩⟩
theorem d_lgs (l : List Lg) : (PyData.list (l.map lgD)).depth ≤ 50 := Nat.le_trans (depth_list (k := 1) fun d hd => by
  obtain ⟨z, _, rfl⟩ := List.mem_map.mp hd
  cases z <;> simp [lgD, PyData.depth, PyData.depthAll]) (by decide)
theorem LW.hd {I H : Hp} {a t p : Addr} {o : HO} {n : Nat} {ad : Ad} {R : Rul} {rows : List Tx} {s : AS} {M : List (Addr × HO)} (h : LW K I H a t n ad R rows s ((p, o) :: M)) : H p = some o := by
  obtain ⟨L, ao, ⟨sc, zs, lz, w⟩, l1, l2⟩ := h
  exact has_mem w.has (p, o) (List.mem_cons_of_mem _ (List.mem_append_right _ List.mem_cons_self))
section
variable {I H : Hp} {a t pd : Addr} {n : Nat} {ad : Ad} {R : Rul} {rows : List Tx} {s : AS} {M : List (Addr × HO)} {Q : VK} {E : XK} {lv : List V} {L : List Lg}
theorem LW.logtest (h : LW K I H a t n ad R rows s ((pd, .lst lv) :: M)) (r : RpAll I lv (L.map lgD)) (e : s.log = L) (q : ∀ I' H', Sub I I' → LW K I' H' a t n ad R rows s ((pd, .lst lv) :: M) → Q (.bl false) H') : sp_Asker_log K [.ref ad.x] H (fun x H1 => gNeD x (.ref pd) H1 Q) E :=
  h.m_log fun I' H' v sb lw rv => by
    rw [e] at rv
    exact neD_f (rv.mono lw.sub) (.lst lw.hd ((r.mono sb).mono lw.sub)) (d_lgs L) (q I' H' sb lw)
end
theorem lit_nothing' : sV [110, 111, 116, 104, 105, 110, 103] = V.str ("nothing" : Str) := by rw [lit_nothing]
section
variable {I I' H H' : Hp} {a t p : Addr} {o : HO} {n : Nat} {ad : Ad} {R : Rul} {rows : List Tx} {s : AS} {M M' : List (Addr × HO)}
theorem LW.perm (h : LW K I H a t n ad R rows s M) (e : M'.Perm M) : LW K I H a t n ad R rows s M' := by
  obtain ⟨L, ao, d, l1, l2⟩ := h
  exact ⟨L, ao, d.perm (e.append_left L), l1.elim .inl fun h => .inr (e.mem_iff.mpr h), l2.elim .inl fun h => .inr (e.mem_iff.mpr h)⟩
theorem LW.mem (h : LW K I H a t n ad R rows s M) (hm : (p, o) ∈ M) : H p = some o := by
  obtain ⟨L, ao, ⟨sc, zs, lz, w⟩, l1, l2⟩ := h
  exact has_mem w.has (p, o) (List.mem_cons_of_mem _ (List.mem_append_right _ hm))
end
def lgV : Lg → List V
  | .off n => [.str "off", .int n]
  | .came n => [.str "came", .int n]
  | .late n => [.str "late", .int n]
  | .lost n => [.str "lost", .int n]
  | .asked n key => [.str "asked", .int n, sV key]
theorem rp2 {I : Hp} {v : V} {a : Str} {n : Int} (h : Rp I v (.tuple [.str a, .int n])) : ∃ t, v = .ref t ∧ I t = some (.tup [.str a, .int n]) := by
  cases h with
  | tup h1 h2 =>
    cases h2 with
    | cons x1 h2 =>
      cases h2 with
      | cons x2 h2 =>
        cases h2; cases x1; cases x2
        exact ⟨_, rfl, h1⟩
theorem rp_lg {I : Hp} {v : V} {x : Lg} (h : Rp I v (lgD x)) : ∃ t, v = .ref t ∧ I t = some (.tup (lgV x)) := by
  cases x with
  | off n => exact rp2 h
  | came n => exact rp2 h
  | late n => exact rp2 h
  | lost n => exact rp2 h
  | asked n key =>
    cases h with
    | tup h1 h2 =>
      cases h2 with
      | cons x1 h2 =>
        cases h2 with
        | cons x2 h2 =>
          cases h2 with
          | cons x3 h2 =>
            cases h2; cases x1; cases x2; cases x3
            exact ⟨_, rfl, h1⟩
end
end TA

set_option linter.all false
set_option maxRecDepth 100000
set_option maxHeartbeats 2000000
/-! The law's own asker: a dict. -/
namespace TA
open PySem L2 PyProof.Rows
open SX (S S_len S_inj S_cat S_tl)
local macro_rules | `(tactic| simp! [$as,*]) => `(tactic| first | simp only [L2.start, tSeq, tAsg, tOp, fFld, tVar, gIxL, gIxT, tCB, tCons, tNil, gLenL, gLenT, gLenS, rI, rI0, fSet, tIfS, tTest, tB, rNotN, rIsN, rEq, rNe, tC, tDrop, fBM, fBM0, gTy, rAppend, tTup, tLst, tRet, tRetN, tNext, gName, fTup, gCons, gNil, tCall, fCallS, fMeth, tMeth, fMethS, fMake, tMake, fMakeS, tUn, rU, tAnd, tOr, tNot, tAndV, tOrV, tNotV, tIf, tChain, gListL, gListT, tSl, tNoPart, tPart, gSlL, fRaise, gStrI, gCatS, gMin2, gMax2, gIntB, tYes, fLcL, fLcT, fLcS, fLcR1, fForL, fForR1, fForR2, fRev, fGetI, gGetI, gInI, gLenI, fPutI, fNewI,
  List.map_cons, List.map_nil, List.length_cons, List.length_nil, List.replicate, List.cons_append, List.nil_append, List.append_nil, List.getElem?_cons_zero, List.getElem?_cons_succ, List.set_cons_zero, List.set_cons_succ, reduceIte, Bool.not_true, Bool.not_false, Nat.reduceAdd, Nat.reduceSub, Bool.false_eq_true, eq_self,
  Option.some.injEq, V.int.injEq, V.ref.injEq, V.str.injEq, V.bl.injEq, HO.ins.injEq, HO.lst.injEq, HO.tup.injEq, HO.dK.injEq, List.cons.injEq, and_assoc, exists_eq_left', exists_and_left, and_true, true_and, true_or, or_true, false_or, or_false, exists_eq_left, exists_eq_right, exists_eq_right', exists_eq, exists_eq', exists_const, upd_same, sc_ii, sc_ss, sc_bb, sc_in, sc_ni, sc_ns, sc_sn, sc_nn, $as,*] | skip)
def n_own : List Str := ["rows", "delays", "most", "term", "many", "pause", "asks", "patience", "time", "typed", "since", "due", "tries", "sent", "coming", "asked", "flying", "kept", "shown", "log"]
theorem nd_own : n_own.Nodup := by decide +kernel
section
variable {v0 v1 v2 v3 v4 v5 v6 v7 v8 v9 v10 v11 v12 v13 v14 v15 v16 v17 v18 v19 x : V}
theorem gk_own_rows : lkS (n_own.zip [v0, v1, v2, v3, v4, v5, v6, v7, v8, v9, v10, v11, v12, v13, v14, v15, v16, v17, v18, v19]) ("rows" : Str) = some v0 := lkS_zip 0 nd_own rfl rfl
theorem pk_own_rows : putS' ("rows" : Str) x (n_own.zip [v0, v1, v2, v3, v4, v5, v6, v7, v8, v9, v10, v11, v12, v13, v14, v15, v16, v17, v18, v19]) = n_own.zip [x, v1, v2, v3, v4, v5, v6, v7, v8, v9, v10, v11, v12, v13, v14, v15, v16, v17, v18, v19] := putS_zip 0 nd_own rfl
theorem gk_own_delays : lkS (n_own.zip [v0, v1, v2, v3, v4, v5, v6, v7, v8, v9, v10, v11, v12, v13, v14, v15, v16, v17, v18, v19]) ("delays" : Str) = some v1 := lkS_zip 1 nd_own rfl rfl
theorem pk_own_delays : putS' ("delays" : Str) x (n_own.zip [v0, v1, v2, v3, v4, v5, v6, v7, v8, v9, v10, v11, v12, v13, v14, v15, v16, v17, v18, v19]) = n_own.zip [v0, x, v2, v3, v4, v5, v6, v7, v8, v9, v10, v11, v12, v13, v14, v15, v16, v17, v18, v19] := putS_zip 1 nd_own rfl
theorem gk_own_most : lkS (n_own.zip [v0, v1, v2, v3, v4, v5, v6, v7, v8, v9, v10, v11, v12, v13, v14, v15, v16, v17, v18, v19]) ("most" : Str) = some v2 := lkS_zip 2 nd_own rfl rfl
theorem pk_own_most : putS' ("most" : Str) x (n_own.zip [v0, v1, v2, v3, v4, v5, v6, v7, v8, v9, v10, v11, v12, v13, v14, v15, v16, v17, v18, v19]) = n_own.zip [v0, v1, x, v3, v4, v5, v6, v7, v8, v9, v10, v11, v12, v13, v14, v15, v16, v17, v18, v19] := putS_zip 2 nd_own rfl
theorem gk_own_term : lkS (n_own.zip [v0, v1, v2, v3, v4, v5, v6, v7, v8, v9, v10, v11, v12, v13, v14, v15, v16, v17, v18, v19]) ("term" : Str) = some v3 := lkS_zip 3 nd_own rfl rfl
theorem pk_own_term : putS' ("term" : Str) x (n_own.zip [v0, v1, v2, v3, v4, v5, v6, v7, v8, v9, v10, v11, v12, v13, v14, v15, v16, v17, v18, v19]) = n_own.zip [v0, v1, v2, x, v4, v5, v6, v7, v8, v9, v10, v11, v12, v13, v14, v15, v16, v17, v18, v19] := putS_zip 3 nd_own rfl
theorem gk_own_many : lkS (n_own.zip [v0, v1, v2, v3, v4, v5, v6, v7, v8, v9, v10, v11, v12, v13, v14, v15, v16, v17, v18, v19]) ("many" : Str) = some v4 := lkS_zip 4 nd_own rfl rfl
theorem pk_own_many : putS' ("many" : Str) x (n_own.zip [v0, v1, v2, v3, v4, v5, v6, v7, v8, v9, v10, v11, v12, v13, v14, v15, v16, v17, v18, v19]) = n_own.zip [v0, v1, v2, v3, x, v5, v6, v7, v8, v9, v10, v11, v12, v13, v14, v15, v16, v17, v18, v19] := putS_zip 4 nd_own rfl
theorem gk_own_pause : lkS (n_own.zip [v0, v1, v2, v3, v4, v5, v6, v7, v8, v9, v10, v11, v12, v13, v14, v15, v16, v17, v18, v19]) ("pause" : Str) = some v5 := lkS_zip 5 nd_own rfl rfl
theorem pk_own_pause : putS' ("pause" : Str) x (n_own.zip [v0, v1, v2, v3, v4, v5, v6, v7, v8, v9, v10, v11, v12, v13, v14, v15, v16, v17, v18, v19]) = n_own.zip [v0, v1, v2, v3, v4, x, v6, v7, v8, v9, v10, v11, v12, v13, v14, v15, v16, v17, v18, v19] := putS_zip 5 nd_own rfl
theorem gk_own_asks : lkS (n_own.zip [v0, v1, v2, v3, v4, v5, v6, v7, v8, v9, v10, v11, v12, v13, v14, v15, v16, v17, v18, v19]) ("asks" : Str) = some v6 := lkS_zip 6 nd_own rfl rfl
theorem pk_own_asks : putS' ("asks" : Str) x (n_own.zip [v0, v1, v2, v3, v4, v5, v6, v7, v8, v9, v10, v11, v12, v13, v14, v15, v16, v17, v18, v19]) = n_own.zip [v0, v1, v2, v3, v4, v5, x, v7, v8, v9, v10, v11, v12, v13, v14, v15, v16, v17, v18, v19] := putS_zip 6 nd_own rfl
theorem gk_own_patience : lkS (n_own.zip [v0, v1, v2, v3, v4, v5, v6, v7, v8, v9, v10, v11, v12, v13, v14, v15, v16, v17, v18, v19]) ("patience" : Str) = some v7 := lkS_zip 7 nd_own rfl rfl
theorem pk_own_patience : putS' ("patience" : Str) x (n_own.zip [v0, v1, v2, v3, v4, v5, v6, v7, v8, v9, v10, v11, v12, v13, v14, v15, v16, v17, v18, v19]) = n_own.zip [v0, v1, v2, v3, v4, v5, v6, x, v8, v9, v10, v11, v12, v13, v14, v15, v16, v17, v18, v19] := putS_zip 7 nd_own rfl
theorem gk_own_time : lkS (n_own.zip [v0, v1, v2, v3, v4, v5, v6, v7, v8, v9, v10, v11, v12, v13, v14, v15, v16, v17, v18, v19]) ("time" : Str) = some v8 := lkS_zip 8 nd_own rfl rfl
theorem pk_own_time : putS' ("time" : Str) x (n_own.zip [v0, v1, v2, v3, v4, v5, v6, v7, v8, v9, v10, v11, v12, v13, v14, v15, v16, v17, v18, v19]) = n_own.zip [v0, v1, v2, v3, v4, v5, v6, v7, x, v9, v10, v11, v12, v13, v14, v15, v16, v17, v18, v19] := putS_zip 8 nd_own rfl
theorem gk_own_typed : lkS (n_own.zip [v0, v1, v2, v3, v4, v5, v6, v7, v8, v9, v10, v11, v12, v13, v14, v15, v16, v17, v18, v19]) ("typed" : Str) = some v9 := lkS_zip 9 nd_own rfl rfl
theorem pk_own_typed : putS' ("typed" : Str) x (n_own.zip [v0, v1, v2, v3, v4, v5, v6, v7, v8, v9, v10, v11, v12, v13, v14, v15, v16, v17, v18, v19]) = n_own.zip [v0, v1, v2, v3, v4, v5, v6, v7, v8, x, v10, v11, v12, v13, v14, v15, v16, v17, v18, v19] := putS_zip 9 nd_own rfl
theorem gk_own_since : lkS (n_own.zip [v0, v1, v2, v3, v4, v5, v6, v7, v8, v9, v10, v11, v12, v13, v14, v15, v16, v17, v18, v19]) ("since" : Str) = some v10 := lkS_zip 10 nd_own rfl rfl
theorem pk_own_since : putS' ("since" : Str) x (n_own.zip [v0, v1, v2, v3, v4, v5, v6, v7, v8, v9, v10, v11, v12, v13, v14, v15, v16, v17, v18, v19]) = n_own.zip [v0, v1, v2, v3, v4, v5, v6, v7, v8, v9, x, v11, v12, v13, v14, v15, v16, v17, v18, v19] := putS_zip 10 nd_own rfl
theorem gk_own_due : lkS (n_own.zip [v0, v1, v2, v3, v4, v5, v6, v7, v8, v9, v10, v11, v12, v13, v14, v15, v16, v17, v18, v19]) ("due" : Str) = some v11 := lkS_zip 11 nd_own rfl rfl
theorem pk_own_due : putS' ("due" : Str) x (n_own.zip [v0, v1, v2, v3, v4, v5, v6, v7, v8, v9, v10, v11, v12, v13, v14, v15, v16, v17, v18, v19]) = n_own.zip [v0, v1, v2, v3, v4, v5, v6, v7, v8, v9, v10, x, v12, v13, v14, v15, v16, v17, v18, v19] := putS_zip 11 nd_own rfl
theorem gk_own_tries : lkS (n_own.zip [v0, v1, v2, v3, v4, v5, v6, v7, v8, v9, v10, v11, v12, v13, v14, v15, v16, v17, v18, v19]) ("tries" : Str) = some v12 := lkS_zip 12 nd_own rfl rfl
theorem pk_own_tries : putS' ("tries" : Str) x (n_own.zip [v0, v1, v2, v3, v4, v5, v6, v7, v8, v9, v10, v11, v12, v13, v14, v15, v16, v17, v18, v19]) = n_own.zip [v0, v1, v2, v3, v4, v5, v6, v7, v8, v9, v10, v11, x, v13, v14, v15, v16, v17, v18, v19] := putS_zip 12 nd_own rfl
theorem gk_own_sent : lkS (n_own.zip [v0, v1, v2, v3, v4, v5, v6, v7, v8, v9, v10, v11, v12, v13, v14, v15, v16, v17, v18, v19]) ("sent" : Str) = some v13 := lkS_zip 13 nd_own rfl rfl
theorem pk_own_sent : putS' ("sent" : Str) x (n_own.zip [v0, v1, v2, v3, v4, v5, v6, v7, v8, v9, v10, v11, v12, v13, v14, v15, v16, v17, v18, v19]) = n_own.zip [v0, v1, v2, v3, v4, v5, v6, v7, v8, v9, v10, v11, v12, x, v14, v15, v16, v17, v18, v19] := putS_zip 13 nd_own rfl
theorem gk_own_coming : lkS (n_own.zip [v0, v1, v2, v3, v4, v5, v6, v7, v8, v9, v10, v11, v12, v13, v14, v15, v16, v17, v18, v19]) ("coming" : Str) = some v14 := lkS_zip 14 nd_own rfl rfl
theorem pk_own_coming : putS' ("coming" : Str) x (n_own.zip [v0, v1, v2, v3, v4, v5, v6, v7, v8, v9, v10, v11, v12, v13, v14, v15, v16, v17, v18, v19]) = n_own.zip [v0, v1, v2, v3, v4, v5, v6, v7, v8, v9, v10, v11, v12, v13, x, v15, v16, v17, v18, v19] := putS_zip 14 nd_own rfl
theorem gk_own_asked : lkS (n_own.zip [v0, v1, v2, v3, v4, v5, v6, v7, v8, v9, v10, v11, v12, v13, v14, v15, v16, v17, v18, v19]) ("asked" : Str) = some v15 := lkS_zip 15 nd_own rfl rfl
theorem pk_own_asked : putS' ("asked" : Str) x (n_own.zip [v0, v1, v2, v3, v4, v5, v6, v7, v8, v9, v10, v11, v12, v13, v14, v15, v16, v17, v18, v19]) = n_own.zip [v0, v1, v2, v3, v4, v5, v6, v7, v8, v9, v10, v11, v12, v13, v14, x, v16, v17, v18, v19] := putS_zip 15 nd_own rfl
theorem gk_own_flying : lkS (n_own.zip [v0, v1, v2, v3, v4, v5, v6, v7, v8, v9, v10, v11, v12, v13, v14, v15, v16, v17, v18, v19]) ("flying" : Str) = some v16 := lkS_zip 16 nd_own rfl rfl
theorem pk_own_flying : putS' ("flying" : Str) x (n_own.zip [v0, v1, v2, v3, v4, v5, v6, v7, v8, v9, v10, v11, v12, v13, v14, v15, v16, v17, v18, v19]) = n_own.zip [v0, v1, v2, v3, v4, v5, v6, v7, v8, v9, v10, v11, v12, v13, v14, v15, x, v17, v18, v19] := putS_zip 16 nd_own rfl
theorem gk_own_kept : lkS (n_own.zip [v0, v1, v2, v3, v4, v5, v6, v7, v8, v9, v10, v11, v12, v13, v14, v15, v16, v17, v18, v19]) ("kept" : Str) = some v17 := lkS_zip 17 nd_own rfl rfl
theorem pk_own_kept : putS' ("kept" : Str) x (n_own.zip [v0, v1, v2, v3, v4, v5, v6, v7, v8, v9, v10, v11, v12, v13, v14, v15, v16, v17, v18, v19]) = n_own.zip [v0, v1, v2, v3, v4, v5, v6, v7, v8, v9, v10, v11, v12, v13, v14, v15, v16, x, v18, v19] := putS_zip 17 nd_own rfl
theorem gk_own_shown : lkS (n_own.zip [v0, v1, v2, v3, v4, v5, v6, v7, v8, v9, v10, v11, v12, v13, v14, v15, v16, v17, v18, v19]) ("shown" : Str) = some v18 := lkS_zip 18 nd_own rfl rfl
theorem pk_own_shown : putS' ("shown" : Str) x (n_own.zip [v0, v1, v2, v3, v4, v5, v6, v7, v8, v9, v10, v11, v12, v13, v14, v15, v16, v17, v18, v19]) = n_own.zip [v0, v1, v2, v3, v4, v5, v6, v7, v8, v9, v10, v11, v12, v13, v14, v15, v16, v17, x, v19] := putS_zip 18 nd_own rfl
theorem gk_own_log : lkS (n_own.zip [v0, v1, v2, v3, v4, v5, v6, v7, v8, v9, v10, v11, v12, v13, v14, v15, v16, v17, v18, v19]) ("log" : Str) = some v19 := lkS_zip 19 nd_own rfl rfl
theorem pk_own_log : putS' ("log" : Str) x (n_own.zip [v0, v1, v2, v3, v4, v5, v6, v7, v8, v9, v10, v11, v12, v13, v14, v15, v16, v17, v18, v19]) = n_own.zip [v0, v1, v2, v3, v4, v5, v6, v7, v8, v9, v10, v11, v12, v13, v14, v15, v16, v17, v18, x] := putS_zip 19 nd_own rfl
theorem ll_own : (n_own.zip [v0, v1, v2, v3, v4, v5, v6, v7, v8, v9, v10, v11, v12, v13, v14, v15, v16, v17, v18, v19]).length < 1000 := by simp only [n_own, List.zip_cons_cons, List.zip_nil_right, List.length_cons, List.length_nil]; omega
end
macro "sm!" "[" as:Lean.Parser.Tactic.simpLemma,* "]" : tactic => `(tactic| simp! [fGetS, fPutS, dS_eq, gk_own_rows, pk_own_rows, gk_own_delays, pk_own_delays, gk_own_most, pk_own_most, gk_own_term, pk_own_term, gk_own_many, pk_own_many, gk_own_pause, pk_own_pause, gk_own_asks, pk_own_asks, gk_own_patience, pk_own_patience, gk_own_time, pk_own_time, gk_own_typed, pk_own_typed, gk_own_since, pk_own_since, gk_own_due, pk_own_due, gk_own_tries, pk_own_tries, gk_own_sent, pk_own_sent, gk_own_coming, pk_own_coming, gk_own_asked, pk_own_asked, gk_own_flying, pk_own_flying, gk_own_kept, pk_own_kept, gk_own_shown, pk_own_shown, gk_own_log, pk_own_log, ll_own, Option.isSome_some, $as,*])
structure OA where
  o : Addr
  pr : Addr
  dl : Addr
def oOwn (a : OA) (R : Rul) (s : AS) (ps pc pa pf pk pg : Addr) (vs : V) : HO :=
  dS (n_own.zip [.ref a.pr, .ref a.dl, .int R.most, .int R.term, .int R.many, .int R.pause, .int R.asks, .int R.pat, .int s.time, sV s.now, .int s.at_, .bl s.due, .int s.tries, .ref ps, .ref pc, .ref pa, .ref pf, .ref pk, vs, .ref pg])
def snD (x : Int × Tx) : PyData := .tuple [.int x.1, sD x.2]
def cmD (x : Int × Int × Tx) : PyData := .tuple [.int x.1, .int x.2.1]
abbrev nmA (s : AS) : HO := .lst (s.asked.map fun p => .int p.1)
abbrev nmF (s : AS) : HO := .lst (s.flying.map fun p => .int p.1)
structure OwW (I H : Hp) (a : OA) (R : Rul) (s : AS) (sn : List (Int × Tx)) (M : List (Addr × HO)) : Prop where
  ex : ∃ (ps pc pa pf pk pg : Addr) (vs : V) (sv cv kv lv : List V), W I H ((a.o, oOwn a R s ps pc pa pf pk pg vs) :: (ps, .lst sv) :: (pc, .lst cv) :: (pa, nmA s) :: (pf, nmF s) :: (pk, .lst kv) :: (pg, .lst lv) :: M) ∧
    I a.dl = some (.lst (R.ds.map delV)) ∧ RpAll I sv (sn.map snD) ∧ RpAll I cv (s.uw.map cmD) ∧ RpAll I kv (s.ks.map kpD) ∧ ShV I vs s.shown ∧ RpAll I lv (s.log.map lgD)
/-- few enough of all -/
structure OwS (s : AS) (sn : List (Int × Tx)) : Prop where
  now : okL 12 s.now = true
  al : s.asked.length ≤ 100000
  ul : s.uw.length ≤ 100000
  fl : s.flying.length ≤ 3
  kl : s.ks.length ≤ 6
  ll : s.log.length ≤ 100000
  sl : sn.length ≤ 100000
def sp__law_off (K : PySem.W.Frag) : Sp := fun vs H Q _ => ∃ (I : Hp) (M : List (Addr × HO)) (a : OA) (R : Rul) (s : AS) (sn : List (Int × Tx)), vs = [.ref a.o] ∧ OwW I H a R s sn M ∧ OwS s sn ∧ ∀ I' H', Sub I I' → OwW I' H' a R (dropS s none) sn M → Q .non H'
def sp__law_show (K : PySem.W.Frag) : Sp := fun vs H Q _ => ∃ (I : Hp) (M : List (Addr × HO)) (a : OA) (R : Rul) (s : AS) (sn : List (Int × Tx)) (l : Addr) (rs : List Tx), vs = [.ref a.o, .ref l] ∧ OwW I H a R s sn M ∧ OwS s sn ∧ I l = some (.lst (rs.map sV)) ∧ ∀ I' H', Sub I I' → OwW I' H' a R (showS s rs) sn M → Q .non H'
def t__law_off (K : PySem.W.Frag) (E : XK) : TS := tSeq (fPutS (tVar 0) "log" (tOp (rCat) (fGetS (tVar 0) "log") (fLcL (fGetS (tVar 0) "asked") (gName 1) (tYes) (tTup (tCons (tC (.str "off")) (tCons (tVar 1) (tNil)))) [1]))) (fPutS (tVar 0) "asked" (tLst (tNil)))
abbrev nn__law_off : List Str := ["own", "number"]
def t__law_show (K : PySem.W.Frag) (E : XK) : TS := tSeq (fPutS (tVar 0) "shown" (tTup (tCons (tCall (sp__law_folded K) [] E (tCons (fGetS (tVar 0) "typed") (tNil))) (tCons (tVar 1) (tCons (tC (.bl false)) (tNil)))))) (tSeq (fPutS (tVar 0) "due" (tC (.bl false))) (tDrop (tCall (sp__law_off K) [] E (tCons (tVar 0) (tNil)))))
abbrev nn__law_show : List Str := ["own", "rows"]
section
variable {K : PySem.W.Frag}
theorem len__law_off : ∀ vs H Q E, sp__law_off K vs H Q E → vs.length = ["own"].length := by
  rintro _ _ _ _ ⟨_, _, _, _, _, _, rfl, _⟩; rfl
theorem len__law_show : ∀ vs H Q E, sp__law_show K vs H Q E → vs.length = ["own", "rows"].length := by
  rintro _ _ _ _ ⟨_, _, _, _, _, _, _, _, rfl, _⟩; rfl
theorem RpAll.len {I : Hp} : ∀ {vs : List V} {ds : List PyData}, RpAll I vs ds → vs.length = ds.length
  | _, _, .nil => rfl
  | _, _, .cons _ t => by rw [List.length_cons, List.length_cons, RpAll.len t]
theorem RpAll.app {H : Hp} : ∀ {vs ws : List V} {ds es : List PyData}, RpAll H vs ds → RpAll H ws es → RpAll H (vs ++ ws) (ds ++ es)
  | _, _, _, _, .nil, h => h
  | _, _, _, _, .cons r t, h => .cons r (t.app h)
theorem dropN (s : AS) : dropS s none = { s with asked := [], log := s.log ++ s.asked.map fun p => Lg.off p.1 } := by
  unfold dropS
  have e1 : (s.asked.filter fun p => decide (some (foldL p.2) = none)) = [] := by rw [List.filter_eq_nil_iff]; simp
  have e2 : (s.asked.filter fun p => !decide (some (foldL p.2) = none)) = s.asked := List.filter_eq_self.mpr (by simp)
  rw [e1, e2]
theorem pure__law_off : ∀ vs H Q E, sp__law_off K vs H Q E → t__law_off K E { nx := fun _ H2 => Q .non H2, rt := Q } (L2.start nn__law_off vs) H := by
  rintro vs H Q E ⟨I, M, a, R, s, sn, rfl, ⟨ps, pc, pa, pf, pk, pg, vs, sv, cv, kv, lv, w, hdl, rs, rc, rk, sh, rl⟩, os, hQ⟩
  have hb := line_big
  have ha := os.al
  have hll := os.ll
  have lvl := rl.len
  rw [List.length_map] at lvl
  have hx := w.has.1
  have hpa := w.has.2.2.2.1
  unfold oOwn at hx
  unfold nmA at hpa
  unfold t__law_off
  sm! [hx, hpa]
  refine comp_data (fun p : Int × Tx => lgD (.off p.1)) (fun i => s.asked[i]?) w (by rw [List.length_map]; omega) (fun I' D acc H' sb w' => w'.has.2.2.2.2.1) ?_ ?_
  · rintro D i x acc I' H' T F hi hx' sb w' kT kF
    rw [List.getElem?_map, Option.map_eq_some_iff] at hx'
    obtain ⟨p, hp, rfl⟩ := hx'
    simp! [wipe]
    refine ⟨two_le, fun q hq => ?_⟩
    obtain ⟨I2, s2, w2, h2⟩ := w'.mkI hq (.tup [.str "off", .int p.1])
    exact kT I2 _ _ p hp s2 w2 (.tup h2 (.cons (.str _) (.cons (.int _) .nil)))
  · intro I1 D H1 ys s1 w1 en e
    have es : ys.map Prod.snd = s.asked := by
      rw [e, List.length_map]
      have := fm_list (l := s.asked) (out := fun i => s.asked[i]?) (g := some) fun i a h => h
      rw [this]; simp
    have hpg := w1.has.2.2.2.2.2.2.2.1
    have yl : ys.length = s.asked.length := by rw [← es, List.length_map]
    refine ⟨pg, D, lv, _, rfl, rfl, hpg, w1.has.1, by rw [List.length_map]; omega, fun p2 hp2 => ?_⟩
    have w2 := w1.newM (o := .lst (lv ++ ys.map Prod.fst)) hp2
    have hx2 := w2.has.2.2.1
    unfold oOwn at hx2
    sm! [hx2]
    refine ⟨Nat.zero_le _, fun p3 hp3 => ?_⟩
    have w3 := (W.put2 w2 (o' := oOwn a R s ps pc pa pf pk p2 vs)).newM (o := .lst []) hp3
    have hx3 := w3.has.2.2.2.1
    unfold oOwn at hx3
    sm! [hx3]
    have w4 := W.put3 w3 (o' := oOwn a R s ps pc p3 pf pk p2 vs)
    refine hQ I1 _ s1 ⟨ps, pc, p3, pf, pk, p2, vs, sv, cv, kv, lv ++ ys.map Prod.fst, ?_, s1 _ _ hdl, rs.mono s1, rc.mono s1, rk.mono s1, sh.mono s1, ?_⟩
    · rw [dropN]
      exact w4.sel [_, _, _, _, _, _, _, _, _, _] [3, 4, 5, 0, 7, 8, 1]
    · rw [dropN, List.map_append]
      refine (rl.mono s1).app ?_
      have := en.all
      have e9 : ys.map (fun z => lgD (Lg.off z.2.1)) = (s.asked.map fun p => Lg.off p.1).map lgD := by
        rw [← es, List.map_map, List.map_map]; rfl
      rw [e9] at this
      exact this
theorem pure__law_show : ∀ vs H Q E, sp__law_show K vs H Q E → t__law_show K E { nx := fun _ H2 => Q .non H2, rt := Q } (L2.start nn__law_show vs) H := by
  rintro vs H Q E ⟨I, M, a, R, s, sn, l, rs', rfl, ow, os, hl, hQ⟩
  obtain ⟨ps, pc, pa, pf, pk, pg, vs, sv, cv, kv, lv, w, hdl, rs, rc, rk, sh, rl⟩ := ow
  have hb := line_big
  have okn := os.now
  have ln := okL_len okn
  have hx := w.has.1
  unfold oOwn at hx
  unfold t__law_show
  sm! [hx]
  refine ⟨s.now, rfl, by omega, okL_all okn, fun H1 sm1 => ?_⟩
  have w1 := w.same sm1
  refine ⟨three_le, fun p2 hp2 => ?_⟩
  obtain ⟨I2, s2, w2, h2⟩ := w1.mkI hp2 (.tup [sV (foldL s.now), .ref l, .bl false])
  have hx2 := w2.has.1
  unfold oOwn at hx2
  sm! [hx2]
  have w3 := (w2.put (o' := oOwn a R s ps pc pa pf pk pg (.ref p2))).put (o' := oOwn a R { s with shown := some (foldL s.now, rs', false), due := false } ps pc pa pf pk pg (.ref p2))
  exact ⟨I2, M, a, R, { s with shown := some (foldL s.now, rs', false), due := false }, sn, rfl, ⟨ps, pc, pa, pf, pk, pg, .ref p2, sv, cv, kv, lv, w3, s2 _ _ hdl, rs.mono s2, rc.mono s2, rk.mono s2, ⟨p2, l, rfl, h2, s2 _ _ hl⟩, rl.mono s2⟩, ⟨os.now, os.al, os.ul, os.fl, os.kl, os.ll, os.sl⟩, fun I' H' s' ow' => hQ I' H' (s2.trans s') ow'⟩
end
end TA

set_option linter.all false
set_option maxRecDepth 100000
set_option maxHeartbeats 4000000
/-! The law's own asker: what is near. -/
namespace TA
open PySem L2 PyProof.Rows
open SX (S S_len S_inj S_cat S_tl)
local macro_rules | `(tactic| simp! [$as,*]) => `(tactic| first | simp only [L2.start, tSeq, tAsg, tOp, fFld, tVar, gIxL, gIxT, tCB, tCons, tNil, gLenL, gLenT, gLenS, rI, rI0, fSet, tIfS, tTest, tB, rNotN, rIsN, rEq, rNe, tC, tDrop, fBM, fBM0, gTy, rAppend, tTup, tLst, tRet, tRetN, tNext, gName, fTup, gCons, gNil, tCall, fCallS, fMeth, tMeth, fMethS, fMake, tMake, fMakeS, tUn, rU, tAnd, tOr, tNot, tAndV, tOrV, tNotV, tIf, tChain, gListL, gListT, tSl, tNoPart, tPart, gSlL, fRaise, gStrI, gCatS, gMin2, gMax2, gIntB, tYes, fLcL, fLcT, fLcS, fLcR1, fForL, fForR1, fForR2, fRev, fGetI, gGetI, gInI, gLenI, fPutI, fNewI,
  List.map_cons, List.map_nil, List.length_cons, List.length_nil, List.replicate, List.cons_append, List.nil_append, List.append_nil, List.getElem?_cons_zero, List.getElem?_cons_succ, List.set_cons_zero, List.set_cons_succ, reduceIte, Bool.not_true, Bool.not_false, Nat.reduceAdd, Nat.reduceSub, Bool.false_eq_true, eq_self,
  Option.some.injEq, V.int.injEq, V.ref.injEq, V.str.injEq, V.bl.injEq, HO.ins.injEq, HO.lst.injEq, HO.tup.injEq, HO.dK.injEq, List.cons.injEq, and_assoc, exists_eq_left', exists_and_left, and_true, true_and, true_or, or_true, false_or, or_false, exists_eq_left, exists_eq_right, exists_eq_right', exists_eq, exists_eq', exists_const, upd_same, sc_ii, sc_ss, sc_bb, sc_in, sc_ni, sc_ns, sc_sn, sc_nn, $as,*] | skip)
/-- what is kept of the law's own asker -/
structure OwK (R : Rul) (k : Nat) (s : AS) (sn : List (Int × Tx)) : Prop where
  ok : OkS R k s
  se : s.sent ≤ 30001
  nk : (s.ks.map (·.1)).Nodup
  ls : sn.length = s.sent
theorem OwK.os {R : Rul} {k : Nat} {s : AS} {sn : List (Int × Tx)} (h : OwK R k s sn) : OwS s sn := by
  have h1 := h.ok.lg
  have h2 := h.se
  have h3 := h.ls
  exact ⟨h.ok.now, by omega, by omega, h.ok.fl, h.ok.kl, by omega, by omega⟩
def sp__law_near (K : PySem.W.Frag) : Sp := fun vs H Q _ => ∃ (I : Hp) (M : List (Addr × HO)) (a : OA) (R : Rul) (s : AS) (sn : List (Int × Tx)) (k : Nat), vs = [.ref a.o] ∧ OwW I H a R s sn M ∧ OwK R k s sn ∧ ∀ I' H', Sub I I' → OwW I' H' a R (nearS R s) sn M → Q .non H'
def t__law_near_L1_0 (K : PySem.W.Frag) (E : XK) : TS := tSeq (tAsg (tOp gIxL (fGetS (tVar 0) "kept") (tVar 3)) (fTup 4 (gCons (gName 4) (gCons (gName 5) (gCons (gName 6) (gCons (gName 7) (gNil))))))) (tIfS (tAnd (tTest (tOp (rI0 fun i j => .bl (decide (i < j))) (tOp (rI0 fun i j => .int (i - j)) (fGetS (tVar 0) "time") (tVar 7)) (fGetS (tVar 0) "term"))) (tOr (tTest (tOp (rEq) (tVar 4) (tVar 1))) (tAnd (tB (tVar 6)) (tTest (tOp (rI0 fun i j => .bl (decide (j ≤ i))) (fBM "str" gFind (tVar 1) (tCons (tVar 4) (tNil))) (tC (.int 0))))))) (tDrop (fBM "list" rAppend (tVar 2) (tCons (tTup (tCons (tCB (gLenS) (tCons (tVar 4) (tNil))) (tCons (tOp (rI0 fun i j => .int (i - j)) (tC (.int 0)) (tVar 3)) (tCons (tVar 3) (tNil))))) (tNil)))) (tNext))
def t__law_near_B1_4 (K : PySem.W.Frag) (E : XK) : TS := tIfS (tTest (tOp (gNeD) (tVar 2) (tLst (tNil)))) (tSeq (tAsg (fBM "list" gPopAt (fGetS (tVar 0) "kept") (tCons (tOp gIxT (tCB (gMaxD) (tCons (tVar 2) (tNil))) (tC (.int 2))) (tNil))) (gName 8)) (tSeq (tDrop (fBM "list" rAppend (fGetS (tVar 0) "kept") (tCons (tVar 8) (tNil)))) (tDrop (tCall (sp__law_show K) [] E (tCons (tVar 0) (tCons (tCall (sp__law_best K) [] E (tCons (tOp gIxT (tVar 8) (tC (.int 1))) (tCons (fGetS (tVar 0) "typed") (tCons (fGetS (tVar 0) "many") (tNil))))) (tNil))))))) (tIfS (tAnd (tTest (tOp (rNotN) (fGetS (tVar 0) "shown") (tC .non))) (tOr (tTest (tOp (rNe) (tOp gIxT (fGetS (tVar 0) "shown") (tC (.int 0))) (tVar 1))) (tB (tOp gIxT (fGetS (tVar 0) "shown") (tC (.int 2)))))) (tSeq (tAsg (tCall (sp__law_best K) [] E (tCons (tOp gIxT (fGetS (tVar 0) "shown") (tC (.int 1))) (tCons (fGetS (tVar 0) "typed") (tCons (fGetS (tVar 0) "many") (tNil))))) (gName 9)) (fPutS (tVar 0) "shown" (tIf (tTest (tOp (gNeD) (tVar 9) (tLst (tNil)))) (tTup (tCons (tOp gIxT (fGetS (tVar 0) "shown") (tC (.int 0))) (tCons (tVar 9) (tCons (tC (.bl true)) (tNil))))) (tC .non)))) (tNext))
def t__law_near (K : PySem.W.Frag) (E : XK) : TS := tSeq (tAsg (tCall (sp__law_folded K) [] E (tCons (fGetS (tVar 0) "typed") (tNil))) (gName 1)) (tSeq (tIfS (tTest (tOp (rEq) (tVar 1) (tC (.str "")))) (tSeq (fPutS (tVar 0) "due" (tC (.bl false))) (tSeq (fPutS (tVar 0) "shown" (tC .non)) (tRetN))) (tNext)) (tSeq (tAsg (tLst (tNil)) (gName 2)) (tSeq (fForR1 (tCons (tCB (gLenL) (tCons (fGetS (tVar 0) "kept") (tNil))) (tNil)) (gName 3) (t__law_near_L1_0 K E)) (t__law_near_B1_4 K E))))
abbrev nn__law_near : List Str := ["own", "key", "some", "k", "name", "rows", "is_all", "when", "used", "left"]
section
variable {K : PySem.W.Frag}
theorem len__law_near : ∀ vs H Q E, sp__law_near K vs H Q E → vs.length = ["own"].length := by
  rintro _ _ _ _ ⟨_, _, _, _, _, _, _, rfl, _⟩; rfl
/-- the loop over what is kept -/
structure PNe (I : Hp) (a : OA) (R : Rul) (s : AS) (ps pc pa pf pk pg psm : Addr) (vs : V) (sv cv lv : List V) (zs : List (V × Kp)) (M : List (Addr × HO)) (i : Nat) (σ : L2.St) (H : Hp) : Prop where
  ex : ∃ (I2 : Hp) (ts : List (V × Tri)) (rest : List (Option V)), σ = some (.ref a.o) :: some (sV (foldL s.now)) :: some (.ref psm) :: rest ∧ rest.length = 7 ∧ Sub I I2 ∧
    W I2 H ((psm, .lst (ts.map Prod.fst)) :: (a.o, oOwn a R s ps pc pa pf pk pg vs) :: (ps, .lst sv) :: (pc, .lst cv) :: (pa, nmA s) :: (pf, nmF s) :: (pk, .lst (zs.map Prod.fst)) :: (pg, .lst lv) :: M) ∧ Enc I2 triD ts ∧ ts.map Prod.snd = mtch (zs.map Prod.snd) (foldL s.now) s.time R.term i
theorem turn_near {I H : Hp} {a : OA} {R : Rul} {s : AS} {ps pc pa pf pk pg psm : Addr} {vs : V} {sv cv lv : List V} {zs : List (V × Kp)} {M : List (Addr × HO)} {i : Nat} {σ : L2.St} {E : XK} {D : Ends} (en : Enc I kpD zs) (ko : ∀ k ∈ zs.map Prod.snd, rowsOk k.2.1 ∧ okL 20 k.1 = true) (hi : i < zs.length) (kl : zs.length ≤ 6) (okn : okL 12 s.now = true) (h : PNe I a R s ps pc pa pf pk pg psm vs sv cv lv zs M i σ H)
    (nx : ∀ σ H, PNe I a R s ps pc pa pf pk pg psm vs sv cv lv zs M (i + 1) σ H → D.nx σ H) : t__law_near_L1_0 K E D (σ.set 3 (some (.int (0 + (i : Int))))) H := by
  have hb := line_big
  have lq := okL_len okn
  obtain ⟨I2, ts, rest, rfl, hr, s2, w2, en2, es2⟩ := h
  match rest, hr with
  | [r3, r4, r5, r6, r7, r8, r9], _ =>
  have hz : zs[i]? = some zs[i] := List.getElem?_eq_getElem hi
  have hin : zs[i] ∈ zs := List.getElem_mem hi
  have hx := w2.has.2.1
  have hk := w2.has.2.2.2.2.2.2.1
  have hps2 := w2.has.1
  unfold oOwn at hx
  generalize zs[i] = z at hz hin
  obtain ⟨t, l2, e1, e2⟩ := keep_turn en s2 w2 hin
  have okz := ko z.2 (List.mem_map.mpr ⟨z, hin, rfl⟩)
  have lz := okL_len okz.2
  have hat : atI (zs.map Prod.fst) (i : Int) = some (.ref t) := by rw [← e1]; exact atN (by rw [List.getElem?_map, hz]; rfl)
  have hts : ts.length ≤ i := by
    have := congrArg List.length es2
    rw [List.length_map] at this
    rw [this]; unfold mtch
    exact Nat.le_trans (List.length_filterMap_le _ _) (by simp)
  have em : mtch (zs.map Prod.snd) (foldL s.now) s.time R.term (i + 1) = ts.map Prod.snd ++ (mtc (zs.map Prod.snd) (foldL s.now) s.time R.term i).toList := by
    unfold mtch at *
    rw [List.range_succ, List.filterMap_append, es2]
    cases h : mtc (zs.map Prod.snd) (foldL s.now) s.time R.term i <;> simp [h]
  have hmt : mtc (zs.map Prod.snd) (foldL s.now) s.time R.term i = if kpOk (foldL s.now) s.time R.term z.2 = true then some ((z.2.1.length : Int), 0 - (i : Int), (i : Int)) else none := by
    unfold mtc; rw [List.getElem?_map, hz]; rfl
  have no : kpOk (foldL s.now) s.time R.term z.2 = false → ∀ rest', rest'.length = 7 → D.nx (some (.ref a.o) :: some (sV (foldL s.now)) :: some (.ref psm) :: rest') H := fun h rest' hr' =>
    nx _ _ ⟨I2, ts, rest', rfl, hr', s2, w2, en2, by rw [em, hmt, h]; simp⟩
  unfold t__law_near_L1_0
  sm! [Int.zero_add, hx, hk, hat, e2, S_eq, gFind, hps2, S_len]
  have yes : kpOk (foldL s.now) s.time R.term z.2 = true → z.2.1.length ≤ sizeLine ∧ 3 ≤ sizeLine ∧ ∀ (p : Addr), H p = none → (∃ x, upd H p (.tup [.int (z.2.1.length : Int), .int (0 - (i : Int)), .int (i : Int)]) psm = some (.lst x) ∧ x.length < sizeLine ∧
      D.nx [some (.ref a.o), some (sV (foldL s.now)), some (.ref psm), some (.int i), some (sV z.2.1), some (.ref l2), some (.bl z.2.2.2.1), some (.int z.2.2.2.2), r8, r9] (upd (upd H p (.tup [.int (z.2.1.length : Int), .int (0 - (i : Int)), .int (i : Int)])) psm (.lst (x ++ [.ref p])))) := by
    intro h
    refine ⟨by omega, three_le, fun p hp => ?_⟩
    obtain ⟨I3, s3, w3, h3⟩ := w2.mkI hp (.tup [.int (z.2.1.length : Int), .int (0 - (i : Int)), .int (i : Int)])
    refine ⟨_, w3.has.1, by rw [List.length_map]; omega, nx _ _ ?_⟩
    refine ⟨I3, ts ++ [(.ref p, ((z.2.1.length : Int), 0 - (i : Int), (i : Int)))], _, rfl, rfl, s2.trans s3, ?_, (en2.mono s3).snoc (.tup h3 (.cons (.int _) (.cons (.int _) (.cons (.int _) .nil)))), by rw [em, hmt, h]; simp⟩
    have := w3.put (o' := .lst ((ts ++ [((.ref p : V), (((z.2.1.length : Int), 0 - (i : Int), (i : Int)) : Tri))]).map Prod.fst))
    simpa using this
  unfold kpOk at yes no
  by_cases c1 : s.time - z.2.2.2.2 < R.term
  · refine ite_t c1 ?_
    by_cases c2 : z.2.1 = foldL s.now
    · exact ite_t c2 (yes (by simp [c1, c2]))
    · refine ite_f c2 ?_
      by_cases c3 : z.2.2.2.1 = true
      · rw [if_pos c3]
        by_cases c4 : hasL z.2.1 (foldL s.now) = true
        · exact ite_t ((find_S _ _).mpr c4) (yes (by simp [c1, c3, c4]))
        · exact ite_f (fun h => c4 ((find_S _ _).mp h)) (no (by simp [c2, c4]) _ rfl)
      · rw [if_neg c3]; exact no (by simp [c2, c3]) _ rfl
  · exact ite_f c1 (no (by simp [c1]) _ rfl)
theorem pure__law_near : ∀ vs H Q E, sp__law_near K vs H Q E → t__law_near K E { nx := fun _ H2 => Q .non H2, rt := Q } (L2.start nn__law_near vs) H := by
  rintro vs H Q E ⟨I, M, a, R, s, sn, kk, rfl, ⟨ps, pc, pa, pf, pk, pg, vs, sv, cv, kv, lv, w, hdl, rs, rc, rk, sh, rl⟩, ow, hQ⟩
  have hb := line_big
  have okn := ow.ok.now
  have ln := okL_len okn
  have os := ow.os
  have hx := w.has.1
  unfold oOwn at hx
  unfold t__law_near
  sm! [hx]
  refine ⟨s.now, rfl, by omega, okL_all okn, fun H1 sm1 => ?_⟩
  have w1 := w.same sm1
  sm! [lit_e, S_eq]
  by_cases c0 : foldL s.now = []
  · refine ite_t c0 ?_
    have hx1 := w1.has.1
    unfold oOwn at hx1
    sm! [hx1]
    have e0 : nearS R s = { s with due := false, shown := none } := by unfold nearS; rw [if_pos c0]
    have w2 := (w1.put (o' := oOwn a R { s with due := false } ps pc pa pf pk pg vs)).put (o' := oOwn a R { s with due := false, shown := none } ps pc pa pf pk pg .non)
    exact hQ I _ (Sub.refl _) ⟨ps, pc, pa, pf, pk, pg, .non, sv, cv, kv, lv, by rw [e0]; exact w2, hdl, rs, by rw [e0]; exact rc, by rw [e0]; exact rk, by rw [e0]; rfl, by rw [e0]; exact rl⟩
  refine ite_f c0 ⟨Nat.zero_le _, fun psm hpsm => ?_⟩
  obtain ⟨zs, rfl, e2, en⟩ := enc_of rk
  have w2 := w1.newM (o := .lst []) hpsm
  have hx2 := w2.has.2.1
  have hk2 := w2.has.2.2.2.2.2.2.1
  unfold oOwn at hx2
  have kl := ow.ok.kl
  have zl : zs.length = s.ks.length := by rw [e2, List.length_map]
  have ko : ∀ k ∈ zs.map Prod.snd, rowsOk k.2.1 ∧ okL 20 k.1 = true := fun k hk => ow.ok.ks k (by rw [e2]; exact hk)
  sm! [hx2, hk2, List.length_map]
  refine ⟨by omega, by omega, PNe I a R s ps pc pa pf pk pg psm vs sv cv lv zs M, ⟨I, [], _, rfl, rfl, Sub.refl _, w2, Enc.nil, rfl⟩, ?_, ?_⟩
  · rintro i σ H2 hi h
    simp! [and_true]
    exact turn_near en ko (by omega) (by omega) okn h fun _ _ h => h
  · rintro σ H2 ⟨I2, ts, rest, rfl, hr, s2, w3, en2, es2⟩
    match rest, hr with
    | [r3, r4, r5, r6, r7, r8, r9], _ =>
    unfold t__law_near_B1_4
    simp! [and_true]
    refine ⟨Nat.zero_le _, fun p hp => ?_⟩
    obtain ⟨I3, s3, w4, h4⟩ := w3.mkI hp (.lst [])
    have es3 : ts.map Prod.snd = mtch (zs.map Prod.snd) (foldL s.now) s.time R.term (zs.map Prod.snd).length := by rw [es2, List.length_map]; rfl
    have enear : nearS R s = match srcK s.ks (foldL s.now) s.time R.term with
        | some one => showS { s with ks := useK s.ks one } (ansR one.2.1 s.now R.many)
        | none => match s.shown with
          | none => s
          | some (k, rows, _) => if freshS s = true then s else if ansR rows s.now R.many = [] then { s with shown := none } else { s with shown := some (k, ansR rows s.now R.many, true) } := by
      unfold nearS; exact if_neg c0
    refine neD_nil w4.has.1 ((en2.mono s3).mono w4.sub).all (w4.sub _ _ h4) ?_
    have hx4 := w4.has.2.1
    have hk4 := w4.has.2.2.2.2.2.2.1
    unfold oOwn at hx4
    have s13 := s2.trans s3
    by_cases hts : ts = []
    · subst hts
      have esrc : srcK s.ks (foldL s.now) s.time R.term = none := by rw [e2]; exact src_none es3.symm
      rw [esrc] at enear
      sm! [List.map_nil, List.isEmpty_nil, hx4]
      have w5 := w4.drop
      have fin : ∀ (I6 H6 : Hp) (s' : AS) (v : V) (sh' : Option (Tx × List Tx × Bool)), Sub I3 I6 → nearS R s = { s with shown := sh' } → ShV I6 v sh' → W I6 H6 ((a.o, oOwn a R { s with shown := sh' } ps pc pa pf pk pg v) :: (ps, .lst sv) :: (pc, .lst cv) :: (pa, nmA s) :: (pf, nmF s) :: (pk, .lst (zs.map Prod.fst)) :: (pg, .lst lv) :: M) → Q .non H6 := by
        intro I6 H6 s' v sh' s6 en' shv w6
        have s16 := s13.trans s6
        exact hQ I6 _ s16 ⟨ps, pc, pa, pf, pk, pg, v, sv, cv, zs.map Prod.fst, lv, by rw [en']; exact w6, s16 _ _ hdl, rs.mono s16, by rw [en']; exact rc.mono s16, by rw [en']; show RpAll I6 _ (s.ks.map kpD); rw [e2, List.map_map]; exact (en.mono s16).all, by rw [en']; exact shv, by rw [en']; exact rl.mono s16⟩
      cases hs : s.shown with
      | none =>
        rw [hs] at sh enear
        have evs : vs = .non := sh
        subst evs
        refine ite_nt rfl ?_
        have e1 : nearS R s = s := enear
        have e3 : ({ s with shown := none } : AS) = s := by rw [← hs]
        exact fin I3 _ s .non none (Sub.refl _) (by rw [e1, e3]) rfl (by rw [e3]; exact w5)
      | some v =>
        obtain ⟨k, rows, old⟩ := v
        rw [hs] at sh enear
        have enear : nearS R s = if freshS s = true then s else if ansR rows s.now R.many = [] then { s with shown := none } else { s with shown := some (k, ansR rows s.now R.many, true) } := enear
        obtain ⟨t, l, evs, ht, hl⟩ := sh
        subst evs
        have ht4 := w4.sub _ _ (s13 _ _ ht)
        have rok : rowsOk rows := ow.ok.sh k rows old hs
        have efr : freshS s = (decide (k = foldL s.now) && !old) := by unfold freshS; rw [hs]
        have e3 : ({ s with shown := some (k, rows, old) } : AS) = s := by rw [← hs]
        refine ite_nf (by simp) ?_
        sm! [ht4, at3_0, at3_1, at3_2, S_eq]
        have same : freshS s = true → Q .non (upd H2 p (.lst [])) := fun hf => fin I3 _ s (.ref t) (some (k, rows, old)) (Sub.refl _) (by rw [enear, if_pos hf, e3]) ⟨t, l, rfl, s13 _ _ ht, s13 _ _ hl⟩ (by rw [e3]; exact w5)
        by_cases hf : freshS s = true
        · have hf2 := hf
          rw [efr, Bool.and_eq_true, decide_eq_true_eq] at hf2
          have ho : old = false := by simpa using hf2.2
          refine ite_nt hf2.1 ?_
          rw [ho, if_neg (by decide)]
          exact same hf
        have red : ∀ X Y : Prop, X → if (!decide (k = foldL s.now)) = true then X else if old = true then X else Y := by
          intro X Y hX
          by_cases ck : k = foldL s.now
          · refine ite_nt ck ?_
            cases ho : old with
            | true => rw [if_pos rfl]; exact hX
            | false => exact absurd (by rw [efr, ho, decide_eq_true ck]; rfl) hf
          · exact ite_nf ck hX
        refine red _ _ ?_
        refine ⟨I3, _, l, rows, s.now, R.many, rfl, w5, Ls.i (s13 _ _ hl), rok, okn, ow.ok.n0, fun I6 H6 p6 s6 w6 h6 => ?_⟩
        refine ⟨Nat.zero_le _, fun p7 hp7 => ?_⟩
        obtain ⟨I7, s7, w7, h7⟩ := w6.mkI hp7 (.lst [])
        refine neD_nil (w7.sub _ _ (s7 _ _ h6)) (rpAll_tx _) (w7.sub _ _ h7) ?_
        have hx7 := w7.has.1
        unfold oOwn at hx7
        have s17 := s13.trans (s6.trans s7)
        rw [if_neg hf] at enear
        by_cases ca : ansR rows s.now R.many = []
        · rw [if_pos ca] at enear
          sm! [ca, List.map_nil, List.isEmpty_nil, hx7]
          exact fin I7 _ s .non none (s6.trans s7) enear rfl (w7.put (o' := oOwn a R { s with shown := none } ps pc pa pf pk pg .non))
        · rw [if_neg ca] at enear
          have hee : ((ansR rows s.now R.many).map sV).isEmpty = false := by
            cases h : ansR rows s.now R.many with
            | nil => exact absurd h ca
            | cons x y => rfl
          sm! [hee, hx7, w7.sub _ _ (s17 _ _ ht), at3_0]
          refine ⟨three_le, fun p8 hp8 => ?_⟩
          obtain ⟨I8, s8, w8, h8⟩ := w7.mkI hp8 (.tup [sV k, .ref p6, .bl true])
          have hx8 := w8.has.1
          unfold oOwn at hx8
          sm! [hx8]
          exact fin I8 _ s (.ref p8) (some (k, ansR rows s.now R.many, true)) (s6.trans (s7.trans s8)) enear ⟨p8, p6, rfl, h8, (s7.trans s8) _ _ h6⟩ (w8.put (o' := oOwn a R { s with shown := some (k, ansR rows s.now R.many, true) } ps pc pa pf pk pg (.ref p8)))
    · have hne : ts ≠ [] := hts
      have hee : (ts.map Prod.fst).isEmpty = false := by cases ts with | nil => exact absurd rfl hne | cons a b => rfl
      sm! [hee, hx4]
      refine ⟨.inl ⟨_, hk4⟩, ?_⟩
      refine ⟨psm, ts.map fun t => (t.1, triD t.2), rfl, by simpa using hne, by rw [List.map_map]; exact w4.has.1, ?_, ?_, ?_, ?_⟩
      · rw [List.map_map, List.map_map]; exact ((en2.mono s3).mono w4.sub).all
      · rw [List.map_map]
        have := tri_alike (ts.map Prod.snd)
        rw [List.map_map] at this
        exact this
      · intro z hz
        obtain ⟨y, _, rfl⟩ := List.mem_map.mp hz
        simp [triD, PyData.depth, PyData.depthAll]
      · intro z hz hmx
        obtain ⟨y, hy, rfl⟩ := List.mem_map.mp hz
        have hyt : y.2 ∈ mtch (zs.map Prod.snd) (foldL s.now) s.time R.term (zs.map Prod.snd).length := by rw [← es3]; exact List.mem_map.mpr ⟨y, hy, rfl⟩
        have hmx : triD y.2 = maxOf ((mtch (zs.map Prod.snd) (foldL s.now) s.time R.term (zs.map Prod.snd).length).map triD) := by
          rw [← es3, List.map_map]
          rw [List.map_map] at hmx
          exact hmx
        obtain ⟨k, e, hk1, hk2, hsrc⟩ := src_max hyt hmx
        rw [List.getElem?_map, Option.map_eq_some_iff] at hk2
        obtain ⟨z, hzk, rfl⟩ := hk2
        have ry := (en2 y hy).mono s3
        obtain ⟨v, a1, a2, a3⟩ := y
        have hk1 : a3 = (k : Int) := hk1
        subst hk1
        cases ry with
        | tup y1 y2 =>
          cases y2 with
          | cons b1 y2 =>
            cases y2 with
            | cons b2 y2 =>
              cases y2 with
              | cons b3 y2 =>
                cases y2; cases b1; cases b2; cases b3
                have y1' := w4.sub _ _ y1
                have hinz := List.mem_of_getElem? hzk
                obtain ⟨t, l2, e1, e2', e3⟩ := rp_kp ((en z hinz).mono s13)
                have nd : ((zs.map Prod.snd).map (·.1)).Nodup := by rw [← e2]; exact ow.nk
                refine ⟨_, rfl, _, y1', _, at3_2, pk, zs.map Prod.fst, k, .ref t, rfl, rfl, hk4, by rw [List.length_map]; omega, by rw [List.getElem?_map, hzk, ← e1]; rfl, ?_⟩
                have w5 := W.put6 w4 (o' := .lst ((zs.map Prod.fst).eraseIdx k))
                generalize hys : zs.eraseIdx k ++ [z] = ys
                have e6 : (zs.map Prod.fst).eraseIdx k ++ [V.ref t] = ys.map Prod.fst := by rw [← hys, ← e1, er_map]; simp
                have es6 : ys.map Prod.snd = useK (zs.map Prod.snd) z.2 := by
                  rw [← hys]; unfold useK
                  rw [List.map_append, ← er_map, erase_drop nd (by rw [List.getElem?_map, hzk]; rfl)]; rfl
                have en6 : Enc I3 kpD ys := by
                  rw [← hys]
                  exact ((en.mono s13).sub fun z hz => List.mem_of_mem_eraseIdx hz).snoc ((en z hinz).mono s13)
                have hx5 := w5.has.2.1
                have hk5 := w5.has.2.2.2.2.2.2.1
                unfold oOwn at hx5
                sm! [hx5, hk5]
                refine ⟨by have := List.length_eraseIdx_le (zs.map Prod.fst) k; rw [List.length_map] at this; omega, ?_⟩
                rw [e6]
                have w6 := W.put6 w5 (o' := .lst (ys.map Prod.fst))
                have hx6 := w6.has.2.1
                unfold oOwn at hx6
                sm! [w6.sub _ _ e2', at4_1, hx6]
                have okz := ko z.2 (List.mem_map.mpr ⟨z, hinz, rfl⟩)
                refine ⟨I3, _, l2, z.2.2.1, s.now, R.many, rfl, w6.drop, Ls.i e3, okz.1, okn, ow.ok.n0, fun I8 H8 p8 s8 w8 h8 => ?_⟩
                have s18 := s13.trans s8
                have eks : ys.map Prod.snd = useK s.ks z.2 := by rw [es6, ← e2]
                have e1n : nearS R s = showS { s with ks := useK s.ks z.2 } (ansR z.2.2.1 s.now R.many) := by
                  rw [enear]; rw [← e2] at hsrc; rw [hsrc]
                refine ⟨I8, M, a, R, { s with ks := useK s.ks z.2 }, sn, p8, ansR z.2.2.1 s.now R.many, rfl, ⟨ps, pc, pa, pf, pk, pg, vs, sv, cv, ys.map Prod.fst, lv, w8, s18 _ _ hdl, rs.mono s18, rc.mono s18, ?_, sh.mono s18, rl.mono s18⟩, ⟨os.now, os.al, os.ul, os.fl, ?_, os.ll, os.sl⟩, h8, fun I9 H9 s9 ow9 => hQ I9 H9 (s18.trans s9) (by rw [e1n]; exact ow9)⟩
                · show RpAll I8 _ ((useK s.ks z.2).map kpD)
                  rw [← eks, List.map_map]
                  exact (en6.mono s8).all
                · show (useK s.ks z.2).length ≤ 6
                  have := len_use (ks := s.ks) (one := z.2) (by rw [e2]; exact List.mem_map.mpr ⟨z, hinz, rfl⟩)
                  omega
end
end TA

set_option linter.all false
set_option maxRecDepth 100000
set_option maxHeartbeats 4000000
/-! The law's own asker: asking, typing. -/
namespace TA
open PySem L2 PyProof.Rows
open SX (S S_len S_inj S_cat S_tl)
local macro_rules | `(tactic| simp! [$as,*]) => `(tactic| first | simp only [L2.start, tSeq, tAsg, tOp, fFld, tVar, gIxL, gIxT, tCB, tCons, tNil, gLenL, gLenT, gLenS, rI, rI0, fSet, tIfS, tTest, tB, rNotN, rIsN, rEq, rNe, tC, tDrop, fBM, fBM0, gTy, rAppend, tTup, tLst, tRet, tRetN, tNext, gName, fTup, gCons, gNil, tCall, fCallS, fMeth, tMeth, fMethS, fMake, tMake, fMakeS, tUn, rU, tAnd, tOr, tNot, tAndV, tOrV, tNotV, tIf, tChain, gListL, gListT, tSl, tNoPart, tPart, gSlL, fRaise, gStrI, gCatS, gMin2, gMax2, gIntB, tYes, fLcL, fLcT, fLcS, fLcR1, fForL, fForR1, fForR2, fRev, fGetI, gGetI, gInI, gLenI, fPutI, fNewI,
  List.map_cons, List.map_nil, List.length_cons, List.length_nil, List.replicate, List.cons_append, List.nil_append, List.append_nil, List.getElem?_cons_zero, List.getElem?_cons_succ, List.set_cons_zero, List.set_cons_succ, reduceIte, Bool.not_true, Bool.not_false, Nat.reduceAdd, Nat.reduceSub, Bool.false_eq_true, eq_self,
  Option.some.injEq, V.int.injEq, V.ref.injEq, V.str.injEq, V.bl.injEq, HO.ins.injEq, HO.lst.injEq, HO.tup.injEq, HO.dK.injEq, List.cons.injEq, and_assoc, exists_eq_left', exists_and_left, and_true, true_and, true_or, or_true, false_or, or_false, exists_eq_left, exists_eq_right, exists_eq_right', exists_eq, exists_eq', exists_const, upd_same, sc_ii, sc_ss, sc_bb, sc_in, sc_ni, sc_ns, sc_sn, sc_nn, $as,*] | skip)
def askC (R : Rul) (s : AS) : Prop := s.due = true ∧ R.pause ≤ s.time - s.at_ ∧ (s.flying.length : Int) < R.asks
instance {R : Rul} {s : AS} : Decidable (askC R s) := by unfold askC; infer_instance
/-- what was sent, behind an ask -/
def askN (R : Rul) (s : AS) (sn : List (Int × Tx)) : List (Int × Tx) := if askC R s then sn ++ [(s.time, s.now)] else sn
def sp__law_ask (K : PySem.W.Frag) : Sp := fun vs H Q _ => ∃ (I : Hp) (M : List (Addr × HO)) (a : OA) (R : Rul) (s : AS) (sn : List (Int × Tx)) (k : Nat), vs = [.ref a.o] ∧ OwW I H a R s sn M ∧ OwK R k s sn ∧ ∀ I' H', Sub I I' → OwW I' H' a R (askS R s) (askN R s sn) M → Q .non H'
def pre0 (s : AS) (text : Tx) : AS := { (if foldL text = foldL s.now then s else { dropS s (some (foldL text)) with at_ := s.time, due := decide (foldL text ≠ []), tries := 0 }) with now := text }
theorem putS_eq (R : Rul) (s : AS) (text : Tx) : putS R s text = askS R (nearS R (pre0 s text)) := rfl
def putN (R : Rul) (s : AS) (text : Tx) (sn : List (Int × Tx)) : List (Int × Tx) := askN R (nearS R (pre0 s text)) sn
def sp__law_put (K : PySem.W.Frag) : Sp := fun vs H Q _ => ∃ (I : Hp) (M : List (Addr × HO)) (a : OA) (R : Rul) (s : AS) (sn : List (Int × Tx)) (text : Tx), vs = [.ref a.o, sV text] ∧ OwW I H a R s sn M ∧ OwK R 0 s sn ∧ InvA s.uw s ∧ okL 12 text = true ∧ ∀ I' H', Sub I I' → OwW I' H' a R (putS R s text) (putN R s text sn) M → Q .non H'
def t__law_ask_B2_6 (K : PySem.W.Frag) (E : XK) : TS := tSeq (tDrop (fBM "list" rAppend (fGetS (tVar 0) "asked") (tCons (tVar 2) (tNil)))) (tSeq (tDrop (fBM "list" rAppend (fGetS (tVar 0) "flying") (tCons (tVar 2) (tNil)))) (tDrop (fBM "list" rAppend (fGetS (tVar 0) "log") (tCons (tTup (tCons (tC (.str "asked")) (tCons (tVar 2) (tCons (tCall (sp__law_folded K) [] E (tCons (fGetS (tVar 0) "typed") (tNil))) (tNil))))) (tNil)))))
def t__law_ask_B2_5 (K : PySem.W.Frag) (E : XK) : TS := tSeq (tIfS (tTest (tOp (rNotN) (tVar 3) (tC .non))) (tDrop (fBM "list" rAppend (fGetS (tVar 0) "coming") (tCons (tTup (tCons (tOp (rI0 fun i j => .int (i + j)) (fGetS (tVar 0) "time") (tVar 3)) (tCons (tVar 2) (tNil)))) (tNil)))) (tNext)) (t__law_ask_B2_6 K E)
def t__law_ask_B2_4 (K : PySem.W.Frag) (E : XK) : TS := tSeq (tDrop (fBM "list" rAppend (fGetS (tVar 0) "sent") (tCons (tTup (tCons (fGetS (tVar 0) "time") (tCons (fGetS (tVar 0) "typed") (tNil)))) (tNil)))) (t__law_ask_B2_5 K E)
def t__law_ask_B2_2 (K : PySem.W.Frag) (E : XK) : TS := tSeq (tAsg (tOp (rI0 fun i j => .int (i + j)) (tCB (gLenL) (tCons (fGetS (tVar 0) "sent") (tNil))) (tC (.int 1))) (gName 2)) (tSeq (tAsg (tOp gIxL (fGetS (tVar 0) "delays") (tOp (rI (fun _ j => 0 < j) fun i j => .int (i % j)) (tCB (gLenL) (tCons (fGetS (tVar 0) "sent") (tNil))) (tCB (gLenL) (tCons (fGetS (tVar 0) "delays") (tNil))))) (gName 3)) (t__law_ask_B2_4 K E))
def t__law_ask (K : PySem.W.Frag) (E : XK) : TS := tSeq (tAsg (tOp (rI0 fun i j => .bl (decide (j ≤ i))) (tOp (rI0 fun i j => .int (i - j)) (fGetS (tVar 0) "time") (fGetS (tVar 0) "since")) (fGetS (tVar 0) "pause")) (gName 1)) (tIfS (tAnd (tB (fGetS (tVar 0) "due")) (tAnd (tB (tVar 1)) (tTest (tOp (rI0 fun i j => .bl (decide (i < j))) (tCB (gLenL) (tCons (fGetS (tVar 0) "flying") (tNil))) (fGetS (tVar 0) "asks"))))) (tSeq (fPutS (tVar 0) "due" (tC (.bl false))) (tSeq (fPutS (tVar 0) "tries" (tOp (rI0 fun i j => .int (i + j)) (fGetS (tVar 0) "tries") (tC (.int 1)))) (t__law_ask_B2_2 K E))) (tNext))
abbrev nn__law_ask : List Str := ["own", "is_time", "number", "delay"]
def t__law_put_B1_1 (K : PySem.W.Frag) (E : XK) : TS := tSeq (fPutS (tVar 0) "typed" (tVar 1)) (tSeq (tDrop (tCall (sp__law_near K) [] E (tCons (tVar 0) (tNil)))) (tDrop (tCall (sp__law_ask K) [] E (tCons (tVar 0) (tNil)))))
def t__law_put (K : PySem.W.Frag) (E : XK) : TS := tSeq (tIfS (tTest (tOp (rNe) (tCall (sp__law_folded K) [] E (tCons (tVar 1) (tNil))) (tCall (sp__law_folded K) [] E (tCons (fGetS (tVar 0) "typed") (tNil))))) (tSeq (tDrop (tCall (sp__law_off K) [] E (tCons (tVar 0) (tNil)))) (tSeq (fPutS (tVar 0) "since" (fGetS (tVar 0) "time")) (tSeq (fPutS (tVar 0) "due" (tOp (rNe) (tCall (sp__law_folded K) [] E (tCons (tVar 1) (tNil))) (tC (.str "")))) (fPutS (tVar 0) "tries" (tC (.int 0)))))) (tNext)) (t__law_put_B1_1 K E)
abbrev nn__law_put : List Str := ["own", "text"]
section
variable {K : PySem.W.Frag}
theorem len__law_ask : ∀ vs H Q E, sp__law_ask K vs H Q E → vs.length = ["own"].length := by
  rintro _ _ _ _ ⟨_, _, _, _, _, _, _, rfl, _⟩; rfl
theorem len__law_put : ∀ vs H Q E, sp__law_put K vs H Q E → vs.length = ["own", "text"].length := by
  rintro _ _ _ _ ⟨_, _, _, _, _, _, _, rfl, _⟩; rfl
theorem ask2 {I H : Hp} {M : List (Addr × HO)} {a : OA} {R : Rul} {s : AS} {sn : List (Int × Tx)} {kk : Nat} {ps pc pa pf pk pg : Addr} {vs : V} {sv cv kv lv : List V} {Q : VK} {E : XK} {r1 r2 r3 : Option V}
    (w : W I H ((a.o, oOwn a R { s with due := false, tries := s.tries + 1 } ps pc pa pf pk pg vs) :: (ps, .lst sv) :: (pc, .lst cv) :: (pa, nmA s) :: (pf, nmF s) :: (pk, .lst kv) :: (pg, .lst lv) :: M))
    (hdl : I a.dl = some (.lst (R.ds.map delV))) (rs : RpAll I sv (sn.map snD)) (rc : RpAll I cv (s.uw.map cmD)) (rk : RpAll I kv (s.ks.map kpD)) (sh : ShV I vs s.shown) (rl : RpAll I lv (s.log.map lgD)) (ow : OwK R kk s sn) (hc : askC R s)
    (hQ : ∀ I' H', Sub I I' → OwW I' H' a R (askS R s) (askN R s sn) M → Q .non H') : t__law_ask_B2_2 K E { nx := fun _ H2 => Q .non H2, rt := Q } [some (.ref a.o), r1, r2, r3] H := by
  have hb := line_big
  have okn := ow.ok.now
  have ln := okL_len okn
  have os := ow.os
  have hx := w.has.1
  have hs := w.has.2.1
  have hd := w.sub _ _ hdl
  unfold oOwn at hx
  have svl := rs.len
  rw [List.length_map] at svl
  have snl := os.sl
  have hds : R.ds ≠ [] := ow.ok.ds
  have dpos : 0 < R.ds.length := List.length_pos_iff.mpr hds
  have hsl := ow.ls
  have edl : R.ds[s.sent % R.ds.length]? = some (nextDelay R.ds s.sent) := by
    have hlt : s.sent % R.ds.length < R.ds.length := Nat.mod_lt _ dpos
    unfold nextDelay
    rw [List.getElem?_eq_getElem hlt]; rfl
  have hat : atI (R.ds.map delV) ((sn.length : Int) % (R.ds.length : Int)) = some (delV (nextDelay R.ds s.sent)) := by
    rw [hsl, ← Int.natCast_emod]
    exact atN (by rw [List.getElem?_map, edl]; rfl)
  have dl100 : R.ds.length ≤ 1000000 ∨ True := .inr trivial
  unfold t__law_ask_B2_2
  sm! [hx, hs, hd, List.length_map, svl, hat]
  refine ⟨by omega, ?_⟩
  unfold t__law_ask_B2_4
  sm! [hx, hs]
  refine ⟨two_le, fun p1 hp1 => ?_⟩
  obtain ⟨I1, s1, w1, h1⟩ := w.mkI hp1 (.tup [.int s.time, sV s.now])
  refine ⟨sv, w1.has.2.1, by omega, ?_⟩
  have w2 := W.put1 w1 (o' := .lst (sv ++ [.ref p1]))
  have rs2 : RpAll I1 (sv ++ [.ref p1]) ((sn ++ [(s.time, s.now)]).map snD) := by
    rw [List.map_append]
    exact (rs.mono s1).snoc (.tup h1 (.cons (.int _) (.cons (.str _) .nil)))
  have hx2 := w2.has.1
  have hc2 := w2.has.2.2.1
  unfold oOwn at hx2
  have cvl := rc.len
  rw [List.length_map] at cvl
  have uwl := os.ul
  have eN : ((sn.length : Int) + 1) = nextN s := by unfold nextN; rw [← hsl]; omega
  rw [eN]
  unfold t__law_ask_B2_5
  sm! [hx2, hc2]
  have last : ∀ (I3 H3 : Hp) (cv' : List V), Sub I1 I3 → W I3 H3 ((a.o, oOwn a R { s with due := false, tries := s.tries + 1 } ps pc pa pf pk pg vs) :: (ps, .lst (sv ++ [.ref p1])) :: (pc, .lst cv') :: (pa, nmA s) :: (pf, nmF s) :: (pk, .lst kv) :: (pg, .lst lv) :: M) → RpAll I3 cv' ((sendU R s).map cmD) →
      t__law_ask_B2_6 K E { nx := fun _ H2 => Q .non H2, rt := Q } [some (.ref a.o), r1, some (.int (nextN s)), some (delV (nextDelay R.ds s.sent))] H3 := by
    intro I3 H3 cv' s3 w3 rc3
    have hx3 := w3.has.1
    have ha3 := w3.has.2.2.2.1
    unfold oOwn at hx3
    unfold nmA at ha3
    have al := os.al
    have flb := ow.ok.fl
    have lll := os.ll
    have lvl := rl.len
    rw [List.length_map] at lvl
    unfold t__law_ask_B2_6
    sm! [hx3, ha3]
    refine ⟨by rw [List.length_map]; omega, ?_⟩
    have w4 := W.put3 w3 (o' := .lst ((s.asked.map fun p => V.int p.1) ++ [.int (nextN s)]))
    have hx4 := w4.has.1
    have hf4 := w4.has.2.2.2.2.1
    unfold oOwn at hx4
    unfold nmF at hf4
    sm! [hx4, hf4]
    refine ⟨by rw [List.length_map]; omega, ?_⟩
    have w5 := W.put4 w4 (o' := .lst ((s.flying.map fun p => V.int p.1) ++ [.int (nextN s)]))
    have hx5 := w5.has.1
    have hl5 := w5.has.2.2.2.2.2.2.1
    unfold oOwn at hx5
    sm! [hx5, hl5]
    refine ⟨s.now, rfl, by omega, okL_all okn, fun H6 sm6 => ?_⟩
    have w6 := w5.same sm6
    refine ⟨three_le, fun p7 hp7 => ?_⟩
    obtain ⟨I7, s7, w7, h7⟩ := w6.mkI hp7 (.tup [.str "asked", .int (nextN s), sV (foldL s.now)])
    refine ⟨lv, w7.has.2.2.2.2.2.2.1, by omega, ?_⟩
    have w8 := W.put6 w7 (o' := .lst (lv ++ [.ref p7]))
    have s17 := s1.trans (s3.trans s7)
    have ea : askS R s = { s with due := false, tries := s.tries + 1, sent := s.sent + 1, uw := sendU R s, asked := s.asked ++ [(nextN s, s.now)], flying := s.flying ++ [(nextN s, s.time)], log := s.log ++ [Lg.asked (nextN s) (foldL s.now)] } := by unfold askS; exact if_pos hc
    have en : askN R s sn = sn ++ [(s.time, s.now)] := if_pos hc
    refine hQ I7 _ s17 ?_
    rw [ea, en]
    refine ⟨ps, pc, pa, pf, pk, pg, vs, sv ++ [.ref p1], cv', kv, lv ++ [.ref p7], ?_, s17 _ _ hdl, rs2.mono (s3.trans s7), rc3.mono s7, rk.mono s17, sh.mono s17, ?_⟩
    · unfold nmA nmF
      rw [List.map_append, List.map_append]
      exact w8
    · rw [List.map_append]
      exact (rl.mono s17).snoc (.tup h7 (.cons (.str _) (.cons (.int _) (.cons (.str _) .nil))))
  cases hnd : nextDelay R.ds s.sent with
  | none =>
    rw [hnd] at last
    have eu : sendU R s = s.uw := by unfold sendU; rw [hnd]
    exact ite_nt rfl (last I1 _ cv (Sub.refl _) w2 (by rw [eu]; exact rc.mono s1))
  | some dd =>
    rw [hnd] at last
    have eu : sendU R s = s.uw ++ [(s.time + dd, nextN s, s.now)] := by unfold sendU; rw [hnd]; rfl
    refine ite_nf (fun q => by cases q) ⟨dd, rfl, two_le, fun p2 hp2 => ?_⟩
    obtain ⟨I3, s3, w3, h3⟩ := w2.mkI hp2 (.tup [.int (s.time + dd), .int (nextN s)])
    refine ⟨cv, w3.has.2.2.1, by omega, ?_⟩
    exact last I3 _ (cv ++ [.ref p2]) s3 (W.put2 w3 (o' := .lst (cv ++ [.ref p2]))) (by
      rw [eu, List.map_append]
      exact (rc.mono (s1.trans s3)).snoc (.tup h3 (.cons (.int _) (.cons (.int _) .nil))))
theorem pure__law_ask : ∀ vs H Q E, sp__law_ask K vs H Q E → t__law_ask K E { nx := fun _ H2 => Q .non H2, rt := Q } (L2.start nn__law_ask vs) H := by
  rintro vs H Q E ⟨I, M, a, R, s, sn, kk, rfl, ⟨ps, pc, pa, pf, pk, pg, vs, sv, cv, kv, lv, w, hdl, rs, rc, rk, sh, rl⟩, ow, hQ⟩
  have hb := line_big
  have okn := ow.ok.now
  have ln := okL_len okn
  have os := ow.os
  have hx := w.has.1
  have hf := w.has.2.2.2.2.1
  have hs := w.has.2.1
  unfold oOwn at hx
  unfold nmF at hf
  have fl := ow.ok.fl
  have svl := rs.len
  rw [List.length_map] at svl
  have snl := os.sl
  have no : ¬ askC R s → Q .non H := fun h => by
    have e1 : askS R s = s := by unfold askS; exact if_neg h
    have e2 : askN R s sn = sn := if_neg h
    exact hQ I H (Sub.refl _) (by rw [e1, e2]; exact ⟨ps, pc, pa, pf, pk, pg, vs, sv, cv, kv, lv, w, hdl, rs, rc, rk, sh, rl⟩)
  unfold t__law_ask
  sm! [hx, hf, hs, List.length_map]
  by_cases c1 : s.due = true
  · rw [if_pos c1]
    by_cases c2 : R.pause ≤ s.time - s.at_
    · refine ite_t c2 ?_
      by_cases c3 : (s.flying.length : Int) < R.asks
      · refine ite_t c3 ?_
        have hc : askC R s := ⟨c1, c2, c3⟩
        have w1 := (w.put (o' := oOwn a R { s with due := false } ps pc pa pf pk pg vs)).put (o' := oOwn a R { s with due := false, tries := s.tries + 1 } ps pc pa pf pk pg vs)
        exact ask2 w1 hdl rs rc rk sh rl ow hc hQ
      · exact ite_f c3 (no fun q => c3 q.2.2)
    · exact ite_f c2 (no fun q => c2 q.2.1)
  · rw [if_neg c1]
    exact no fun q => c1 q.1
theorem drop_all {s : AS} {w : Tx} (h : ∀ p ∈ s.asked, foldL p.2 ≠ w) : dropS s (some w) = dropS s none := by
  rw [dropN]
  unfold dropS
  have e1 : (s.asked.filter fun p => decide (some (foldL p.2) = some w)) = [] := by
    rw [List.filter_eq_nil_iff]
    intro p hp q
    exact h p hp (Option.some.inj (of_decide_eq_true q))
  have e2 : (s.asked.filter fun p => !decide (some (foldL p.2) = some w)) = s.asked := List.filter_eq_self.mpr fun p hp => by
    have := h p hp
    simp [this]
  rw [e1, e2]
theorem ok_pre0 {R : Rul} {k : Nat} {s : AS} {text : Tx} (h : OkS R k s) (ht : okL 12 text = true) : OkS R k (pre0 s text) := by
  unfold pre0
  split
  · exact { h with now := ht }
  · exact { h.drop (some (foldL text)) with now := ht }
theorem nk_near {R : Rul} {s : AS} (h : (s.ks.map (·.1)).Nodup) : ((nearS R s).ks.map (·.1)).Nodup := by
  unfold nearS
  split
  · exact h
  · split
    · exact nd_use _ h
    · split
      · exact h
      · split
        · exact h
        · split <;> exact h
theorem OwK.near {R : Rul} {k : Nat} {s : AS} {sn : List (Int × Tx)} (h : OwK R k s sn) : OwK R k (nearS R s) sn := ⟨h.ok.near, by rw [near_sent]; exact h.se, nk_near h.nk, by rw [near_sent]; exact h.ls⟩
theorem OwK.pre0 {R : Rul} {k : Nat} {s : AS} {sn : List (Int × Tx)} {text : Tx} (h : OwK R k s sn) (ht : okL 12 text = true) : OwK R k (pre0 s text) sn := by
  refine ⟨ok_pre0 h.ok ht, ?_, ?_, ?_⟩
  · unfold TA.pre0; split <;> exact h.se
  · unfold TA.pre0; split <;> exact h.nk
  · unfold TA.pre0; split <;> exact h.ls
theorem pure__law_put : ∀ vs H Q E, sp__law_put K vs H Q E → t__law_put K E { nx := fun _ H2 => Q .non H2, rt := Q } (L2.start nn__law_put vs) H := by
  rintro vs H Q E ⟨I, M, a, R, s, sn, text, rfl, ow0, ow, ia, okt, hQ⟩
  have hb := line_big
  have okn := ow.ok.now
  have ln := okL_len okn
  have lt := okL_len okt
  have os := ow.os
  -- typed, then near, then ask
  have fin : ∀ (I1 H1 : Hp) (s1 : AS), Sub I I1 → OwW I1 H1 a R s1 sn M → ({ s1 with now := text } : AS) = pre0 s text → t__law_put_B1_1 K E { nx := fun _ H2 => Q .non H2, rt := Q } [some (.ref a.o), some (sV text)] H1 := by
    intro I1 H1 s1 sb1 ⟨ps, pc, pa, pf, pk, pg, vs, sv, cv, kv, lv, w, hdl, rs, rc, rk, sh, rl⟩ e1
    have hx := w.has.1
    unfold oOwn at hx
    unfold t__law_put_B1_1
    sm! [hx]
    have w2 := w.put (o' := oOwn a R { s1 with now := text } ps pc pa pf pk pg vs)
    refine ⟨I1, M, a, R, { s1 with now := text }, sn, 0, rfl, ⟨ps, pc, pa, pf, pk, pg, vs, sv, cv, kv, lv, w2, hdl, rs, rc, rk, sh, rl⟩, by rw [e1]; exact ow.pre0 okt, fun I3 H3 s3 ow3 => ?_⟩
    rw [e1] at ow3
    exact ⟨I3, M, a, R, _, sn, 0, rfl, ow3, (ow.pre0 okt).near, fun I4 H4 s4 ow4 => hQ I4 H4 (sb1.trans (s3.trans s4)) ow4⟩
  have ow1 := ow0
  obtain ⟨ps, pc, pa, pf, pk, pg, vs, sv, cv, kv, lv, w, hdl, rs, rc, rk, sh, rl⟩ := ow0
  unfold t__law_put
  simp! [and_true]
  refine ⟨text, rfl, by omega, okL_all okt, fun H1 sm1 => ?_⟩
  have w1 := w.same sm1
  have hx1 := w1.has.1
  unfold oOwn at hx1
  sm! [hx1]
  refine ⟨s.now, rfl, by omega, okL_all okn, fun H2 sm2 => ?_⟩
  have w2 := w1.same sm2
  have ow2 : OwW I H2 a R s sn M := ⟨ps, pc, pa, pf, pk, pg, vs, sv, cv, kv, lv, w2, hdl, rs, rc, rk, sh, rl⟩
  sm! [S_eq]
  by_cases c : foldL text = foldL s.now
  · exact ite_nt c (fin I H2 s (Sub.refl _) ow2 (by unfold TA.pre0; rw [if_pos c]))
  · refine ite_nf c ?_
    refine ⟨I, M, a, R, s, sn, rfl, ow2, os, fun I3 H3 s3 ow3 => ?_⟩
    obtain ⟨ps, pc, pa, pf, pk, pg, vs, sv, cv, kv, lv, w3, hdl, rs, rc, rk, sh, rl⟩ := ow3
    have hx3 := w3.has.1
    unfold oOwn at hx3
    sm! [hx3]
    have w4 := w3.put (o' := oOwn a R { dropS s none with at_ := s.time } ps pc pa pf pk pg vs)
    refine ⟨text, rfl, by omega, okL_all okt, fun H5 sm5 => ?_⟩
    have w5 := w4.same sm5
    have hx5 := w5.has.1
    unfold oOwn at hx5
    sm! [hx5, lit_e, S_eq]
    have w6 := (w5.put (o' := oOwn a R { dropS s none with at_ := s.time, due := !decide (foldL text = []) } ps pc pa pf pk pg vs)).put (o' := oOwn a R { dropS s none with at_ := s.time, due := !decide (foldL text = []), tries := 0 } ps pc pa pf pk pg vs)
    refine fin I3 _ { dropS s none with at_ := s.time, due := !decide (foldL text = []), tries := 0 } s3 ⟨ps, pc, pa, pf, pk, pg, vs, sv, cv, kv, lv, w6, hdl, rs, rc, rk, sh, rl⟩ ?_
    unfold TA.pre0
    rw [if_neg c, drop_all fun p hp q => c (by rw [← q]; exact ia.af p hp)]
    have : decide (foldL text ≠ []) = !decide (foldL text = []) := by by_cases z : foldL text = [] <;> simp [z]
    rw [this]
end
end TA

set_option linter.all false
set_option maxRecDepth 100000
set_option maxHeartbeats 4000000
/-! The law's own asker: an answer comes. -/
namespace TA
open PySem L2 PyProof.Rows
open SX (S S_len S_inj S_cat S_tl)
local macro_rules | `(tactic| simp! [$as,*]) => `(tactic| first | simp only [L2.start, tSeq, tAsg, tOp, fFld, tVar, gIxL, gIxT, tCB, tCons, tNil, gLenL, gLenT, gLenS, rI, rI0, fSet, tIfS, tTest, tB, rNotN, rIsN, rEq, rNe, tC, tDrop, fBM, fBM0, gTy, rAppend, tTup, tLst, tRet, tRetN, tNext, gName, fTup, gCons, gNil, tCall, fCallS, fMeth, tMeth, fMethS, fMake, tMake, fMakeS, tUn, rU, tAnd, tOr, tNot, tAndV, tOrV, tNotV, tIf, tChain, gListL, gListT, tSl, tNoPart, tPart, gSlL, fRaise, gStrI, gCatS, gMin2, gMax2, gIntB, tYes, fLcL, fLcT, fLcS, fLcR1, fForL, fForR1, fForR2, fRev, fGetI, gGetI, gInI, gLenI, fPutI, fNewI,
  List.map_cons, List.map_nil, List.length_cons, List.length_nil, List.replicate, List.cons_append, List.nil_append, List.append_nil, List.getElem?_cons_zero, List.getElem?_cons_succ, List.set_cons_zero, List.set_cons_succ, reduceIte, Bool.not_true, Bool.not_false, Nat.reduceAdd, Nat.reduceSub, Bool.false_eq_true, eq_self,
  Option.some.injEq, V.int.injEq, V.ref.injEq, V.str.injEq, V.bl.injEq, HO.ins.injEq, HO.lst.injEq, HO.tup.injEq, HO.dK.injEq, List.cons.injEq, and_assoc, exists_eq_left', exists_and_left, and_true, true_and, true_or, or_true, false_or, or_false, exists_eq_left, exists_eq_right, exists_eq_right', exists_eq, exists_eq', exists_const, upd_same, sc_ii, sc_ss, sc_bb, sc_in, sc_ni, sc_ns, sc_sn, sc_nn, $as,*] | skip)
def sp__law_come (K : PySem.W.Frag) : Sp := fun vs H Q _ => ∃ (I : Hp) (M : List (Addr × HO)) (a : OA) (R : Rul) (rows : List Tx) (s : AS) (sn : List (Int × Tx)) (k : Nat) (n t : Int) (q : Tx), vs = [.ref a.o, .int n] ∧ OwW I H a R s sn M ∧ OwK R (k + 1) s sn ∧ Ls I M a.pr (.lst (rows.map sV)) ∧ rowsOk rows ∧ rows.length ≤ 90 ∧ okL 12 q = true ∧
  1 ≤ n ∧ sn[(n - 1).toNat]? = some (t, q) ∧ ∀ I' H', Sub I I' → OwW I' H' a R (comeS R rows s n q) sn M → Q .non H'
def t__law_come_B1_6 (K : PySem.W.Frag) (E : XK) : TS := tIfS (tTest (tOp (gInL false) (tVar 1) (fGetS (tVar 0) "asked"))) (tSeq (fPutS (tVar 0) "asked" (fLcL (fGetS (tVar 0) "asked") (gName 4) (tTest (tOp (rNe) (tVar 4) (tVar 1))) (tVar 4) [4])) (tSeq (tDrop (fBM "list" rAppend (fGetS (tVar 0) "log") (tCons (tTup (tCons (tC (.str "came")) (tCons (tVar 1) (tNil)))) (tNil)))) (tDrop (tCall (sp__law_show K) [] E (tCons (tVar 0) (tCons (tSl gSlL (tVar 3) (tNoPart) (tPart (fGetS (tVar 0) "many"))) (tNil))))))) (tSeq (tDrop (fBM "list" rAppend (fGetS (tVar 0) "log") (tCons (tTup (tCons (tC (.str "late")) (tCons (tVar 1) (tNil)))) (tNil)))) (tDrop (tCall (sp__law_near K) [] E (tCons (tVar 0) (tNil)))))
def t__law_come_B1_5 (K : PySem.W.Frag) (E : XK) : TS := tSeq (fPutS (tVar 0) "kept" (tIf (tTest (tOp (rI0 fun i j => .bl (decide (j < i))) (fGetS (tVar 0) "most") (tC (.int 0)))) (tSl gSlL (fGetS (tVar 0) "kept") (tPart (tUn (rU fun i => .int (-i)) (fGetS (tVar 0) "most"))) (tNoPart)) (tLst (tNil)))) (t__law_come_B1_6 K E)
def t__law_come_B1_4 (K : PySem.W.Frag) (E : XK) : TS := tSeq (tDrop (fBM "list" rAppend (fGetS (tVar 0) "kept") (tCons (tTup (tCons (tCall (sp__law_folded K) [] E (tCons (tVar 2) (tNil))) (tCons (tSl gSlL (tVar 3) (tNoPart) (tPart (fGetS (tVar 0) "many"))) (tCons (tOp (rI0 fun i j => .bl (decide (i ≤ j))) (tCB (gLenL) (tCons (tVar 3) (tNil))) (fGetS (tVar 0) "many")) (tCons (fGetS (tVar 0) "time") (tNil)))))) (tNil)))) (t__law_come_B1_5 K E)
def t__law_come_B1_3 (K : PySem.W.Frag) (E : XK) : TS := tSeq (fPutS (tVar 0) "kept" (fLcL (fGetS (tVar 0) "kept") (gName 4) (tTest (tOp (rNe) (tOp gIxT (tVar 4) (tC (.int 0))) (tCall (sp__law_folded K) [] E0 (tCons (tVar 2) (tNil))))) (tVar 4) [4])) (t__law_come_B1_4 K E)
def t__law_come_B1_2 (K : PySem.W.Frag) (E : XK) : TS := tSeq (fPutS (tVar 0) "flying" (fLcL (fGetS (tVar 0) "flying") (gName 4) (tTest (tOp (rNe) (tVar 4) (tVar 1))) (tVar 4) [4])) (t__law_come_B1_3 K E)
def t__law_come (K : PySem.W.Frag) (E : XK) : TS := tSeq (tAsg (tOp gIxT (tOp gIxL (fGetS (tVar 0) "sent") (tOp (rI0 fun i j => .int (i - j)) (tVar 1) (tC (.int 1)))) (tC (.int 1))) (gName 2)) (tSeq (tAsg (tCall (sp__law_best K) [] E (tCons (fGetS (tVar 0) "rows") (tCons (tVar 2) (tCons (tC (.int 99)) (tNil))))) (gName 3)) (t__law_come_B1_2 K E))
abbrev nn__law_come : List Str := ["own", "number", "query", "some", "one"]
section
variable {K : PySem.W.Frag}
theorem len__law_come : ∀ vs H Q E, sp__law_come K vs H Q E → vs.length = ["own", "number"].length := by
  rintro _ _ _ _ ⟨_, _, _, _, _, _, _, _, _, _, _, rfl, _⟩; rfl
theorem in_int {l : List (Int × Tx)} {n : Int} : inV (.int n) (l.map fun p => V.int p.1) = l.any fun p => decide (p.1 = n) := by
  unfold inV
  rw [List.any_map]
  refine List.any_congr rfl fun p => ?_
  show eqV (V.int p.1) (.int n) = _
  unfold eqV
  rw [Bool.eq_iff_iff]; simp
theorem ints_flat (l : List (Int × Tx)) : (l.map fun p => V.int p.1).all flatV = true := List.all_eq_true.mpr fun v hv => by obtain ⟨x, _, rfl⟩ := List.mem_map.mp hv; rfl
theorem at2_1c {a b : V} : atI [a, b] 1 = some b := atN (i := 1) rfl
theorem ans_99 {rows : List Tx} {q : Tx} {m : Int} (h0 : 0 ≤ m) (h6 : m ≤ 6) : (ansR rows q 99).take m.toNat = ansR rows q m := by
  unfold ansR
  rw [List.take_take, Nat.min_eq_left (by omega)]
/-- [one for one in numbers if one != n] -/
theorem comp_ints {β : Type} {l : List (Int × β)} {n : Int} {pa : Addr} {I H : Hp} {M : List (Addr × HO)} {Q : VK} {σ : L2.St} {j jn : Nat} (w : W I H M) (hl : l.length ≤ 1000000) (hsrc : ∀ D o H', W I H' ((D, o) :: M) → H' pa = some (.lst (l.map fun p => V.int p.1)))
    (hj : ∀ x, wipe ((wipe σ [j]).set j x) [j] = wipe σ [j]) (hjj : ∀ x : V, ((wipe σ [j]).set j (some x))[j]? = some (some x)) (hjn : ∀ x : V, ((wipe σ [j]).set j (some x))[jn]? = some (some (.int n)))
    (q : ∀ D H', W I H' ((D, .lst ((l.filter fun p => !decide (p.1 = n)).map fun p => V.int p.1)) :: M) → Q (.ref D) H') :
    CompW (fun H => H pa = some (.lst (l.map fun p => V.int p.1))) (l.map fun p => V.int p.1).length (fun i x => (l.map fun p => V.int p.1)[i]? = some x) (gName j) (tTest (tOp (rNe) (tVar j) (tVar jn))) (tVar j) [j] σ H Q := by
  have e1 : (l.map fun p => ((V.int p.1 : V), p)).map Prod.fst = l.map fun p => V.int p.1 := by rw [List.map_map]; rfl
  have e2 : ((l.map fun p => ((V.int p.1 : V), p)).filter fun z => !decide (z.2.1 = n)).map Prod.fst = (l.filter fun p => !decide (p.1 = n)).map fun p => V.int p.1 := by
    rw [List.filter_map, List.map_map]; rfl
  have h := comp_filter (zs := l.map fun p => ((V.int p.1 : V), p)) (p := fun z => !decide (z.2.1 = n)) (src := fun H => H pa = some (.lst (l.map fun p => V.int p.1))) (j := j) (tt := tTest (tOp (rNe) (tVar j) (tVar jn))) (σ := σ) (Q := Q) w (by rw [List.length_map]; exact hl) hj hjj hsrc (fun z hz D o H' Q' w' q' => by
    obtain ⟨p, _, rfl⟩ := List.mem_map.mp hz
    simp! [hjj, hjn]
    exact q') (fun D H' w' => q D H' (by rw [e2] at w'; exact w'))
  rw [e1] at h
  exact h
/-- behind what is kept: came or late -/
theorem come6 {I H : Hp} {M : List (Addr × HO)} {a : OA} {R : Rul} {rows : List Tx} {s : AS} {sn : List (Int × Tx)} {k : Nat} {n : Int} {q : Tx} {p99 : Addr} {Q : VK} {E : XK} {r2 r4 : Option V}
    (ow0 : OwW I H a R { s with flying := s.flying.filter fun p => !decide (p.1 = n), ks := putK R.most s.ks (foldL q, ansR rows q R.many, ansA rows q R.many, s.time) } sn M) (ow : OwK R (k + 1) s sn) (ro : rowsOk rows) (okq : okL 12 q = true) (h99 : I p99 = some (.lst ((ansR rows q 99).map sV)))
    (hQ : ∀ I' H', Sub I I' → OwW I' H' a R (comeS R rows s n q) sn M → Q .non H') : t__law_come_B1_6 K E { nx := fun _ H2 => Q .non H2, rt := Q } [some (.ref a.o), some (.int n), r2, some (.ref p99), r4] H := by
  have hb := line_big
  obtain ⟨ps, pc, pa, pf, pk, pg, vs, sv, cv, kv, lv, w, hdl, rs, rc, rk, sh, rl⟩ := ow0
  have os := ow.os
  have al := os.al
  have lll := os.ll
  have lvl := rl.len
  rw [List.length_map] at lvl
  have lvl : lv.length = s.log.length := lvl
  have hx := w.has.1
  have ha := w.has.2.2.2.1
  have hl := w.has.2.2.2.2.2.2.1
  unfold oOwn at hx
  unfold nmA at ha
  have hmany : 0 ≤ R.many ∧ R.many ≤ 6 := by
    have := ow.ok.many; unfold manyOk at this; have := of_decide_eq_true this; omega
  unfold t__law_come_B1_6
  sm! [hx, gInL, ha, hl, ints_flat, in_int]
  refine ⟨rfl, ?_⟩
  cases hc : (s.asked.any fun p => decide (p.1 = n)) with
  | true =>
    rw [if_pos rfl]
    refine comp_ints w (by omega) (fun D o H' w' => w'.has.2.2.2.2.1) (fun _ => rfl) (fun _ => rfl) (fun _ => rfl) fun D H2 w2 => ?_
    have hx2 := w2.has.2.1
    unfold oOwn at hx2
    sm! [hx2]
    have w3 := W.put1 w2 (o' := oOwn a R (came0 R rows s n q) ps pc D pf pk pg vs)
    have hx3 := w3.has.2.1
    have hl3 := w3.has.2.2.2.2.2.2.2.1
    unfold oOwn at hx3
    have ec : comeS R rows s n q = showS (came0 R rows s n q) (ansR rows q R.many) := by rw [comeS_eq, hc]; exact if_pos rfl
    refine ⟨.inl ⟨_, hl3⟩, two_le, fun p4 hp4 => ?_⟩
    obtain ⟨I4, s4, w4, h4⟩ := w3.mkI hp4 (.tup [.str "came", .int n])
    refine ⟨lv, w4.has.2.2.2.2.2.2.2.1, by omega, ?_⟩
    have w5 := W.putAt [_, _, _, _, _, _, _] w4 (o' := .lst (lv ++ [V.ref p4]))
    have hx5 := w5.has.2.1
    have h995 := w5.sub _ _ (s4 _ _ h99)
    unfold oOwn came0 at hx5
    sm! [hx5]
    refine ⟨_, h995, fun p6 hp6 => ?_⟩
    have ecut : cutV ((ansR rows q 99).map sV) none (some R.many) = (ansR rows q R.many).map sV := by rw [cut_take _ hmany.1, ans_99 hmany.1 hmany.2]
    rw [ecut]
    obtain ⟨I6, s6, w6, h6⟩ := w5.mkI hp6 (.lst ((ansR rows q R.many).map sV))
    have s16 := s4.trans s6
    have okc := ow.ok.came ro okq hc
    have w7 : W I6 _ ((a.o, oOwn a R (came0 R rows s n q) ps pc D pf pk pg vs) :: (ps, .lst sv) :: (pc, .lst cv) :: (D, nmA (came0 R rows s n q)) :: (pf, nmF (came0 R rows s n q)) :: (pk, .lst kv) :: (pg, .lst (lv ++ [V.ref p4])) :: M) := w6.sel [_, _, _, _, _, _, _, _] [1, 2, 3, 0, 5, 6, 7]
    have owc : OwK R k (came0 R rows s n q) sn := ⟨okc, ow.se, nd_put _ _ ow.nk, ow.ls⟩
    refine ⟨I6, M, a, R, came0 R rows s n q, sn, p6, ansR rows q R.many, rfl, ⟨ps, pc, D, pf, pk, pg, vs, sv, cv, kv, lv ++ [V.ref p4], w7, s16 _ _ hdl, rs.mono s16, rc.mono s16, rk.mono s16, sh.mono s16, ?_⟩, owc.os, h6, fun I8 H8 s8 ow8 => hQ I8 H8 (s16.trans s8) (by rw [ec]; exact ow8)⟩
    show RpAll I6 _ ((s.log ++ [Lg.came n]).map lgD)
    rw [List.map_append]
    exact (rl.mono s16).snoc (.tup (s6 _ _ h4) (.cons (.str _) (.cons (.int _) .nil)))
  | false =>
    rw [if_neg (by decide)]
    refine ⟨two_le, fun p2 hp2 => ?_⟩
    obtain ⟨I2, s2, w2, h2⟩ := w.mkI hp2 (.tup [.str "late", .int n])
    refine ⟨lv, w2.has.2.2.2.2.2.2.1, by omega, ?_⟩
    have w3 : W I2 _ ((a.o, oOwn a R (late0 R rows s n q) ps pc pa pf pk pg vs) :: (ps, .lst sv) :: (pc, .lst cv) :: (pa, nmA (late0 R rows s n q)) :: (pf, nmF (late0 R rows s n q)) :: (pk, .lst kv) :: (pg, .lst (lv ++ [V.ref p2])) :: M) := W.put6 w2 (o' := .lst (lv ++ [.ref p2]))
    have ec : comeS R rows s n q = nearS R (late0 R rows s n q) := by rw [comeS_eq, hc]; exact if_neg (by decide)
    refine ⟨I2, M, a, R, late0 R rows s n q, sn, k, rfl, ⟨ps, pc, pa, pf, pk, pg, vs, sv, cv, kv, lv ++ [V.ref p2], w3, s2 _ _ hdl, rs.mono s2, rc.mono s2, rk.mono s2, sh.mono s2, ?_⟩, ⟨ow.ok.late ro okq, ow.se, nd_put _ _ ow.nk, ow.ls⟩, fun I4 H4 s4 ow4 => hQ I4 H4 (s2.trans s4) (by rw [ec]; exact ow4)⟩
    show RpAll I2 _ ((s.log ++ [Lg.late n]).map lgD)
    rw [List.map_append]
    exact (rl.mono s2).snoc (.tup h2 (.cons (.str _) (.cons (.int _) .nil)))
theorem pure__law_come : ∀ vs H Q E, sp__law_come K vs H Q E → t__law_come K E { nx := fun _ H2 => Q .non H2, rt := Q } (L2.start nn__law_come vs) H := by
  rintro vs H Q E ⟨I, M, a, R, rows, s, sn, k, n, t, q, rfl, ⟨ps, pc, pa, pf, pk, pg, vs, sv, cv, kv, lv, w, hdl, rs, rc, rk, sh, rl⟩, ow, hr, ro, rl90, okq, n1, hsn, hQ⟩
  have hb := line_big
  have os := ow.os
  have lq := okL_len okq
  have hmany : 0 ≤ R.many ∧ R.many ≤ 6 := by
    have := ow.ok.many; unfold manyOk at this; have := of_decide_eq_true this; omega
  have hx := w.has.1
  have hs := w.has.2.1
  unfold oOwn at hx
  -- what was sent
  obtain ⟨ss, es1, es2, ens⟩ := enc_of rs
  subst es1
  have hni : ss[(n - 1).toNat]? ≠ none := by
    intro z
    have : sn[(n - 1).toNat]? = none := by rw [es2, List.getElem?_map, z]; rfl
    rw [hsn] at this; cases this
  obtain ⟨zz, hzz⟩ := Option.ne_none_iff_exists'.mp hni
  have ezz : zz.2 = (t, q) := by
    rw [es2, List.getElem?_map, hzz] at hsn
    exact Option.some.inj hsn
  have rz := ens zz (List.mem_of_getElem? hzz)
  rw [ezz] at rz
  obtain ⟨pz, ez1, hpz⟩ : ∃ pz, zz.1 = .ref pz ∧ I pz = some (.tup [.int t, sV q]) := by
    generalize zz.1 = v at rz
    cases rz with
    | tup a b => cases b with
      | cons c d => cases c; cases d with
        | cons e f => cases e; cases f; exact ⟨_, rfl, a⟩
  have hat : atI (ss.map Prod.fst) (n - 1) = some (.ref pz) := by
    rw [show n - 1 = (((n - 1).toNat : Nat) : Int) by omega]
    exact atN (by rw [List.getElem?_map, hzz, ← ez1]; rfl)
  unfold t__law_come
  sm! [hx, hs, hat, w.sub _ _ hpz, at2_1c]
  refine ⟨I, _, a.pr, rows, q, 99, rfl, w, ?_, ro, okq, by decide, fun I1 H1 p99 s1 w1 h99 => ?_⟩
  · exact hr.elim .inl fun h => .inr (List.mem_cons_of_mem _ (List.mem_cons_of_mem _ (List.mem_cons_of_mem _ (List.mem_cons_of_mem _ (List.mem_cons_of_mem _ (List.mem_cons_of_mem _ (List.mem_cons_of_mem _ h)))))))
  have hx1 := w1.has.1
  have hf1 := w1.has.2.2.2.2.1
  unfold oOwn at hx1
  unfold nmF at hf1
  have fl := ow.ok.fl
  unfold t__law_come_B1_2
  sm! [hx1, hf1]
  refine comp_ints w1 (by omega) (fun D o H' w' => w'.has.2.2.2.2.2.1) (fun _ => rfl) (fun _ => rfl) (fun _ => rfl) fun D H2 w2 => ?_
  have hx2 := w2.has.2.1
  unfold oOwn at hx2
  sm! [hx2]
  have w3 : W I1 _ ((a.o, oOwn a R { s with flying := s.flying.filter fun p => !decide (p.1 = n) } ps pc pa D pk pg vs) :: (ps, .lst (ss.map Prod.fst)) :: (pc, .lst cv) :: (pa, nmA s) :: (D, nmF { s with flying := s.flying.filter fun p => !decide (p.1 = n) }) :: (pk, .lst kv) :: (pg, .lst lv) :: M) := (W.put1 w2 (o' := oOwn a R { s with flying := s.flying.filter fun p => !decide (p.1 = n) } ps pc pa D pk pg vs)).sel [_, _, _, _, _, _, _, _] [1, 2, 3, 4, 0, 6, 7]
  obtain ⟨zs, ek1, ek2, enk⟩ := enc_of (rk.mono s1)
  subst ek1
  have zl : zs.length = s.ks.length := by rw [ek2, List.length_map]
  have kl := ow.ok.kl
  have hx3 := w3.has.1
  have hk3 := w3.has.2.2.2.2.2.1
  unfold oOwn at hx3 hk3
  unfold t__law_come_B1_3
  sm! [hx3, hk3]
  refine comp_pure (n := (zs.map Prod.fst).length) (fun i => (zs[i]?).bind fun z => if decide (z.2.1 = foldL q) = true then none else some z.1) w3 (by rw [List.length_map]; omega) (fun D o H' w' => w'.has.2.2.2.2.2.2.1) ?_ ?_
  · rintro D5 i x acc H' T F hi hxi w' kT kF
    rw [List.getElem?_map, Option.map_eq_some_iff] at hxi
    obtain ⟨z, hz, rfl⟩ := hxi
    obtain ⟨t, l2, e1, e2⟩ := keep_turn enk (Sub.refl _) w' (List.mem_of_getElem? hz)
    simp! [wipe, e1, e2, at4_0]
    refine ⟨q, rfl, by omega, okL_all okq, fun H5 sm5 => ?_⟩
    have w5 := w'.same sm5
    by_cases c : z.2.1 = foldL q
    · have : (if (!decide (sV z.2.1 = sV (foldL q))) = true then T (V.ref t) H5 else F H5) := ite_nt (by rw [c]) (kF H5 (by rw [hz]; simp [c]) w5)
      exact ⟨rfl, this⟩
    · have : (if (!decide (sV z.2.1 = sV (foldL q))) = true then T (V.ref t) H5 else F H5) := ite_nf (fun h => c (S_inj (V.str.inj h))) (kT _ H5 (by rw [hz, ← e1]; simp [c]) w5)
      exact ⟨rfl, this⟩
  intro D4 H4 w4
  have e4 : (List.range (zs.map Prod.fst).length).filterMap (fun i => (zs[i]?).bind fun z => if decide (z.2.1 = foldL q) = true then none else some z.1) = (zs.filter fun z => !decide (z.2.1 = foldL q)).map Prod.fst := by
    rw [List.length_map, fm_list (g := fun z : V × Kp => if decide (z.2.1 = foldL q) = true then none else some z.1) (fun i a h => by rw [h]; rfl)]
    generalize zs = l
    induction l with
    | nil => rfl
    | cons z zs ih => by_cases cc : z.2.1 = foldL q <;> simp [List.filterMap_cons, List.filter_cons, cc] <;> simpa using ih
  rw [e4] at w4
  have hx4 := w4.has.2.1
  unfold oOwn at hx4
  sm! [hx4]
  have w5 : W I1 _ ((a.o, oOwn a R { s with flying := s.flying.filter fun p => !decide (p.1 = n) } ps pc pa D D4 pg vs) :: (ps, .lst (ss.map Prod.fst)) :: (pc, .lst cv) :: (pa, nmA s) :: (D, nmF { s with flying := s.flying.filter fun p => !decide (p.1 = n) }) :: (D4, .lst ((zs.filter fun z => !decide (z.2.1 = foldL q)).map Prod.fst)) :: (pg, .lst lv) :: M) := (W.put1 w4 (o' := oOwn a R { s with flying := s.flying.filter fun p => !decide (p.1 = n) } ps pc pa D D4 pg vs)).sel [_, _, _, _, _, _, _, _] [1, 2, 3, 4, 5, 0, 7]
  have hx5 := w5.has.1
  have hk5 := w5.has.2.2.2.2.2.1
  unfold oOwn at hx5 hk5
  unfold t__law_come_B1_4
  sm! [hx5, hk5]
  refine ⟨q, rfl, by omega, okL_all okq, fun H6 sm6 => ?_⟩
  have w6 := w5.same sm6
  have hx6 := w6.has.1
  unfold oOwn at hx6
  sm! [hx6, w6.sub _ _ h99]
  intro p7 hp7
  have ecut : cutV ((ansR rows q 99).map sV) none (some R.many) = (ansR rows q R.many).map sV := by rw [cut_take _ hmany.1, ans_99 hmany.1 hmany.2]
  rw [ecut]
  obtain ⟨I7, s7, w7, h7⟩ := w6.mkI hp7 (.lst ((ansR rows q R.many).map sV))
  have hx7 := w7.has.1
  unfold oOwn at hx7
  sm! [hx7, w7.sub _ _ (s7 _ _ h99), List.length_map]
  have e99 : decide (((ansR rows q 99).length : Int) ≤ R.many) = ansA rows q R.many := by
    unfold ansA ansR
    rw [List.take_of_length_le (by have := best_len rows q; omega)]
  rw [e99]
  refine ⟨by omega, fun p8 hp8 => ?_⟩
  obtain ⟨I8, s8, w8, h8⟩ := w7.mkI hp8 (.tup [sV (foldL q), .ref p7, .bl (ansA rows q R.many), .int s.time])
  have fle := List.length_filter_le (fun z : V × Kp => !decide (z.2.1 = foldL q)) zs
  refine ⟨_, w8.has.2.2.2.2.2.1, by rw [List.length_map]; omega, ?_⟩
  generalize hys : zs.filter (fun z => !decide (z.2.1 = foldL q)) ++ [((V.ref p8 : V), ((foldL q, ansR rows q R.many, ansA rows q R.many, s.time) : Kp))] = ys
  have e6 : (zs.filter (fun z => !decide (z.2.1 = foldL q))).map Prod.fst ++ [V.ref p8] = ys.map Prod.fst := by rw [← hys]; simp
  have es6 : ys.map Prod.snd = dropK s.ks (foldL q) ++ [(foldL q, ansR rows q R.many, ansA rows q R.many, s.time)] := by
    rw [← hys, ek2]; unfold dropK
    rw [List.map_append, List.filter_map]; rfl
  have en6 : Enc I8 kpD ys := by
    rw [← hys]
    exact ((enk.filter _).mono (s7.trans s8)).snoc (kp_rp (k := (foldL q, ansR rows q R.many, ansA rows q R.many, s.time)) h8 (s8 _ _ h7))
  have yl : ys.length ≤ 7 := by rw [← hys, List.length_append]; simp only [List.length_singleton]; omega
  rw [e6]
  have w9 := W.put5 w8 (o' := .lst (ys.map Prod.fst))
  have hx9 := w9.has.1
  have hk9 := w9.has.2.2.2.2.2.1
  unfold oOwn at hx9
  unfold t__law_come_B1_5
  sm! [hx9, hk9]
  have eput : putK R.most s.ks (foldL q, ansR rows q R.many, ansA rows q R.many, s.time) = (lastN R.most ys).map Prod.snd := by
    unfold putK lastN
    rw [List.map_drop, es6, ← List.length_map (f := Prod.snd) (as := ys), es6]
  have s18 := s1.trans (s7.trans s8)
  -- what is kept is cut
  have last : ∀ (H10 : Hp) (p10 : Addr), W I8 H10 ((p10, .lst ((lastN R.most ys).map Prod.fst)) :: (a.o, oOwn a R { s with flying := s.flying.filter fun p => !decide (p.1 = n) } ps pc pa D D4 pg vs) :: (ps, .lst (ss.map Prod.fst)) :: (pc, .lst cv) :: (pa, nmA s) :: (D, nmF { s with flying := s.flying.filter fun p => !decide (p.1 = n) }) :: (D4, .lst (ys.map Prod.fst)) :: (pg, .lst lv) :: M) →
      ∃ x, H10 a.o = some (dS x) ∧ (lkS x (Str.ofString "kept")).isSome = true ∧ x.length < 1000 ∧ t__law_come_B1_6 K E { nx := fun x H2 => Q V.non H2, rt := Q } [some (V.ref a.o), some (V.int n), some (sV q), some (V.ref p99), none] (upd H10 a.o (dS (putS' (Str.ofString "kept") (V.ref p10) x))) := by
    intro H10 p10 w10
    have hx10 := w10.has.2.1
    unfold oOwn at hx10
    sm! [hx10]
    have w11 : W I8 _ ((a.o, oOwn a R { s with flying := s.flying.filter fun p => !decide (p.1 = n), ks := putK R.most s.ks (foldL q, ansR rows q R.many, ansA rows q R.many, s.time) } ps pc pa D p10 pg vs) :: (ps, .lst (ss.map Prod.fst)) :: (pc, .lst cv) :: (pa, nmA s) :: (D, nmF { s with flying := s.flying.filter fun p => !decide (p.1 = n) }) :: (p10, .lst ((lastN R.most ys).map Prod.fst)) :: (pg, .lst lv) :: M) := (W.put1 w10 (o' := oOwn a R { s with flying := s.flying.filter fun p => !decide (p.1 = n), ks := putK R.most s.ks (foldL q, ansR rows q R.many, ansA rows q R.many, s.time) } ps pc pa D p10 pg vs)).sel [_, _, _, _, _, _, _, _] [1, 2, 3, 4, 5, 0, 7]
    refine come6 (s := s) (k := k) (rows := rows) (q := q) ⟨ps, pc, pa, D, p10, pg, vs, ss.map Prod.fst, cv, (lastN R.most ys).map Prod.fst, lv, w11, s18 _ _ hdl, rs.mono s18, rc.mono s18, ?_, sh.mono s18, rl.mono s18⟩ ow ro okq ((s7.trans s8) _ _ h99) fun I' H' s' ow' => hQ I' H' (s18.trans s') ow'
    show RpAll I8 _ ((putK R.most s.ks (foldL q, ansR rows q R.many, ansA rows q R.many, s.time)).map kpD)
    rw [eput, List.map_map]
    exact (en6.sub fun z hz => List.mem_of_mem_drop hz).all
  by_cases c5 : 0 < R.most
  · refine ite_t c5 ?_
    intro p10 hp10
    have hcut : cutV (ys.map Prod.fst) (some (-R.most)) none = (lastN R.most ys).map Prod.fst := by
      unfold cutV lastN
      rw [HT.sIx_none]
      have e2 : HT.sIx (ys.map Prod.fst).length 0 (some (-R.most)) = ((ys.length : Int) - R.most).toNat := by rw [List.length_map]; unfold HT.sIx; simp only []; rw [if_pos (by omega)]; omega
      rw [e2, List.take_of_length_le (by simp), List.map_drop]
    rw [hcut]
    exact last _ p10 (w9.newM hp10)
  · refine ite_f c5 ⟨Nat.zero_le _, fun p10 hp10 => ?_⟩
    have e0 : lastN R.most ys = [] := by unfold lastN; exact List.drop_of_length_le (by omega)
    have := w9.newM (o := .lst ((lastN R.most ys).map Prod.fst)) hp10
    rw [e0] at this last
    exact last _ p10 this
end
end TA

set_option linter.all false
set_option maxRecDepth 100000
set_option maxHeartbeats 2000000
/-! The law's own asker, a tick, plain. -/
namespace TA
open PySem L2 PyProof.Rows
open SX (S S_len S_inj S_cat S_tl)
/-- what was sent tells of what flies and of what is to come -/
structure Cs (P : List (Int × Int × Tx)) (sn : List (Int × Tx)) (s : AS) : Prop where
  fl : ∀ p ∈ s.flying, 1 ≤ p.1 ∧ ∃ q, sn[(p.1 - 1).toNat]? = some (p.2, q)
  uw : ∀ u ∈ P, 1 ≤ u.2.1 ∧ ∃ t, sn[(u.2.1 - 1).toNat]? = some (t, u.2.2)
  nd : (P.map (·.2.1)).Nodup
  so : (s.flying.map (·.1)).Pairwise (· < ·)
theorem lt_cm (x y : Int × Int × Tx) : PySem.W.dataLt (cmD y) (cmD x) = decide (y.1 < x.1 ∨ (y.1 = x.1 ∧ y.2.1 < x.2.1)) := by
  unfold cmD
  rw [PySem.W.dataLt_tuple]
  by_cases c : y.1 = x.1
  · rw [PySem.W.dataLt_all_yes (by simp [PySem.W.alike]) (by simp [PyData.eqv, c])]
    by_cases c2 : y.2.1 = x.2.1
    · rw [PySem.W.dataLt_all_yes (by simp [PySem.W.alike]) (by simp [PyData.eqv, c2])]
      rw [PyProof.Rows.lex_irrefl]
      simp [c, c2]
    · rw [PySem.W.dataLt_all_no (by simp [PySem.W.alike]) (by simp [PyData.eqv]; omega), PySem.W.dataLt_int]
      rw [decide_eq_decide]; omega
  · rw [PySem.W.dataLt_all_no (by simp [PySem.W.alike]) (by simp [PyData.eqv]; omega), PySem.W.dataLt_int]
    rw [decide_eq_decide]; omega
theorem lt_ask {x y : Int × Int × Tx} (h : ¬ (y.1 = x.1 ∧ y.2.1 = x.2.1)) : PySem.W.dataLt (askD (uw1 y)) (askD (uw1 x)) = decide (y.1 < x.1 ∨ (y.1 = x.1 ∧ y.2.1 < x.2.1)) := by
  unfold askD uw1
  rw [PySem.W.dataLt_tuple]
  by_cases c : y.1 = x.1
  · rw [PySem.W.dataLt_all_yes (by simp [PySem.W.alike]) (by simp [PyData.eqv, c]), PySem.W.dataLt_all_no (by simp [PySem.W.alike]) (by simp [PyData.eqv]; omega), PySem.W.dataLt_int]
    rw [decide_eq_decide]
    simp only []
    omega
  · rw [PySem.W.dataLt_all_no (by simp [PySem.W.alike]) (by simp [PyData.eqv]; omega), PySem.W.dataLt_int]
    rw [decide_eq_decide]
    simp only []
    omega
theorem nodup_same {l : List (Int × Int × Tx)} (nd : (l.map (·.2.1)).Nodup) {x y : Int × Int × Tx} (hx : x ∈ l) (hy : y ∈ l) (e : x.2.1 = y.2.1) : x = y := by
  obtain ⟨i, hi, rfl⟩ := List.mem_iff_getElem.mp hx
  obtain ⟨j, hj, rfl⟩ := List.mem_iff_getElem.mp hy
  have h1 : (l.map (·.2.1))[i]? = some l[i].2.1 := by rw [List.getElem?_map, List.getElem?_eq_getElem hi]; rfl
  have h2 : (l.map (·.2.1))[j]? = some l[i].2.1 := by rw [List.getElem?_map, List.getElem?_eq_getElem hj, e]; rfl
  have := nodup_ix_any nd h1 h2
  subst this
  rfl
theorem sort_cm {l : List (Int × Int × Tx)} (nd : (l.map (·.2.1)).Nodup) : l.mergeSort (leD cmD) = sortU l := by
  unfold sortU
  refine PySem.W.sort_congr fun a ha b hb => ?_
  by_cases e : a.2.1 = b.2.1
  · have := nodup_same nd ha hb e
    subst this
    unfold leD dle
    rw [show PySem.W.dataLt (cmD a) (cmD a) = false from PyProof.Rows.lex_irrefl _, show PySem.W.dataLt (askD (uw1 a)) (askD (uw1 a)) = false from PyProof.Rows.lex_irrefl _]
  · unfold leD dle
    rw [lt_cm, lt_ask fun q => e q.2.symm]
theorem cm_sorts : Sorts cmD := ⟨fun x y => by simp [cmD, PySem.W.alike, PySem.W.alikeAll], .inl fun x => ⟨_, _, rfl⟩, fun x => by simp [cmD, PyData.depth, PyData.depthAll]⟩
/-! ### what comes does not look at what is to come -/
section
variable {R : Rul} {rows : List Tx} {s : AS} {u : List (Int × Int × Tx)}
theorem drop_suw (w : Option Tx) : dropS { s with uw := u } w = { dropS s w with uw := u } := rfl
theorem show_suw (rs : List Tx) : showS { s with uw := u } rs = { showS s rs with uw := u } := rfl
theorem near_suw : nearS R { s with uw := u } = { nearS R s with uw := u } := by
  obtain ⟨b1, b2, b3, b4, b5, b6, b7, shown, b8, b9, b10, b11⟩ := s
  cases shown with
  | none =>
    unfold nearS
    by_cases c : foldL b2 = []
    · simp only [c, if_true]
    · simp only [c, if_false]
      split <;> rfl
  | some v =>
    obtain ⟨k, rs, old⟩ := v
    have hf : freshS ⟨b1, b2, b3, b4, b5, b6, b7, some (k, rs, old), b8, b9, u, b11⟩ = freshS ⟨b1, b2, b3, b4, b5, b6, b7, some (k, rs, old), b8, b9, b10, b11⟩ := rfl
    unfold nearS
    simp only [hf]
    by_cases c : foldL b2 = []
    · simp only [c, if_true]
    · simp only [c, if_false]
      cases srcK b11 (foldL b2) b1 R.term with
      | some one => rfl
      | none =>
        simp only []
        cases freshS ⟨b1, b2, b3, b4, b5, b6, b7, some (k, rs, old), b8, b9, b10, b11⟩ with
        | true => rfl
        | false =>
          by_cases c3 : ansR rs b2 R.many = []
          · simp [c3]
          · simp [c3]
theorem come_suw {n : Int} {q : Tx} : comeS R rows { s with uw := u } n q = { comeS R rows s n q with uw := u } := by
  rw [comeS_eq, comeS_eq]
  by_cases c : (s.asked.any fun p => decide (p.1 = n)) = true
  · rw [if_pos c, if_pos c]; rfl
  · rw [if_neg c, if_neg c]; exact near_suw (s := late0 R rows s n q)
theorem nk_come {n : Int} {q : Tx} (h : (s.ks.map (·.1)).Nodup) : ((comeS R rows s n q).ks.map (·.1)).Nodup := by
  rw [comeS_eq]
  split
  · exact nd_put _ _ h
  · exact nk_near (s := late0 R rows s n q) (nd_put _ _ h)
theorem come_fl {n : Int} {q : Tx} : (comeS R rows s n q).flying = s.flying.filter fun p => !decide (p.1 = n) := by
  rw [comeS_eq]
  split
  · rfl
  · have : ∀ s : AS, (nearS R s).flying = s.flying := fun s => by
      unfold nearS
      split
      · rfl
      · split
        · rfl
        · split
          · rfl
          · split
            · rfl
            · split <;> rfl
    rw [this]; rfl
theorem comes_snoc {l : List (Int × Int × Tx)} {x : Int × Int × Tx} : comeAll R rows s (l ++ [x]) = comeS R rows (comeAll R rows s l) x.2.1 x.2.2 := by
  unfold comeAll; rw [List.foldl_append]; rfl
theorem nk_comes : ∀ (l : List (Int × Int × Tx)) {s : AS}, (s.ks.map (·.1)).Nodup → ((comeAll R rows s l).ks.map (·.1)).Nodup
  | [], _, h => h
  | x :: l, _, h => nk_comes l (nk_come h)
theorem comes_fl : ∀ (l : List (Int × Int × Tx)) (s : AS), (comeAll R rows s l).flying.Sublist s.flying
  | [], _ => List.Sublist.refl _
  | x :: l, s => (comes_fl l (comeS R rows s x.2.1 x.2.2)).trans (by rw [come_fl]; exact List.filter_sublist)
/-! ### what is lost -/
theorem lost_mem {n : Int} {p : Int × Int} (hp : p ∈ s.flying) (h : p.1 ≠ n) : p ∈ (lostS R s n).flying := by
  unfold lostS
  split
  · simp only []
    split
    · exact List.mem_filter.mpr ⟨hp, by simpa using h⟩
    · exact List.mem_filter.mpr ⟨hp, by simpa using h⟩
  · exact hp
theorem losts_time : ∀ (l : List Int) (s : AS), (l.foldl (lostS R) s).time = s.time
  | [], _ => rfl
  | n :: l, s => (losts_time l _).trans lost_time.1
theorem losts_mem : ∀ {l : List Int} {s : AS} {p : Int × Int}, p ∈ s.flying → p.1 ∉ l → p ∈ (l.foldl (lostS R) s).flying
  | [], _, _, h, _ => h
  | n :: l, _, p, h, hn => losts_mem (l := l) (lost_mem h fun e => hn (by rw [e]; exact List.mem_cons_self)) fun q => hn (List.mem_cons_of_mem _ q)
theorem lost_fl (n : Int) : (lostS R s n).flying.Sublist s.flying := by
  unfold lostS
  split
  · simp only []
    split <;> exact List.filter_sublist
  · exact List.Sublist.refl _
theorem losts_fl : ∀ (l : List Int) (s : AS), (l.foldl (lostS R) s).flying.Sublist s.flying
  | [], _ => List.Sublist.refl _
  | n :: l, s => (losts_fl l _).trans (lost_fl n)
theorem losts_ks : ∀ (l : List Int) (s : AS), (l.foldl (lostS R) s).ks = s.ks := fun l s => (losts_sh R l s).2.2
theorem again_eq (so : (s.flying.map (·.1)).Pairwise (· < ·)) : againT R s = (s.flying.map (·.1)).foldl (lostS R) s := by
  unfold againT
  rw [List.mergeSort_of_pairwise (so.imp fun h => decide_eq_true (Int.le_of_lt h))]
end
/-! ### kept -/
section
variable {R : Rul} {rows : List Tx} {s : AS} {sn : List (Int × Tx)}
theorem Cs.near {P : List (Int × Int × Tx)} (h : Cs P sn s) : Cs P sn (nearS R s) := by
  have : (nearS R s).flying = s.flying := by
    unfold nearS
    split
    · rfl
    · split
      · rfl
      · split
        · rfl
        · split
          · rfl
          · split <;> rfl
  exact ⟨by rw [this]; exact h.fl, h.uw, h.nd, by rw [this]; exact h.so⟩
theorem get_app {α : Type} {l : List α} {x y : α} {i : Nat} (h : l[i]? = some y) : (l ++ [x])[i]? = some y := by
  rw [List.getElem?_append_left (List.getElem?_eq_some_iff.mp h).1]; exact h
theorem Cs.ask (h : Cs s.uw sn s) (ls : sn.length = s.sent) (fs : ∀ p ∈ s.flying, p.1 ≤ s.sent) (us : ∀ u ∈ s.uw, u.2.1 ≤ s.sent) : Cs (askS R s).uw (askN R s sn) (askS R s) := by
  by_cases c : askC R s
  · have ea : askS R s = { s with due := false, tries := s.tries + 1, sent := s.sent + 1, uw := sendU R s, asked := s.asked ++ [(nextN s, s.now)], flying := s.flying ++ [(nextN s, s.time)], log := s.log ++ [Lg.asked (nextN s) (foldL s.now)] } := by unfold askS; exact if_pos c
    have en : askN R s sn = sn ++ [(s.time, s.now)] := if_pos c
    have eN : (nextN s - 1).toNat = sn.length := by unfold nextN; omega
    have hN : 1 ≤ nextN s := by unfold nextN; omega
    have hl : (sn ++ [(s.time, s.now)])[(nextN s - 1).toNat]? = some (s.time, s.now) := by rw [eN]; simp
    rw [ea, en]
    refine ⟨fun p hp => ?_, fun u hu => ?_, ?_, ?_⟩
    · rcases List.mem_append.mp hp with q | q
      · obtain ⟨a, b, e⟩ := h.fl p q
        exact ⟨a, b, get_app e⟩
      · rw [List.mem_singleton.mp q]
        exact ⟨hN, _, hl⟩
    · have hu : u ∈ sendU R s := hu
      unfold sendU at hu
      split at hu
      · obtain ⟨a, b, e⟩ := h.uw u hu
        exact ⟨a, b, get_app e⟩
      · rcases List.mem_append.mp hu with q | q
        · obtain ⟨a, b, e⟩ := h.uw u q
          exact ⟨a, b, get_app e⟩
        · rw [List.mem_singleton.mp q]
          exact ⟨hN, _, hl⟩
    · show ((sendU R s).map (·.2.1)).Nodup
      unfold sendU
      split
      · exact h.nd
      · rw [List.map_append, List.nodup_append]
        refine ⟨h.nd, by simp, fun a ha b hb => ?_⟩
        obtain ⟨u, hu, rfl⟩ := List.mem_map.mp ha
        simp only [List.map_cons, List.map_nil, List.mem_singleton] at hb
        have := us u hu
        omega
    · show ((s.flying ++ [(nextN s, s.time)]).map (·.1)).Pairwise (· < ·)
      rw [List.map_append, List.pairwise_append]
      refine ⟨h.so, by simp, fun a ha b hb => ?_⟩
      obtain ⟨p, hp, rfl⟩ := List.mem_map.mp ha
      simp only [List.map_cons, List.map_nil, List.mem_singleton] at hb
      have := fs p hp
      unfold nextN at hb
      omega
  · have ea : askS R s = s := by unfold askS; exact if_neg c
    have en : askN R s sn = sn := if_neg c
    rw [ea, en]; exact h
theorem askN_len (ls : sn.length = s.sent) : (askN R s sn).length = (askS R s).sent := by
  by_cases c : askC R s
  · have ea : (askS R s).sent = s.sent + 1 := by
      have : askS R s = { s with due := false, tries := s.tries + 1, sent := s.sent + 1, uw := sendU R s, asked := s.asked ++ [(nextN s, s.now)], flying := s.flying ++ [(nextN s, s.time)], log := s.log ++ [Lg.asked (nextN s) (foldL s.now)] } := by unfold askS; exact if_pos c
      rw [this]
    rw [ea, show askN R s sn = sn ++ [(s.time, s.now)] from if_pos c, List.length_append, ls]; rfl
  · have ea : askS R s = s := by unfold askS; exact if_neg c
    rw [ea, show askN R s sn = sn from if_neg c, ls]
end
/-! ### what is still to come, as the answers come one by one -/
def remU (uw l : List (Int × Int × Tx)) : List (Int × Int × Tx) := uw.filter fun u => !(l.any fun x => decide (x.2.1 = u.2.1))
section
variable {R : Rul} {rows : List Tx} {s : AS} {sn : List (Int × Tx)} {uw l : List (Int × Int × Tx)}
theorem remU_nil : remU uw [] = uw := by unfold remU; simp
theorem remU_snoc (x : Int × Int × Tx) : (remU uw l).filter (fun u => !decide (u.2.1 = x.2.1)) = remU uw (l ++ [x]) := by
  unfold remU
  rw [List.filter_filter]
  refine List.filter_congr fun u _ => ?_
  rw [List.any_append]
  by_cases c : x.2.1 = u.2.1
  · simp [c]
  · have : ¬ u.2.1 = x.2.1 := fun q => c q.symm
    simp [c, this]
theorem due_nodup {t : Int} (nd : (uw.map (·.2.1)).Nodup) : ((dueU t uw).map (·.2.1)).Nodup := by
  unfold dueU sortU
  exact ((List.mergeSort_perm _ _).map _).nodup_iff.mpr (nd.sublist (List.filter_sublist.map _))
theorem remU_due {t : Int} (nd : (uw.map (·.2.1)).Nodup) : remU uw (dueU t uw) = restU t uw := by
  unfold remU restU
  refine List.filter_congr fun u hu => ?_
  by_cases c : t < u.1
  · have : ((dueU t uw).any fun x => decide (x.2.1 = u.2.1)) = false := by
      rw [List.any_eq_false]
      intro x hx q
      have hx := mem_due.mp hx
      have := nodup_same nd hx.1 hu (of_decide_eq_true q)
      subst this
      omega
    rw [this]; simp [c]
  · have : ((dueU t uw).any fun x => decide (x.2.1 = u.2.1)) = true := List.any_eq_true.mpr ⟨u, mem_due.mpr ⟨hu, by omega⟩, by simp⟩
    rw [this]; simp [c]
theorem remU_mem {i : Nat} {y : Int × Int × Tx} (nd : (l.map (·.2.1)).Nodup) (hy : l[i]? = some y) (hu : y ∈ uw) : y ∈ remU uw (l.take i) := by
  unfold remU
  refine List.mem_filter.mpr ⟨hu, ?_⟩
  have : ((l.take i).any fun x => decide (x.2.1 = y.2.1)) = false := by
    rw [List.any_eq_false]
    intro x hx q
    obtain ⟨j, hj, e⟩ := List.mem_iff_getElem.mp hx
    have hj' : j < i := by rw [List.length_take] at hj; omega
    have e2 : l[j]? = some x := by
      rw [List.getElem_take] at e
      rw [← e]; exact List.getElem?_eq_getElem _
    have h1 : (l.map (·.2.1))[i]? = some y.2.1 := by rw [List.getElem?_map, hy]; rfl
    have h2 : (l.map (·.2.1))[j]? = some y.2.1 := by rw [List.getElem?_map, e2, ← of_decide_eq_true q]; rfl
    have := nodup_ix_any nd h1 h2
    omega
  rw [this]; rfl
/-- the asker, so many answers having come -/
def stC (R : Rul) (rows : List Tx) (s : AS) (l : List (Int × Int × Tx)) : AS := { comeAll R rows (tick0 s) l with uw := remU s.uw l }
theorem stC_nil : stC R rows s [] = { s with time := s.time + 1 } := by
  unfold stC; rw [remU_nil]; rfl
theorem stC_snoc (x : Int × Int × Tx) : stC R rows s (l ++ [x]) = comeS R rows { stC R rows s l with uw := (stC R rows s l).uw.filter fun u => !decide (u.2.1 = x.2.1) } x.2.1 x.2.2 := by
  have e : (stC R rows s l).uw.filter (fun u => !decide (u.2.1 = x.2.1)) = remU s.uw (l ++ [x]) := remU_snoc x
  rw [e]
  unfold stC
  rw [comes_snoc]
  exact (come_suw (s := comeAll R rows (tick0 s) l) (u := remU s.uw (l ++ [x]))).symm
theorem stC_all (nd : (s.uw.map (·.2.1)).Nodup) : stC R rows s (dueU (s.time + 1) s.uw) = comeAll R rows (tick0 s) (dueU (s.time + 1) s.uw) := by
  unfold stC
  rw [remU_due nd]
  have := comes_uw R rows (dueU (s.time + 1) s.uw) (tick0 s)
  have e : restU (s.time + 1) s.uw = (comeAll R rows (tick0 s) (dueU (s.time + 1) s.uw)).uw := this.symm
  rw [e]
theorem stC_sent : (stC R rows s l).sent = s.sent := comes_sent R rows l (tick0 s)
theorem OwK.come {k : Nat} {n : Int} {q : Tx} (h : OwK R (k + 1) s sn) (ro : rowsOk rows) (hq : okL 12 q = true) : OwK R k (comeS R rows s n q) sn := by
  have e : (comeS R rows s n q).sent = s.sent := comes_sent R rows [(0, n, q)] s
  exact ⟨h.ok.come ro hq, by rw [e]; exact h.se, nk_come h.nk, by rw [e]; exact h.ls⟩
theorem OwK.fewer {k : Nat} {x : Int × Int × Tx} (h : OwK R k s sn) (hx : x ∈ s.uw) : OwK R (k + 1) { s with uw := s.uw.filter fun u => !decide (u.2.1 = x.2.1) } sn := by
  refine ⟨{ h.ok with qu := fun p hp => h.ok.qu p (List.mem_filter.mp hp).1, lg := ?_ }, h.se, h.nk, h.ls⟩
  have := h.ok.lg
  have := filter_len_lt (p := fun u : Int × Int × Tx => !decide (u.2.1 = x.2.1)) hx (by simp)
  simp only []
  omega
theorem lost_ks (n : Int) : (lostS R s n).ks = s.ks := losts_ks [n] s
theorem OwK.lost {k : Nat} (h : OwK R k s sn) (n : Int) : OwK R k (lostS R s n) sn := ⟨h.ok.lost n, by rw [lost_sent]; exact h.se, by rw [lost_ks]; exact h.nk, by rw [lost_sent]; exact h.ls⟩
theorem OwK.losts {k : Nat} : ∀ {l : List Int} {s : AS}, OwK R k s sn → OwK R k (l.foldl (lostS R) s) sn
  | [], _, h => h
  | x :: l, _, h => OwK.losts (l := l) (h.lost x)
theorem OwK.ask {k : Nat} (h : OwK R k s sn) (hs : s.sent ≤ 30000) : OwK R k (askS R s) (askN R s sn) := by
  refine ⟨h.ok.ask, ?_, ?_, askN_len h.ls⟩
  · have : (askS R s).sent ≤ s.sent + 1 := (ask_sent R s).1
    omega
  · have : (askS R s).ks = s.ks := by unfold askS; split <;> rfl
    rw [this]; exact h.nk
end
end TA

set_option linter.all false
set_option maxRecDepth 100000
set_option maxHeartbeats 4000000
/-! The law's own asker: a tick. -/
namespace TA
open PySem L2 PyProof.Rows
open SX (S S_len S_inj S_cat S_tl)
local macro_rules | `(tactic| simp! [$as,*]) => `(tactic| first | simp only [L2.start, tSeq, tAsg, tOp, fFld, tVar, gIxL, gIxT, tCB, tCons, tNil, gLenL, gLenT, gLenS, rI, rI0, fSet, tIfS, tTest, tB, rNotN, rIsN, rEq, rNe, tC, tDrop, fBM, fBM0, gTy, rAppend, tTup, tLst, tRet, tRetN, tNext, gName, fTup, gCons, gNil, tCall, fCallS, fMeth, tMeth, fMethS, fMake, tMake, fMakeS, tUn, rU, tAnd, tOr, tNot, tAndV, tOrV, tNotV, tIf, tChain, gListL, gListT, tSl, tNoPart, tPart, gSlL, fRaise, gStrI, gCatS, gMin2, gMax2, gIntB, tYes, fLcL, fLcT, fLcS, fLcR1, fForL, fForR1, fForR2, fRev, fGetI, gGetI, gInI, gLenI, fPutI, fNewI,
  List.map_cons, List.map_nil, List.length_cons, List.length_nil, List.replicate, List.cons_append, List.nil_append, List.append_nil, List.getElem?_cons_zero, List.getElem?_cons_succ, List.set_cons_zero, List.set_cons_succ, reduceIte, Bool.not_true, Bool.not_false, Nat.reduceAdd, Nat.reduceSub, Bool.false_eq_true, eq_self,
  Option.some.injEq, V.int.injEq, V.ref.injEq, V.str.injEq, V.bl.injEq, HO.ins.injEq, HO.lst.injEq, HO.tup.injEq, HO.dK.injEq, List.cons.injEq, and_assoc, exists_eq_left', exists_and_left, and_true, true_and, true_or, or_true, false_or, or_false, exists_eq_left, exists_eq_right, exists_eq_right', exists_eq, exists_eq', exists_const, upd_same, sc_ii, sc_ss, sc_bb, sc_in, sc_ni, sc_ns, sc_sn, sc_nn, $as,*] | skip)
def stT (R : Rul) (rows : List Tx) (s : AS) : AS := againT R (comeAll R rows (tick0 s) (dueU (s.time + 1) s.uw))
def stepN (R : Rul) (rows : List Tx) (s : AS) (sn : List (Int × Tx)) : List (Int × Tx) := askN R (stT R rows s) sn
def sp__law_step (K : PySem.W.Frag) : Sp := fun vs H Q _ => ∃ (I : Hp) (M : List (Addr × HO)) (a : OA) (R : Rul) (rows : List Tx) (s : AS) (sn : List (Int × Tx)), vs = [.ref a.o] ∧ OwW I H a R s sn M ∧ OwK R 0 s sn ∧ Cs s.uw sn s ∧ Ls I M a.pr (.lst (rows.map sV)) ∧ rowsOk rows ∧ rows.length ≤ 90 ∧
  ∀ I' H', Sub I I' → OwW I' H' a R (stepS R rows s) (stepN R rows s sn) M → Q .non H'
def t__law_step_L1_1 (K : PySem.W.Frag) (E : XK) : TS := tDrop (tCall (sp__law_come K) [] E (tCons (tVar 0) (tCons (tVar 2) (tNil))))
def t__law_step_L1_0 (K : PySem.W.Frag) (E : XK) : TS := tSeq (fPutS (tVar 0) "coming" (fLcL (fGetS (tVar 0) "coming") (gName 3) (tTest (tOp (rNe) (tOp gIxT (tVar 3) (tC (.int 1))) (tVar 2))) (tVar 3) [3])) (t__law_step_L1_1 K E)
def t__law_step_L2_0 (K : PySem.W.Frag) (E : XK) : TS := tIfS (tTest (tOp (rI0 fun i j => .bl (decide (j ≤ i))) (tOp (rI0 fun i j => .int (i - j)) (fGetS (tVar 0) "time") (tOp gIxT (tOp gIxL (fGetS (tVar 0) "sent") (tOp (rI0 fun i j => .int (i - j)) (tVar 2) (tC (.int 1)))) (tC (.int 0)))) (fGetS (tVar 0) "patience"))) (tSeq (fPutS (tVar 0) "flying" (fLcL (fGetS (tVar 0) "flying") (gName 3) (tTest (tOp (rNe) (tVar 3) (tVar 2))) (tVar 3) [3])) (tIfS (tTest (tOp (gInL false) (tVar 2) (fGetS (tVar 0) "asked"))) (tSeq (fPutS (tVar 0) "asked" (fLcL (fGetS (tVar 0) "asked") (gName 3) (tTest (tOp (rNe) (tVar 3) (tVar 2))) (tVar 3) [3])) (tSeq (tDrop (fBM "list" rAppend (fGetS (tVar 0) "log") (tCons (tTup (tCons (tC (.str "lost")) (tCons (tVar 2) (tNil)))) (tNil)))) (fPutS (tVar 0) "due" (tOp (rI0 fun i j => .bl (decide (i < j))) (fGetS (tVar 0) "tries") (tC (.int 3)))))) (tNext))) (tNext)
def t__law_step_B1_3 (K : PySem.W.Frag) (E : XK) : TS := tDrop (tCall (sp__law_ask K) [] E (tCons (tVar 0) (tNil)))
def t__law_step_B1_2 (K : PySem.W.Frag) (E : XK) : TS := tSeq (fForL (tCB (gListL) (tCons (fGetS (tVar 0) "flying") (tNil))) (gName 2) (t__law_step_L2_0 K E)) (t__law_step_B1_3 K E)
def t__law_step (K : PySem.W.Frag) (E : XK) : TS := tSeq (fPutS (tVar 0) "time" (tOp (rI0 fun i j => .int (i + j)) (fGetS (tVar 0) "time") (tC (.int 1)))) (tSeq (fForL (tCB (gSortD) (tCons (fLcL (fGetS (tVar 0) "coming") (gName 3) (tTest (tOp (rI0 fun i j => .bl (decide (i ≤ j))) (tOp gIxT (tVar 3) (tC (.int 0))) (fGetS (tVar 0) "time"))) (tVar 3) [3]) (tNil))) (fTup 2 (gCons (gName 1) (gCons (gName 2) (gNil)))) (t__law_step_L1_0 K E)) (t__law_step_B1_2 K E))
abbrev nn__law_step : List Str := ["own", "when", "number", "one"]
section
variable {K : PySem.W.Frag}
theorem len__law_step : ∀ vs H Q E, sp__law_step K vs H Q E → vs.length = ["own"].length := by
  rintro _ _ _ _ ⟨_, _, _, _, _, _, _, rfl, _⟩; rfl
theorem at2_0c {a b : V} : atI [a, b] 0 = some a := atN (i := 0) rfl
theorem cm_rp {I : Hp} {v : V} {x : Int × Int × Tx} (h : Rp I v (cmD x)) : ∃ t, v = .ref t ∧ I t = some (.tup [.int x.1, .int x.2.1]) := by
  unfold cmD at h
  cases h with
  | tup a b => cases b with
    | cons c d => cases c; cases d with
      | cons e f => cases e; cases f; exact ⟨_, rfl, a⟩
theorem sn_rp {I : Hp} {v : V} {x : Int × Tx} (h : Rp I v (snD x)) : ∃ t, v = .ref t ∧ I t = some (.tup [.int x.1, sV x.2]) := by
  unfold snD at h
  cases h with
  | tup a b => cases b with
    | cons c d => cases c; cases d with
      | cons e f => cases e; cases f; exact ⟨_, rfl, a⟩
/-- the loop over what comes -/
structure PSt1 (I : Hp) (a : OA) (R : Rul) (rows : List Tx) (s : AS) (sn : List (Int × Tx)) (due : List (Int × Int × Tx)) (M : List (Addr × HO)) (i : Nat) (σ : L2.St) (H : Hp) : Prop where
  ex : ∃ (I' : Hp) (rest : List (Option V)), σ = some (.ref a.o) :: rest ∧ rest.length = 3 ∧ Sub I I' ∧ OwW I' H a R (stC R rows s (due.take i)) sn M ∧ OwK R 0 (stC R rows s (due.take i)) sn
theorem turn1 {I H : Hp} {a : OA} {R : Rul} {rows : List Tx} {s : AS} {sn : List (Int × Tx)} {M : List (Addr × HO)} {rest : List (Option V)} {E : XK} {D : Ends} {y : Int × Int × Tx} (ro : rowsOk rows) (rl90 : rows.length ≤ 90)
    (h : OwW I H a R s sn M) (hr : rest.length = 3) (hk : OwK R 0 s sn) (hp : Ls I M a.pr (.lst (rows.map sV))) (hy : y ∈ s.uw) (h1 : 1 ≤ y.2.1) {t : Int} (hsn : sn[(y.2.1 - 1).toNat]? = some (t, y.2.2))
    (nx : ∀ I' H' rest, rest.length = 3 → Sub I I' → OwW I' H' a R (comeS R rows { s with uw := s.uw.filter fun u => !decide (u.2.1 = y.2.1) } y.2.1 y.2.2) sn M → D.nx (some (.ref a.o) :: rest) H') : t__law_step_L1_0 K E D (((some (.ref a.o) :: rest).set 1 (some (.int y.1))).set 2 (some (.int y.2.1))) H := by
  have hb := line_big
  obtain ⟨ps, pc, pa, pf, pk, pg, vs, sv, cv, kv, lv, w, hdl, rs, rc, rk, sh, rl⟩ := h
  match rest, hr with
  | [r1, r2, r3], _ =>
  have hx := w.has.1
  have hc := w.has.2.2.1
  unfold oOwn at hx
  have okq := hk.ok.qu y hy
  obtain ⟨zs, ez1, ez2, enz⟩ := enc_of rc
  subst ez1
  have zl : zs.length ≤ 1000000 := by
    have : zs.length = s.uw.length := by rw [ez2, List.length_map]
    have := hk.os.ul
    omega
  unfold t__law_step_L1_0
  sm! [hx, hc]
  refine comp_filter (p := fun z => !decide (z.2.2.1 = y.2.1)) w zl (fun _ => rfl) (fun _ => rfl) (fun D o H' w' => w'.has.2.2.2.1) (fun z hz D o H' Q' w' q' => ?_) fun D2 H2 w2 => ?_
  · obtain ⟨t, e1, e2⟩ := cm_rp (enz z hz)
    have e2 := w'.sub _ _ e2
    sm! [wipe, e1, e2, at2_1c]
    by_cases c : z.2.2.1 = y.2.1
    · simpa [c] using q'
    · simpa [c] using q'
  have hx2 := w2.has.2.1
  unfold oOwn at hx2
  sm! [hx2]
  have w3 := (W.put1 w2 (o' := oOwn a R { s with uw := s.uw.filter fun u => !decide (u.2.1 = y.2.1) } ps D2 pa pf pk pg vs)).sel [_, _, _, _, _, _, _, _] [1, 2, 0, 4, 5, 6, 7]
  unfold t__law_step_L1_1
  sm! []
  refine ⟨I, M, a, R, rows, { s with uw := s.uw.filter fun u => !decide (u.2.1 = y.2.1) }, sn, 0, y.2.1, t, y.2.2, rfl, ⟨ps, D2, pa, pf, pk, pg, vs, sv, _, kv, lv, w3, hdl, rs, ?_, rk, sh, rl⟩, hk.fewer hy, hp, ro, rl90, okq, h1, hsn, fun I' H' s' ow' => nx I' H' _ rfl s' ow'⟩
  have : (s.uw.filter fun u => !decide (u.2.1 = y.2.1)) = (zs.filter fun z => !decide (z.2.2.1 = y.2.1)).map Prod.snd := by rw [ez2, List.filter_map]; rfl
  show RpAll I _ ((s.uw.filter fun u => !decide (u.2.1 = y.2.1)).map cmD)
  rw [this, List.map_map]
  exact (enz.filter _).all
/-- the loop over what flies -/
structure PSt2 (I : Hp) (a : OA) (R : Rul) (s : AS) (sn : List (Int × Tx)) (ns : List Int) (M : List (Addr × HO)) (i : Nat) (σ : L2.St) (H : Hp) : Prop where
  ex : ∃ (I' : Hp) (rest : List (Option V)), σ = some (.ref a.o) :: rest ∧ rest.length = 3 ∧ Sub I I' ∧ OwW I' H a R ((ns.take i).foldl (lostS R) s) sn M
theorem turn2 {I H : Hp} {a : OA} {R : Rul} {s : AS} {sn : List (Int × Tx)} {M : List (Addr × HO)} {rest : List (Option V)} {E : XK} {D : Ends} {p : Int × Int}
    (h : OwW I H a R s sn M) (hr : rest.length = 3) (hk : OwK R 0 s sn) (hp : p ∈ s.flying) (h1 : 1 ≤ p.1) {q : Tx} (hsn : sn[(p.1 - 1).toNat]? = some (p.2, q))
    (nx : ∀ I' H' rest, rest.length = 3 → Sub I I' → OwW I' H' a R (lostS R s p.1) sn M → D.nx (some (.ref a.o) :: rest) H') : t__law_step_L2_0 K E D ((some (.ref a.o) :: rest).set 2 (some (.int p.1))) H := by
  have hb := line_big
  have ow0 := h
  obtain ⟨ps, pc, pa, pf, pk, pg, vs, sv, cv, kv, lv, w, hdl, rs, rc, rk, sh, rl⟩ := h
  match rest, hr with
  | [r1, r2, r3], _ =>
  have os := hk.os
  have hx := w.has.1
  have hs := w.has.2.1
  have hf := w.has.2.2.2.2.1
  unfold oOwn at hx
  unfold nmF at hf
  obtain ⟨ss, es1, es2, ens⟩ := enc_of rs
  subst es1
  have hni : ss[(p.1 - 1).toNat]? ≠ none := by
    intro z
    have : sn[(p.1 - 1).toNat]? = none := by rw [es2, List.getElem?_map, z]; rfl
    rw [hsn] at this; cases this
  obtain ⟨zz, hzz⟩ := Option.ne_none_iff_exists'.mp hni
  have ezz : zz.2 = (p.2, q) := by
    rw [es2, List.getElem?_map, hzz] at hsn
    exact Option.some.inj hsn
  have rz := ens zz (List.mem_of_getElem? hzz)
  rw [ezz] at rz
  obtain ⟨pz, ez1, hpz⟩ := sn_rp rz
  have hat : atI (ss.map Prod.fst) (p.1 - 1) = some (.ref pz) := by
    rw [show p.1 - 1 = (((p.1 - 1).toNat : Nat) : Int) by omega]
    exact atN (by rw [List.getElem?_map, hzz, ← ez1]; rfl)
  have hc : (s.flying.any fun p' => decide (p'.1 = p.1 ∧ R.pat ≤ s.time - p'.2)) = decide (R.pat ≤ s.time - p.2) := by
    rw [Bool.eq_iff_iff, List.any_eq_true, decide_eq_true_iff]
    constructor
    · rintro ⟨p', h1, h2⟩
      have h2 := of_decide_eq_true h2
      obtain ⟨i, hi, rfl⟩ := List.mem_iff_getElem.mp h1
      obtain ⟨j, hj, rfl⟩ := List.mem_iff_getElem.mp hp
      have q1 : (s.flying.map (·.1))[i]? = some s.flying[j].1 := by rw [List.getElem?_map, List.getElem?_eq_getElem hi, ← h2.1]; rfl
      have q2 : (s.flying.map (·.1))[j]? = some s.flying[j].1 := by rw [List.getElem?_map, List.getElem?_eq_getElem hj]; rfl
      have := nodup_ix_any hk.ok.nf q1 q2
      subst this
      exact h2.2
    · exact fun h => ⟨p, hp, by simpa using h⟩
  unfold t__law_step_L2_0
  sm! [hx, hs, hat, w.sub _ _ hpz, at2_0c]
  by_cases c1 : R.pat ≤ s.time - p.2
  · refine ite_t c1 ?_
    have el : lostS R s p.1 = if (s.asked.any fun p' => decide (p'.1 = p.1)) = true then { s with flying := s.flying.filter fun p' => !decide (p'.1 = p.1), asked := s.asked.filter fun p' => !decide (p'.1 = p.1), log := s.log ++ [.lost p.1], due := decide (s.tries < 3) } else { s with flying := s.flying.filter fun p' => !decide (p'.1 = p.1) } := by
      unfold lostS
      rw [hc, if_pos (decide_eq_true c1)]
    sm! [hx, hf]
    refine comp_ints w (by have := os.fl; omega) (fun D o H' w' => w'.has.2.2.2.2.2.1) (fun _ => rfl) (fun _ => rfl) (fun _ => rfl) fun D2 H2 w2 => ?_
    have hx2 := w2.has.2.1
    unfold oOwn at hx2
    sm! [hx2]
    have w3 := (W.put1 w2 (o' := oOwn a R { s with flying := s.flying.filter fun p' => !decide (p'.1 = p.1) } ps pc pa D2 pk pg vs)).sel [_, _, _, _, _, _, _, _] [1, 2, 3, 4, 0, 6, 7]
    have hx3 := w3.has.1
    have ha3 := w3.has.2.2.2.1
    unfold oOwn at hx3 ha3
    unfold nmA at ha3
    sm! [hx3, ha3, gInL, ints_flat, in_int]
    refine ⟨rfl, ?_⟩
    cases c2 : (s.asked.any fun p' => decide (p'.1 = p.1)) with
    | false =>
      rw [c2, if_neg (by decide)] at el
      rw [el] at nx
      exact nx I _ _ rfl (Sub.refl _) ⟨ps, pc, pa, D2, pk, pg, vs, _, cv, kv, lv, w3, hdl, rs, rc, rk, sh, rl⟩
    | true =>
      rw [c2, if_pos rfl] at el
      rw [el] at nx
      sm! [hx3, ha3]
      refine comp_ints w3 (by have := os.al; omega) (fun D o H' w' => w'.has.2.2.2.2.1) (fun _ => rfl) (fun _ => rfl) (fun _ => rfl) fun D4 H4 w4 => ?_
      have hx4 := w4.has.2.1
      unfold oOwn at hx4
      sm! [hx4]
      have w5 := (W.put1 w4 (o' := oOwn a R { s with flying := s.flying.filter fun p' => !decide (p'.1 = p.1), asked := s.asked.filter fun p' => !decide (p'.1 = p.1) } ps pc D4 D2 pk pg vs)).sel [_, _, _, _, _, _, _, _] [1, 2, 3, 0, 5, 6, 7]
      have hx5 := w5.has.1
      have hl5 := w5.has.2.2.2.2.2.2.1
      unfold oOwn at hx5 hl5
      sm! [hx5, hl5]
      refine ⟨two_le, fun p6 hp6 => ?_⟩
      obtain ⟨I6, s6, w6, h6⟩ := w5.mkI hp6 (.tup [.str "lost", .int p.1])
      have lvl := rl.len
      rw [List.length_map] at lvl
      have := os.ll
      refine ⟨lv, w6.has.2.2.2.2.2.2.1, by omega, ?_⟩
      have w7 := W.put6 w6 (o' := .lst (lv ++ [.ref p6]))
      have hx7 := w7.has.1
      unfold oOwn at hx7
      sm! [hx7]
      have w8 := w7.put (o' := oOwn a R { s with flying := s.flying.filter fun p' => !decide (p'.1 = p.1), asked := s.asked.filter fun p' => !decide (p'.1 = p.1), due := decide (s.tries < 3) } ps pc D4 D2 pk pg vs)
      refine nx I6 _ _ rfl s6 ⟨ps, pc, D4, D2, pk, pg, vs, _, cv, kv, lv ++ [V.ref p6], ?_, s6 _ _ hdl, rs.mono s6, rc.mono s6, rk.mono s6, sh.mono s6, ?_⟩
      · exact w8
      rw [List.map_append]
      exact (rl.mono s6).snoc (.tup h6 (.cons (.str _) (.cons (.int _) .nil)))
  · refine ite_f c1 ?_
    have el : lostS R s p.1 = s := by unfold lostS; rw [hc, if_neg (by simpa using c1)]
    rw [el] at nx
    exact nx I H _ rfl (Sub.refl _) ow0
theorem step2 {I H : Hp} {a : OA} {R : Rul} {s : AS} {sn : List (Int × Tx)} {M : List (Addr × HO)} {r1 r2 r3 : Option V} {E : XK} {Q : VK}
    (h : OwW I H a R s sn M) (hk : OwK R 0 s sn) (fl : ∀ p ∈ s.flying, 1 ≤ p.1 ∧ ∃ q, sn[(p.1 - 1).toNat]? = some (p.2, q)) (so : (s.flying.map (·.1)).Pairwise (· < ·))
    (hQ : ∀ I' H', Sub I I' → OwW I' H' a R (askS R (againT R s)) (askN R (againT R s) sn) M → Q .non H') : t__law_step_B1_2 K E { nx := fun _ H2 => Q .non H2, rt := Q } [some (.ref a.o), r1, r2, r3] H := by
  have hb := line_big
  obtain ⟨ps, pc, pa, pf, pk, pg, vs, sv, cv, kv, lv, w, hdl, rs, rc, rk, sh, rl⟩ := h
  have hx := w.has.1
  have hf := w.has.2.2.2.2.1
  unfold oOwn at hx
  unfold nmF at hf
  unfold t__law_step_B1_2
  sm! [hx, hf]
  intro L hL
  obtain ⟨I1, s1, w1, h1⟩ := w.mkI hL (.lst (s.flying.map fun p => V.int p.1))
  have hL1 := w1.sub _ _ h1
  sm! [hL1]
  have nf : ((s.flying.map (·.1)).Nodup) := so.imp fun h => by omega
  refine ⟨PSt2 I1 a R s sn (s.flying.map (·.1)) M, ⟨I1, _, rfl, rfl, Sub.refl _, ⟨ps, pc, pa, pf, pk, pg, vs, sv, cv, kv, lv, w1, s1 _ _ hdl, rs.mono s1, rc.mono s1, rk.mono s1, sh.mono s1, rl.mono s1⟩⟩, ?_, ?_, ?_⟩
  · rintro i σ H' _ ⟨I', rest, rfl, hr, s', ow'⟩
    obtain ⟨_, _, _, _, _, _, _, _, _, _, _, w', _⟩ := ow'
    exact w'.sub _ _ (s' _ _ h1)
  · rintro i x σ H' hi ⟨I', rest, rfl, hr, s', ow'⟩
    rw [List.getElem?_map, Option.map_eq_some_iff] at hi
    obtain ⟨p, hp, rfl⟩ := hi
    have hpm := List.mem_of_getElem? hp
    obtain ⟨f1, q, f2⟩ := fl p hpm
    have hn : (s.flying.map (·.1))[i]? = some p.1 := by rw [List.getElem?_map, hp]; rfl
    have hnot : p.1 ∉ (s.flying.map (·.1)).take i := by
      intro hm
      obtain ⟨j, hj, e⟩ := List.mem_iff_getElem.mp hm
      have hj' : j < i := by rw [List.length_take] at hj; omega
      have e2 : (s.flying.map (·.1))[j]? = some p.1 := by
        rw [List.getElem_take] at e
        rw [← e]; exact List.getElem?_eq_getElem _
      have := nodup_ix_any nf hn e2
      omega
    simp! [and_true]
    refine turn2 ow' hr hk.losts (losts_mem hpm hnot) f1 f2 fun I2 H2 rest2 hr2 s2 ow2 => ⟨I2, rest2, rfl, hr2, s'.trans s2, ?_⟩
    rw [take_succ_get hn, List.foldl_append]
    exact ow2
  · rintro σ H' ⟨I', rest, rfl, hr, s', ow'⟩
    match rest, hr with
    | [r1, r2, r3], _ =>
    rw [List.length_map, List.take_of_length_le (by rw [List.length_map]; exact Nat.le_refl _), ← again_eq so] at ow'
    unfold t__law_step_B1_3
    sm! []
    exact ⟨I', M, a, R, _, sn, 0, rfl, ow', by rw [again_eq so]; exact hk.losts, fun I2 H2 s2 ow2 => hQ I2 H2 (s1.trans (s'.trans s2)) ow2⟩
theorem pure__law_step : ∀ vs H Q E, sp__law_step K vs H Q E → t__law_step K E { nx := fun _ H2 => Q .non H2, rt := Q } (L2.start nn__law_step vs) H := by
  rintro vs H Q E ⟨I, M, a, R, rows, s, sn, rfl, ⟨ps, pc, pa, pf, pk, pg, vs, sv, cv, kv, lv, w, hdl, rs, rc, rk, sh, rl⟩, hk, cs, hp, ro, rl90, hQ⟩
  have hb := line_big
  have os := hk.os
  have hx := w.has.1
  unfold oOwn at hx
  obtain ⟨zs, ez1, ez2, enz⟩ := enc_of rc
  subst ez1
  have zl : zs.length ≤ 1000000 := by
    have : zs.length = s.uw.length := by rw [ez2, List.length_map]
    have := os.ul
    omega
  unfold t__law_step
  sm! [hx]
  have w1 := w.put (o' := oOwn a R { s with time := s.time + 1 } ps pc pa pf pk pg vs)
  have hx1 := w1.has.1
  have hc1 := w1.has.2.2.1
  unfold oOwn at hx1 hc1
  sm! [hx1, hc1]
  refine comp_filter (p := fun z => decide (z.2.1 ≤ s.time + 1)) w1 zl (fun _ => rfl) (fun _ => rfl) (fun D o H' w' => w'.has.2.2.2.1) (fun z hz D o H' Q' w' q' => ?_) fun D2 H2 w2 => ?_
  · obtain ⟨t, e1, e2⟩ := cm_rp (enz z hz)
    have e2 := w'.sub _ _ e2
    have hx' := w'.has.2.1
    unfold oOwn at hx'
    sm! [wipe, e1, e2, at2_0c, hx']
    exact q'
  sm! []
  have en2 : Enc I cmD (zs.filter fun z => decide (z.2.1 ≤ s.time + 1)) := enz.filter _
  refine sortD_use cm_sorts w2.has.1 (en2.mono w2.sub) fun L hL => ?_
  obtain ⟨I3, s3, w3', h3⟩ := w2.mkI hL (.lst (((zs.filter fun z => decide (z.2.1 ≤ s.time + 1)).mergeSort fun x y => leD cmD x.2 y.2).map Prod.fst))
  have w3 := w3'.sel [_] []
  clear w3'
  have en3 := (sort_enc en2).mono s3
  have edu : ((zs.filter fun z => decide (z.2.1 ≤ s.time + 1)).mergeSort fun x y => leD cmD x.2 y.2).map Prod.snd = dueU (s.time + 1) s.uw := by
    rw [sort_snd]
    unfold sortE dueU
    have : (zs.filter fun z => decide (z.2.1 ≤ s.time + 1)).map Prod.snd = s.uw.filter fun x => decide (x.1 ≤ s.time + 1) := by rw [ez2, List.filter_map]; rfl
    rw [this]
    exact sort_cm (cs.nd.sublist (List.filter_sublist.map _))
  generalize (zs.filter fun z => decide (z.2.1 ≤ s.time + 1)).mergeSort (fun x y => leD cmD x.2 y.2) = ds at *
  have hL3 := w3.sub _ _ h3
  sm! [hL3]
  have ok1 : OwK R 0 { s with time := s.time + 1 } sn := ⟨{ hk.ok with }, hk.se, hk.nk, hk.ls⟩
  refine ⟨PSt1 I3 a R rows s sn (ds.map Prod.snd) M, ⟨I3, _, rfl, rfl, Sub.refl _, ?_, ?_⟩, ?_, ?_, ?_⟩
  · rw [List.take_zero, stC_nil]
    exact ⟨ps, pc, pa, pf, pk, pg, vs, sv, _, kv, lv, w3, s3 _ _ hdl, rs.mono s3, rc.mono s3, rk.mono s3, sh.mono s3, rl.mono s3⟩
  · rw [List.take_zero, stC_nil]
    exact ok1
  · rintro i σ H' _ ⟨I', rest, rfl, hr, s', ow', ok'⟩
    obtain ⟨_, _, _, _, _, _, _, _, _, _, _, w', _⟩ := ow'
    exact w'.sub _ _ (s' _ _ h3)
  · rintro i x σ H' hi ⟨I', rest, rfl, hr, s', ow', ok'⟩
    rw [List.getElem?_map, Option.map_eq_some_iff] at hi
    obtain ⟨z, hz, rfl⟩ := hi
    have hzm := List.mem_of_getElem? hz
    obtain ⟨t, e1, e2⟩ := cm_rp (en3 z hzm)
    have hy : (ds.map Prod.snd)[i]? = some z.2 := by rw [List.getElem?_map, hz]; rfl
    have hym := List.mem_of_getElem? hy
    have nd : ((ds.map Prod.snd).map (·.2.1)).Nodup := by rw [edu]; exact due_nodup cs.nd
    have hu : z.2 ∈ s.uw := by rw [edu] at hym; exact (mem_due.mp hym).1
    have hrem := remU_mem (uw := s.uw) nd hy hu
    obtain ⟨f1, tt, f2⟩ := cs.uw z.2 hu
    have e2' : H' t = some (.tup [.int z.2.1, .int z.2.2.1]) := by
      obtain ⟨_, _, _, _, _, _, _, _, _, _, _, w', _⟩ := ow'
      exact w'.sub _ _ (s' _ _ e2)
    match rest, hr with
    | [r1, r2, r3], _ =>
    sm! [e1, e2']
    have e9 : stC R rows s ((ds.map Prod.snd).take (i + 1)) = comeS R rows { stC R rows s ((ds.map Prod.snd).take i) with uw := (stC R rows s ((ds.map Prod.snd).take i)).uw.filter fun u => !decide (u.2.1 = z.2.2.1) } z.2.2.1 z.2.2.2 := by
      rw [take_succ_get hy, stC_snoc]
    refine turn1 (rest := [r1, r2, r3]) ro rl90 ow' rfl ok' (hp.mono (s3.trans s')) hrem f1 f2 fun I2 H2 rest2 hr2 s2 ow2 => ⟨I2, rest2, rfl, hr2, s'.trans s2, by rw [e9]; exact ow2, ?_⟩
    rw [e9]
    exact (ok'.fewer hrem).come ro (hk.ok.qu z.2 hu)
  · rintro σ H' ⟨I', rest, rfl, hr, s', ow', ok'⟩
    match rest, hr with
    | [r1, r2, r3], _ =>
    rw [List.length_map, List.take_of_length_le (by rw [List.length_map]; exact Nat.le_refl _), edu, stC_all cs.nd] at ow' ok'
    have sf := comes_fl (R := R) (rows := rows) (dueU (s.time + 1) s.uw) (tick0 s)
    exact step2 ow' ok' (fun p hp => cs.fl p (sf.subset hp)) (cs.so.sublist (sf.map _)) fun I2 H2 s2 ow2 => hQ I2 H2 (s3.trans (s'.trans s2)) ow2
end
end TA

set_option linter.all false
set_option maxRecDepth 100000
set_option maxHeartbeats 2000000
/-! Deeds: what they are, how they are looked at and done. -/
namespace TA
open PySem L2 PyProof.Rows
open SX (S S_len S_inj S_cat S_tl)
local macro_rules | `(tactic| simp! [$as,*]) => `(tactic| first | simp only [L2.start, tSeq, tAsg, tOp, fFld, tVar, gIxL, gIxT, tCB, tCons, tNil, gLenL, gLenT, gLenS, rI, rI0, fSet, tIfS, tTest, tB, rNotN, rIsN, rEq, rNe, tC, tDrop, fBM, fBM0, gTy, rAppend, tTup, tLst, tRet, tRetN, tNext, gName, fTup, gCons, gNil, tCall, fCallS, fMeth, tMeth, fMethS, fMake, tMake, fMakeS, tUn, rU, tAnd, tOr, tNot, tAndV, tOrV, tNotV, tIf, tChain, gListL, gListT, tSl, tNoPart, tPart, gSlL, fRaise, gStrI, gCatS, gMin2, gMax2, gIntB, tYes, fLcL, fLcT, fLcS, fLcR1, fForL, fForR1, fForR2, fRev, fGetI, gGetI, gInI, gLenI, fPutI, fNewI,
  List.map_cons, List.map_nil, List.length_cons, List.length_nil, List.replicate, List.cons_append, List.nil_append, List.append_nil, List.getElem?_cons_zero, List.getElem?_cons_succ, List.set_cons_zero, List.set_cons_succ, reduceIte, Bool.not_true, Bool.not_false, Nat.reduceAdd, Nat.reduceSub, Bool.false_eq_true, eq_self,
  Option.some.injEq, V.int.injEq, V.ref.injEq, V.str.injEq, V.bl.injEq, HO.ins.injEq, HO.lst.injEq, HO.tup.injEq, HO.dK.injEq, List.cons.injEq, and_assoc, exists_eq_left', exists_and_left, and_true, true_and, true_or, or_true, false_or, or_false, exists_eq_left, exists_eq_right, exists_eq_right', exists_eq, exists_eq', exists_const, upd_same, sc_ii, sc_ss, sc_bb, sc_in, sc_ni, sc_ns, sc_sn, sc_nn, $as,*] | skip)
inductive Ar | no | tx (l : Tx) | nm (n : Int)
inductive Dd | nil | one (w : Str) (a : Ar)
def arV : Ar → List V
  | .no => []
  | .tx l => [sV l]
  | .nm n => [.int n]
def ddV : Dd → List V
  | .nil => []
  | .one w a => .str w :: arV a
def arD : Ar → List PyData
  | .no => []
  | .tx l => [sD l]
  | .nm n => [.int n]
def ddD : Dd → PyData
  | .nil => .tuple []
  | .one w a => .tuple (.str w :: arD a)
def arN : Ar → Int
  | .no => 1
  | .tx _ => 2
  | .nm _ => 2
/-- what is wrong with the rest of a deed -/
def arE : Ar → Option Str
  | .no => none
  | .tx l => if okL 40 l = true then none else some "BadText"
  | .nm n => if 0 ≤ n ∧ n ≤ 999 then none else some "BadNumber"
def ddE : Dd → Option Str
  | .nil => some "BadAsk"
  | .one w a => if wN w = some (arN a) then arE a else some "BadAsk"
/-- ticks are numbers, all else texts -/
def ddW : Dd → Prop
  | .nil => True
  | .one w .no => True
  | .one w (.tx l) => w ≠ "tick" ∧ l.length ≤ 1000
  | .one w (.nm n) => w = "tick"
theorem ddE_one (w : Str) (a : Ar) : ddE (.one w a) = if wN w = some (arN a) then arE a else some (Str.ofString "BadAsk") := rfl
theorem arE_txE (l : Tx) : arE (.tx l) = if okL 40 l = true then none else some (Str.ofString "BadText") := rfl
theorem arE_nmE (n : Int) : arE (.nm n) = if 0 ≤ n ∧ n ≤ 999 then none else some (Str.ofString "BadNumber") := rfl
theorem at1_0 {a : V} : atI [a] 0 = some a := atN (i := 0) rfl
theorem at2_1' {a b : V} : atI [a, b] 1 = some b := atN (i := 1) rfl
theorem rp_dd {I : Hp} {v : V} : ∀ {d : Dd}, Rp I v (ddD d) → ∃ p, v = .ref p ∧ I p = some (.tup (ddV d))
  | .nil, h => by
    cases h with
    | tup h1 h2 => cases h2; exact ⟨_, rfl, h1⟩
  | .one w .no, h => by
    cases h with
    | tup h1 h2 =>
      cases h2 with
      | cons a b => cases a; cases b; exact ⟨_, rfl, h1⟩
  | .one w (.tx l), h => by
    cases h with
    | tup h1 h2 =>
      cases h2 with
      | cons a b =>
        cases a
        cases b with
        | cons c d => cases c; cases d; exact ⟨_, rfl, h1⟩
  | .one w (.nm n), h => by
    cases h with
    | tup h1 h2 =>
      cases h2 with
      | cons a b =>
        cases a
        cases b with
        | cons c d => cases c; cases d; exact ⟨_, rfl, h1⟩
theorem dd_rp {I : Hp} {p : Addr} : ∀ {d : Dd}, I p = some (.tup (ddV d)) → Rp I (.ref p) (ddD d)
  | .nil, h => .tup h .nil
  | .one w .no, h => .tup h (.cons (.str _) .nil)
  | .one w (.tx l), h => .tup h (.cons (.str _) (.cons (.str _) .nil))
  | .one w (.nm n), h => .tup h (.cons (.str _) (.cons (.int _) .nil))
/-- the first that is wrong -/
def ddsE (l : List Dd) : Option Str := l.findSome? ddE
def sp_look_deed (K : PySem.W.Frag) : Sp := fun vs H Q E => ∃ (p : Addr) (d : Dd), vs = [.ref p] ∧ H p = some (.tup (ddV d)) ∧ ddW d ∧ ∀ H', Same H H' → Out K Q E (ddE d) H'
def sp_look_deeds (K : PySem.W.Frag) : Sp := fun vs H Q E => ∃ (I : Hp) (M : List (Addr × HO)) (l : Addr) (zs : List (V × Dd)), vs = [.ref l] ∧ W I H M ∧ Ls I M l (.lst (zs.map Prod.fst)) ∧ Enc I ddD zs ∧ (∀ z ∈ zs, ddW z.2) ∧
  ∀ H', W I H' M → Out K Q E (ddsE (zs.map Prod.snd)) H'
def t_look_deed (K : PySem.W.Frag) (E : XK) : TS := tSeq (tIfS (tOr (tTest (tOp (rEq) (tCB (gLenT) (tCons (tVar 0) (tNil))) (tC (.int 0)))) (tOr (tTest (tOp (gInW K true) (tOp gIxT (tVar 0) (tC (.int 0))) (tC (.ref (He.ga K "WORDS"))))) (tTest (tOp (rNe) (tCB (gLenT) (tCons (tVar 0) (tNil))) (tOp (gIxW K) (tC (.ref (He.ga K "WORDS"))) (tOp gIxT (tVar 0) (tC (.int 0)))))))) (fRaise (WD E) (He.ga K "BadAsk")) (tNext)) (tIfS (tTest (tOp (rEq) (tOp gIxT (tVar 0) (tC (.int 0))) (tC (.str "tick")))) (tIfS (tNot (tTest (tChain (rI0 fun i j => .bl (decide (i ≤ j))) (rI0 fun i j => .bl (decide (i ≤ j))) (tC (.int 0)) (tOp gIxT (tVar 0) (tC (.int 1))) (tC (.int 999))))) (fRaise (WD E) (He.ga K "BadNumber")) (tNext)) (tIfS (tTest (tOp (rEq) (tCB (gLenT) (tCons (tVar 0) (tNil))) (tC (.int 2)))) (tDrop (tCall (sp_look_text K) [] E (tCons (tOp gIxT (tVar 0) (tC (.int 1))) (tCons (tC (.int 40)) (tNil))))) (tNext)))
abbrev nn_look_deed : List Str := ["deed"]
def t_look_deeds (K : PySem.W.Frag) (E : XK) : TS := fForL (tVar 0) (gName 1) (tDrop (tCall (sp_look_deed K) [] E (tCons (tVar 1) (tNil))))
abbrev nn_look_deeds : List Str := ["deeds", "deed"]
section
variable {K : PySem.W.Frag}
theorem len_look_deed : ∀ vs H Q E, sp_look_deed K vs H Q E → vs.length = ["deed"].length := by
  rintro _ _ _ _ ⟨_, _, rfl, _⟩; rfl
theorem len_look_deeds : ∀ vs H Q E, sp_look_deeds K vs H Q E → vs.length = ["deeds"].length := by
  rintro _ _ _ _ ⟨_, _, _, _, rfl, _⟩; rfl
theorem pure_look_deed : ∀ vs H Q E, sp_look_deed K vs H Q E → t_look_deed K E { nx := fun _ H2 => Q .non H2, rt := Q } (L2.start nn_look_deed vs) H := by
  rintro vs H Q E ⟨p, d, rfl, hp, hw, hQ⟩
  unfold t_look_deed
  have hb := line_big
  cases d with
  | nil =>
    have hp : H p = some (.tup []) := hp
    simp! [hp]
    exact ite_t rfl (hQ H (Same.refl _))
  | one w a =>
    have fin : ∀ (n : Int), n = arN a → ∀ X : Prop, (wN w = some n → X) → if (wN w).isNone = true then WD E (Value.ref (He.ga K (Str.ofString "BadAsk"))) none [some (V.ref p)] H else ∃ x, wN w = some x ∧ if (!decide (n = x)) = true then WD E (Value.ref (He.ga K (Str.ofString "BadAsk"))) none [some (V.ref p)] H else X := by
      intro n hn X hX
      by_cases c : wN w = some n
      · rw [if_neg (by rw [c]; simp)]
        exact ⟨n, c, ite_nt rfl (hX c)⟩
      · have e : ddE (.one w a) = some (Str.ofString "BadAsk") := by rw [ddE_one, ← hn, if_neg c]
        have bad : WD E (Value.ref (He.ga K (Str.ofString "BadAsk"))) none [some (V.ref p)] H := by
          have := hQ H (Same.refl _)
          rw [e] at this
          exact this
        cases z : wN w with
        | none => rw [if_pos (by rfl)]; exact bad
        | some x =>
          rw [if_neg (by simp)]
          refine ⟨x, rfl, ?_⟩
          rw [z] at c
          exact ite_nf (fun q => c (by rw [q])) bad
    have good : wN w = some (arN a) → ddE (.one w a) = arE a := fun c => by rw [ddE_one, if_pos c]
    cases a with
    | no =>
      have hp : H p = some (.tup [.str w]) := hp
      simp! [hp, gInW, gIxW, at1_0]
      refine ite_f (by decide) (fin 1 rfl _ fun c => ?_)
      have hq := hQ H (Same.refl _)
      rw [good c] at hq
      by_cases ct : w = "tick"
      · rw [ct] at c
        exact absurd c (by decide +kernel)
      · exact ite_f ct (ite_f (by decide) hq)
    | tx l =>
      have hp : H p = some (.tup [.str w, sV l]) := hp
      simp! [hp, gInW, gIxW, at2_0, at2_1']
      refine ite_f (by decide) (fin 2 rfl _ fun c => ?_)
      refine ite_f hw.1 (ite_t rfl ?_)
      have hl := hw.2
      refine ⟨l, 40, rfl, by omega, fun H' sm => ?_⟩
      have hq := hQ H' sm
      rw [good c, arE_txE] at hq
      by_cases z : okL 40 l = true
      · rw [if_pos z]; rw [if_pos z] at hq; exact hq
      · rw [if_neg z]; rw [if_neg z] at hq; exact hq
    | nm n =>
      have hp : H p = some (.tup [.str w, .int n]) := hp
      simp! [hp, gInW, gIxW, at2_0, at2_1']
      refine ite_f (by decide) (fin 2 rfl _ fun c => ?_)
      have hq := hQ H (Same.refl _)
      rw [good c, arE_nmE] at hq
      have ct : w = "tick" := hw
      refine ite_t ct ?_
      by_cases z : 0 ≤ n
      · refine ite_t z ?_
        by_cases z2 : n ≤ 999
        · rw [if_pos ⟨z, z2⟩] at hq
          rw [decide_eq_true z2, if_neg (by decide)]
          exact hq
        · rw [if_neg fun q => z2 q.2] at hq
          rw [decide_eq_false z2, if_pos (by decide)]
          exact hq
      · rw [if_neg fun q => z q.1] at hq
        exact ite_f z hq
structure PLd (K : PySem.W.Frag) (I : Hp) (M : List (Addr × HO)) (l : Addr) (ds : List Dd) (i : Nat) (σ : L2.St) (H : Hp) : Prop where
  ex : ∃ v : Option V, σ = [some (.ref l), v] ∧ W I H M ∧ ddsE (ds.take i) = none
theorem pure_look_deeds : ∀ vs H Q E, sp_look_deeds K vs H Q E → t_look_deeds K E { nx := fun _ H2 => Q .non H2, rt := Q } (L2.start nn_look_deeds vs) H := by
  rintro vs H Q E ⟨I, M, l, zs, rfl, w, hl, en, wt, hQ⟩
  unfold t_look_deeds
  have hl1 := hl.at w
  simp! [hl1]
  refine ⟨PLd K I M l (zs.map Prod.snd), ⟨_, rfl, w, rfl⟩, ?_, ?_, ?_⟩
  · rintro i σ H' _ ⟨v, rfl, w', _⟩
    exact hl.at w'
  · rintro i y σ H' hy ⟨v, rfl, w', e⟩
    rw [List.getElem?_map, Option.map_eq_some_iff] at hy
    obtain ⟨z, hz, rfl⟩ := hy
    obtain ⟨p, hp, hp2⟩ := rp_dd (en z (List.mem_of_getElem? hz))
    have hz2 : (zs.map Prod.snd)[i]? = some z.2 := by rw [List.getElem?_map, hz]; rfl
    have e2 : ddsE ((zs.map Prod.snd).take (i + 1)) = ddE z.2 := by
      unfold ddsE at *
      rw [take_succ_get hz2, List.findSome?_append, e]
      simp only [List.findSome?_cons, List.findSome?_nil, Option.none_or]
      cases ddE z.2 <;> rfl
    simp! [and_true]
    refine ⟨p, z.2, by rw [hp], w'.sub _ _ hp2, wt z (List.mem_of_getElem? hz), fun H2 sm => ?_⟩
    cases c : ddE z.2 with
    | none => exact ⟨_, rfl, w'.same sm, by rw [e2, c]⟩
    | some x =>
      have q := hQ H2 (w'.same sm)
      have e3 : ddsE (zs.map Prod.snd) = some x := by
        unfold ddsE at *
        rw [← List.take_append_drop (i + 1) (zs.map Prod.snd), List.findSome?_append, e2, c]; rfl
      rw [e3] at q
      exact q
  · rintro σ H' ⟨v, rfl, w', e⟩
    rw [List.length_map] at e
    have q := hQ H' w'
    rw [List.take_of_length_le (by rw [List.length_map]; exact Nat.le_refl _)] at e
    rw [e] at q
    exact q
end
end TA

set_option linter.all false
set_option maxRecDepth 100000
set_option maxHeartbeats 2000000
/-! Deeds done to a store and an asker. -/
namespace TA
open PySem L2 PyProof.Rows
open SX (S S_len S_inj S_cat S_tl)
local macro_rules | `(tactic| simp! [$as,*]) => `(tactic| first | simp only [L2.start, tSeq, tAsg, tOp, fFld, tVar, gIxL, gIxT, tCB, tCons, tNil, gLenL, gLenT, gLenS, rI, rI0, fSet, tIfS, tTest, tB, rNotN, rIsN, rEq, rNe, tC, tDrop, fBM, fBM0, gTy, rAppend, tTup, tLst, tRet, tRetN, tNext, gName, fTup, gCons, gNil, tCall, fCallS, fMeth, tMeth, fMethS, fMake, tMake, fMakeS, tUn, rU, tAnd, tOr, tNot, tAndV, tOrV, tNotV, tIf, tChain, gListL, gListT, tSl, tNoPart, tPart, gSlL, fRaise, gStrI, gCatS, gMin2, gMax2, gIntB, tYes, fLcL, fLcT, fLcS, fLcR1, fForL, fForR1, fForR2, fRev, fGetI, gGetI, gInI, gLenI, fPutI, fNewI,
  List.map_cons, List.map_nil, List.length_cons, List.length_nil, List.replicate, List.cons_append, List.nil_append, List.append_nil, List.getElem?_cons_zero, List.getElem?_cons_succ, List.set_cons_zero, List.set_cons_succ, reduceIte, Bool.not_true, Bool.not_false, Nat.reduceAdd, Nat.reduceSub, Bool.false_eq_true, eq_self,
  Option.some.injEq, V.int.injEq, V.ref.injEq, V.str.injEq, V.bl.injEq, HO.ins.injEq, HO.lst.injEq, HO.tup.injEq, HO.dK.injEq, List.cons.injEq, and_assoc, exists_eq_left', exists_and_left, and_true, true_and, true_or, or_true, false_or, or_false, exists_eq_left, exists_eq_right, exists_eq_right', exists_eq, exists_eq', exists_const, upd_same, sc_ii, sc_ss, sc_bb, sc_in, sc_ni, sc_ns, sc_sn, sc_nn, $as,*] | skip)
inductive Deed | put (l : Tx) | key (l : Tx) | rub | tick (n : Int) | again | add (l : Tx) | rem (l : Tx)
def Deed.dd : Deed → Dd
  | .put l => .one "put" (.tx l)
  | .key l => .one "key" (.tx l)
  | .rub => .one "rub" .no
  | .tick n => .one "tick" (.nm n)
  | .again => .one "again" .no
  | .add l => .one "add" (.tx l)
  | .rem l => .one "remove" (.tx l)
def deedD (d : Deed) : PyData := ddD d.dd
/-- a deed that can be -/
def deedE : Deed → Option Str
  | .put l => arE (.tx l)
  | .key l => arE (.tx l)
  | .rub => none
  | .tick n => arE (.nm n)
  | .again => none
  | .add l => arE (.tx l)
  | .rem l => arE (.tx l)
theorem ddE_deed : ∀ d : Deed, ddE d.dd = deedE d := by
  intro d
  cases d <;> (unfold Deed.dd; rw [ddE_one, if_pos (by show wN _ = some (_ : Int); first | (show wN _ = some 2; decide +kernel) | (show wN _ = some 1; decide +kernel))]) <;> rfl
theorem arE_tx {l : Tx} (h : arE (.tx l) = none) : okL 40 l = true := by
  rw [arE_txE] at h
  by_cases c : okL 40 l = true
  · exact c
  · rw [if_neg c] at h; cases h
def doR (R : Rul) (rows : List Tx) (s : AS) : Deed → List Tx × AS × Option Str
  | .put l => if okL 12 l = true then (rows, putS R s l, none) else (rows, s, some "BadText")
  | .key l => if okL 12 (s.now ++ l) = true then (rows, putS R s (s.now ++ l), none) else (rows, s, some "BadText")
  | .rub => (rows, putS R s s.now.dropLast, none)
  | .tick n => if tickOk n = true then (rows, tickS R rows n.toNat s, none) else (rows, s, some "BadNumber")
  | .again => if againE s = true then (rows, s, some "BadAsk") else (rows, againS R s, none)
  | .add l => (addR rows l, s, addE rows l)
  | .rem l => (rows.erase l, s, remE rows l)
/-- what stands between two deeds -/
structure PlI (R : Rul) (rows : List Tx) (s : AS) (n : Nat) : Prop where
  ok : OkS R 0 s
  ro : ∀ r ∈ rows, okL 20 r = true
  rl : rows.length ≤ 12
  se : s.sent ≤ 100 * n
theorem PlI.rok {R : Rul} {rows : List Tx} {s : AS} {n : Nat} (h : PlI R rows s n) : rowsOk rows := ⟨h.ro, by have := h.rl; omega⟩
theorem okTick {R : Rul} {rows : List Tx} (ro : rowsOk rows) : ∀ (n : Nat) {s : AS}, OkS R 0 s → OkS R 0 (tickS R rows n s)
  | 0, _, h => h
  | n + 1, _, h => okTick ro n (h.step ro)
theorem PlI.do {R : Rul} {rows : List Tx} {s : AS} {n : Nat} (h : PlI R rows s n) (d : Deed) : PlI R (doR R rows s d).1 (doR R rows s d).2.1 (n + 1) := by
  have hse := h.se
  have lift : PlI R rows s (n + 1) := ⟨h.ok, h.ro, h.rl, by omega⟩
  cases d with
  | put l =>
    unfold doR
    by_cases c : okL 12 l = true
    · simp only [if_pos c]
      exact ⟨h.ok.put c, h.ro, h.rl, by have := put_sent R s l; show (putS R s l).sent ≤ _; omega⟩
    · simp only [if_neg c]; exact lift
  | key l =>
    unfold doR
    by_cases c : okL 12 (s.now ++ l) = true
    · simp only [if_pos c]
      exact ⟨h.ok.put c, h.ro, h.rl, by have := put_sent R s (s.now ++ l); show (putS R s (s.now ++ l)).sent ≤ _; omega⟩
    · simp only [if_neg c]; exact lift
  | rub =>
    have c : okL 12 s.now.dropLast = true := by
      have := h.ok.now
      unfold okL at *
      rw [Bool.and_eq_true, decide_eq_true_eq] at *
      exact ⟨by rw [List.length_dropLast]; omega, List.all_eq_true.mpr fun x hx => List.all_eq_true.mp this.2 x (List.dropLast_subset _ hx)⟩
    exact ⟨h.ok.put c, h.ro, h.rl, by have := put_sent R s s.now.dropLast; show (putS R s s.now.dropLast).sent ≤ _; omega⟩
  | tick k =>
    unfold doR
    by_cases c : tickOk k = true
    · simp only [if_pos c]
      refine ⟨okTick h.rok _ h.ok, h.ro, h.rl, ?_⟩
      have := tick_sent R rows k.toNat s
      have hk := of_decide_eq_true c
      show (tickS R rows k.toNat s).sent ≤ _
      omega
    · simp only [if_neg c]; exact lift
  | again =>
    unfold doR
    by_cases c : againE s = true
    · simp only [if_pos c]; exact lift
    · simp only [if_neg c]
      exact ⟨h.ok.again, h.ro, h.rl, by have := again_sent R s; show (againS R s).sent ≤ _; omega⟩
  | add l =>
    refine ⟨lift.ok, ?_, ?_, lift.se⟩
    · show ∀ r ∈ addR rows l, okL 20 r = true
      unfold addR
      split
      · rename_i c
        intro r hr
        rcases List.mem_append.mp hr with q | q
        · exact h.ro r q
        · rw [List.mem_singleton.mp q]
          unfold addE at c
          by_cases z : okL 20 l = false ∨ foldL l = [] ∨ l ∈ rows
          · rw [if_pos z] at c; cases c
          · cases z2 : okL 20 l with
            | true => rfl
            | false => exact absurd (.inl z2) z
      · exact h.ro
    · show (addR rows l).length ≤ 12
      unfold addR
      split
      · rename_i c
        have := h.rl
        rw [List.length_append]
        unfold addE at c
        by_cases z : okL 20 l = false ∨ foldL l = [] ∨ l ∈ rows
        · rw [if_pos z] at c; cases c
        · rw [if_neg z] at c
          by_cases z2 : rows.length = 12
          · rw [if_pos z2] at c; cases c
          · simp; omega
      · exact h.rl
  | rem l =>
    refine ⟨lift.ok, fun r hr => h.ro r (List.mem_of_mem_erase hr), ?_, lift.se⟩
    show (rows.erase l).length ≤ 12
    have := List.length_erase_le (a := l) (l := rows)
    have := h.rl
    omega
/-! ### the store may change -/
theorem pm2 {α : Type} {a b : α} {L M : List α} : (a :: b :: (L ++ M)).Perm (L ++ a :: b :: M) := (List.perm_middle.trans (List.Perm.cons _ List.perm_middle)).symm
theorem pmx {α : Type} {a b x : α} {L M : List α} : (a :: b :: (L ++ x :: M)).Perm (x :: a :: b :: (L ++ M)) := List.perm_middle (l₁ := a :: b :: L)
theorem pm3 {α : Type} {a b x : α} {L M : List α} : (a :: b :: (L ++ x :: M)).Perm (L ++ x :: a :: b :: M) := pmx.trans ((pm2.cons x).trans List.perm_middle.symm)
structure SW (K : PySem.W.Frag) (I H : Hp) (ad : Ad) (R : Rul) (rows : List Tx) (s : AS) (M : List (Addr × HO)) : Prop where
  aw : AskW K I H ad R rows s ((ad.st, oStore K ad.dst ad.r) :: (ad.r, .lst (rows.map sV)) :: M)
section
variable {K : PySem.W.Frag} {I I' H H' : Hp} {p : Addr} {o : HO} {ad : Ad} {R : Rul} {rows : List Tx} {s s' : AS} {M : List (Addr × HO)} {Q : VK} {E : XK}
theorem SW.same (h : SW K I H ad R rows s M) (e : Same H H') : SW K I H' ad R rows s M := ⟨h.aw.same e⟩
theorem SW.sub (h : SW K I H ad R rows s M) : Sub I H := h.aw.sub
theorem SW.mkI (h : SW K I H ad R rows s M) (hp : H p = none) (o : HO) : ∃ I', Sub I I' ∧ SW K I' (upd H p o) ad R rows s M ∧ I' p = some o := by
  obtain ⟨I', a, b, c⟩ := h.aw.mkI hp o
  exact ⟨I', a, ⟨b⟩, c⟩
theorem SW.perm {M' : List (Addr × HO)} (h : SW K I H ad R rows s M) (e : List.Perm M' M) : SW K I H ad R rows s M' := by
  obtain ⟨L, ao, w, l1, l2⟩ := h.aw
  exact ⟨⟨L, ao, w.perm (List.Perm.append_left L ((e.cons _).cons _)), Ls.head, Ls.head.cons⟩⟩
theorem SW.w (h : SW K I H ad R rows s M) : ∃ L, AskO K I ad R s L ∧ W I H ((ad.st, oStore K ad.dst ad.r) :: (ad.r, .lst (rows.map sV)) :: (L ++ M)) := by
  obtain ⟨L, ao, w, l1, l2⟩ := h.aw
  exact ⟨L, ao, w.perm pm2⟩
theorem SW.of {L : List (Addr × HO)} (ao : AskO K I ad R s L) (w : W I H ((ad.st, oStore K ad.dst ad.r) :: (ad.r, .lst (rows.map sV)) :: (L ++ M))) : SW K I H ad R rows s M :=
  ⟨⟨L, ao, w.perm pm2.symm, Ls.head, Ls.head.cons⟩⟩
theorem SW.newM (h : SW K I H ad R rows s M) (hp : H p = none) : SW K I (upd H p o) ad R rows s ((p, o) :: M) := by
  obtain ⟨L, ao, w⟩ := h.w
  exact .of ao ((w.newM hp).perm pmx)
theorem SW.put {o' : HO} (h : SW K I H ad R rows s ((p, o) :: M)) : SW K I (upd H p o') ad R rows s ((p, o') :: M) := by
  obtain ⟨L, ao, w⟩ := h.w
  exact .of ao (((w.perm pmx.symm).put).perm pmx)
theorem SW.has (h : SW K I H ad R rows s ((p, o) :: M)) : H p = some o := by
  obtain ⟨L, ao, w⟩ := h.w
  exact (w.perm pmx.symm).has.1
theorem SW.frz (h : SW K I H ad R rows s ((p, o) :: M)) : ∃ I', Sub I I' ∧ SW K I' H ad R rows s M ∧ I' p = some o := by
  obtain ⟨L, ao, w⟩ := h.w
  obtain ⟨I', a, b, c⟩ := (w.perm pmx.symm).frz
  exact ⟨I', a, .of (ao.mono a) b, c⟩
theorem W.dropL : ∀ (L : List (Addr × HO)), W I H (L ++ M) → W I H M
  | [], w => w
  | (p, o) :: L, w => W.dropL L w.drop
theorem SW.drop (h : SW K I H ad R rows s M) : W I H M := by
  obtain ⟨L, ao, w⟩ := h.w
  exact W.dropL L w.drop.drop
theorem SW.asker (h : SW K I H ad R rows s M) : ∃ vs, H ad.x = some (oAsker K ad R s vs) ∧ ShV I vs s.shown := h.aw.obj
theorem SW.store (h : SW K I H ad R rows s M) : H ad.st = some (oStore K ad.dst ad.r) := by
  obtain ⟨L, ao, w⟩ := h.w
  exact w.has.1
theorem SW.m_add {row : Tx} (h : SW K I H ad R rows s M) (hr : rows.length ≤ 1000) (hl : row.length ≤ 1000000) (q : ∀ H', SW K I H' ad R (addR rows row) s M → Out K Q E (addE rows row) H') : sp_Store_add K [.ref ad.st, sV row] H Q E := by
  obtain ⟨L, ao, w⟩ := h.w
  exact ⟨I, L ++ M, ad.st, ad.dst, ad.r, rows, row, rfl, w, hr, hl, fun H' w' => q H' (.of ao w')⟩
theorem SW.m_rem {row : Tx} (h : SW K I H ad R rows s M) (hr : rows.length ≤ 1000) (q : ∀ H', SW K I H' ad R (rows.erase row) s M → Out K Q E (remE rows row) H') : sp_Store_remove K [.ref ad.st, sV row] H Q E := by
  obtain ⟨L, ao, w⟩ := h.w
  exact ⟨I, L ++ M, ad.st, ad.dst, ad.r, rows, row, rfl, w, hr, fun H' w' => q H' (.of ao w')⟩
theorem SW.m_view (h : SW K I H ad R rows s M) (ok : OkS R 0 s) (q : ∀ (I' H' : Hp) (v l : Addr), Sub I I' → SW K I' H' ad R rows s M → I' v = some (.tup [sV (viewW s), sV (viewK s), .ref l]) → I' l = some (.lst ((viewR s).map sV)) → Q (.ref v) H') : sp_Asker_view K [.ref ad.x] H Q E := by
  refine ⟨I, _, ad, R, rows, s, rfl, h.aw, ok, fun I' H' t l sb aw hv => ?_⟩
  obtain ⟨L, ao, w, l1, l2⟩ := aw
  have h1 : SW K I' H' ad R rows s ((l, .lst ((viewR s).map sV)) :: M) := .of ao (w.perm pm3)
  obtain ⟨I2, s2, h2, e2⟩ := h1.frz
  exact q I2 H' t l (sb.trans s2) h2 (s2 _ _ hv) e2
theorem SW.m_log (h : SW K I H ad R rows s M) (q : ∀ (I' H' : Hp) (v : V), Sub I I' → SW K I' H' ad R rows s M → Rp I' v (.list (s.log.map lgD)) → Q v H') : sp_Asker_log K [.ref ad.x] H Q E := by
  refine ⟨I, _, ad, R, rows, s, rfl, h.aw, fun H' p lv aw r => ?_⟩
  obtain ⟨L, ao, w, l1, l2⟩ := aw
  have h1 : SW K I H' ad R rows s ((p, .lst lv) :: M) := .of ao (w.perm pm3)
  obtain ⟨I2, s2, h2, e2⟩ := h1.frz
  exact q I2 H' _ s2 h2 (.lst e2 (r.mono s2))
end
/-! ### the methods, by deeds -/
def sp_do (K : PySem.W.Frag) : Sp := fun vs H Q E => ∃ (I : Hp) (M : List (Addr × HO)) (ad : Ad) (R : Rul) (rows : List Tx) (s : AS) (n : Nat) (p : Addr) (d : Deed), vs = [.ref ad.st, .ref ad.x, .ref p] ∧ SW K I H ad R rows s M ∧ PlI R rows s n ∧ n ≤ 200 ∧ I p = some (.tup (ddV d.dd)) ∧ deedE d = none ∧
  ∀ I' H', Sub I I' → SW K I' H' ad R (doR R rows s d).1 (doR R rows s d).2.1 M → Out K Q E (doR R rows s d).2.2 H'
def sp__law_oneP (K : PySem.W.Frag) : Sp := fun vs H Q E => ∃ (I : Hp) (M : List (Addr × HO)) (ad : Ad) (R : Rul) (rows : List Tx) (s : AS) (n : Nat) (p g : Addr) (d : Deed) (kind : Int), vs = [.int kind, .ref g] ∧ I g = some (.lst [.ref ad.st, .ref ad.x, .ref p]) ∧ SW K I H ad R rows s M ∧ PlI R rows s n ∧ n ≤ 200 ∧ I p = some (.tup (ddV d.dd)) ∧ deedE d = none ∧
  ∀ I' H', Sub I I' → SW K I' H' ad R (doR R rows s d).1 (doR R rows s d).2.1 M → Out K Q E (doR R rows s d).2.2 H'
def wordW : Option Str → Str
  | none => "done"
  | some e => wordOf e
def sp_word_of (K : PySem.W.Frag) : Sp := fun vs H Q E => ∃ (I : Hp) (M : List (Addr × HO)) (ad : Ad) (R : Rul) (rows : List Tx) (s : AS) (n : Nat) (p : Addr) (d : Deed), vs = [.ref ad.st, .ref ad.x, .ref p] ∧ SW K I H ad R rows s M ∧ PlI R rows s n ∧ n ≤ 200 ∧ I p = some (.tup (ddV d.dd)) ∧ deedE d = none ∧
  ∀ I' H', Sub I I' → SW K I' H' ad R (doR R rows s d).1 (doR R rows s d).2.1 M → Q (.str (wordW (doR R rows s d).2.2)) H'
def t_do (K : PySem.W.Frag) (E : XK) : TS := tSeq (tAsg (tOp gIxT (tVar 2) (tC (.int 0))) (gName 3)) (tIfS (tTest (tOp (rEq) (tVar 3) (tC (.str "put")))) (tDrop (fMeth (He.ga K "Asker") "put" (sp_Asker_put K) E (tVar 1) (tCons (tOp gIxT (tVar 2) (tC (.int 1))) (tNil)))) (tIfS (tTest (tOp (rEq) (tVar 3) (tC (.str "key")))) (tDrop (fMeth (He.ga K "Asker") "key" (sp_Asker_key K) E (tVar 1) (tCons (tOp gIxT (tVar 2) (tC (.int 1))) (tNil)))) (tIfS (tTest (tOp (rEq) (tVar 3) (tC (.str "rub")))) (tDrop (fMeth (He.ga K "Asker") "rub" (sp_Asker_rub K) E (tVar 1) (tNil))) (tIfS (tTest (tOp (rEq) (tVar 3) (tC (.str "tick")))) (tDrop (fMeth (He.ga K "Asker") "tick" (sp_Asker_tick K) E (tVar 1) (tCons (tOp gIxT (tVar 2) (tC (.int 1))) (tNil)))) (tIfS (tTest (tOp (rEq) (tVar 3) (tC (.str "again")))) (tDrop (fMeth (He.ga K "Asker") "again" (sp_Asker_again K) E (tVar 1) (tNil))) (tIfS (tTest (tOp (rEq) (tVar 3) (tC (.str "add")))) (tDrop (fMeth (He.ga K "Store") "add" (sp_Store_add K) E (tVar 0) (tCons (tOp gIxT (tVar 2) (tC (.int 1))) (tNil)))) (tDrop (fMeth (He.ga K "Store") "remove" (sp_Store_remove K) E (tVar 0) (tCons (tOp gIxT (tVar 2) (tC (.int 1))) (tNil))))))))))
abbrev nn_do : List Str := ["store", "asker", "deed", "word"]
def t_word_of (K : PySem.W.Frag) (E : XK) : TS := tSeq (tAsg (tC (.str "done")) (gName 3)) (tSeq (fun D σ H => (fun W : WX => tDrop (fCallS (sp_do K) W (tCons (tVar 0) (tCons (tVar 1) (tCons (tVar 2) (tNil)))))) (wWord K [("BadText", "text"), ("BadNumber", "number"), ("BadAsk", "ask")] 3 D) D σ H) (tRet (tVar 3)))
abbrev nn_word_of : List Str := ["store", "asker", "deed", "word"]
section
variable {K : PySem.W.Frag} {I H : Hp} {ad : Ad} {R : Rul} {rows : List Tx} {s : AS} {M : List (Addr × HO)} {Q : VK} {E : XK} {n : Nat}
theorem SW.d_put {l : Tx} (h : SW K I H ad R rows s M) (pl : PlI R rows s n) (hn : n ≤ 200) (hd : deedE (.put l) = none) (q : ∀ I' H', Sub I I' → SW K I' H' ad R (doR R rows s (.put l)).1 (doR R rows s (.put l)).2.1 M → Out K Q E (doR R rows s (.put l)).2.2 H') : sp_Asker_put K [.ref ad.x, sV l] H Q E := by
  have hse := pl.se
  refine ⟨I, _, ad, R, rows, s, l, rfl, h.aw, pl.ok, by omega, by have := okL_len (arE_tx hd); omega, fun c I' H' sb aw => ?_, fun c H' sm => ?_⟩
  · unfold doR at q
    simp only [if_pos c] at q
    exact q I' H' sb ⟨aw⟩
  · unfold doR at q
    simp only [if_neg (show ¬ okL 12 l = true by rw [c]; decide)] at q
    exact q I H' (Sub.refl _) (h.same sm)
theorem SW.d_key {l : Tx} (h : SW K I H ad R rows s M) (pl : PlI R rows s n) (hn : n ≤ 200) (hd : deedE (.key l) = none) (q : ∀ I' H', Sub I I' → SW K I' H' ad R (doR R rows s (.key l)).1 (doR R rows s (.key l)).2.1 M → Out K Q E (doR R rows s (.key l)).2.2 H') : sp_Asker_key K [.ref ad.x, sV l] H Q E := by
  have hse := pl.se
  refine ⟨I, _, ad, R, rows, s, l, rfl, h.aw, pl.ok, by omega, by have := okL_len (arE_tx hd); omega, fun c I' H' sb aw => ?_, fun c H' sm => ?_⟩
  · unfold doR at q
    simp only [if_pos c] at q
    exact q I' H' sb ⟨aw⟩
  · unfold doR at q
    simp only [if_neg (show ¬ okL 12 (s.now ++ l) = true by rw [c]; decide)] at q
    exact q I H' (Sub.refl _) (h.same sm)
theorem SW.d_rub (h : SW K I H ad R rows s M) (pl : PlI R rows s n) (hn : n ≤ 200) (q : ∀ I' H', Sub I I' → SW K I' H' ad R (doR R rows s .rub).1 (doR R rows s .rub).2.1 M → Out K Q E (doR R rows s .rub).2.2 H') : sp_Asker_rub K [.ref ad.x] H Q E := by
  have hse := pl.se
  exact ⟨I, _, ad, R, rows, s, rfl, h.aw, pl.ok, by omega, fun I' H' sb aw => q I' H' sb ⟨aw⟩⟩
theorem SW.d_tick {k : Int} (h : SW K I H ad R rows s M) (pl : PlI R rows s n) (hn : n ≤ 200) (q : ∀ I' H', Sub I I' → SW K I' H' ad R (doR R rows s (.tick k)).1 (doR R rows s (.tick k)).2.1 M → Out K Q E (doR R rows s (.tick k)).2.2 H') : sp_Asker_tick K [.ref ad.x, .int k] H Q E := by
  have hse := pl.se
  refine ⟨I, _, ad, R, rows, s, k, rfl, h.aw, pl.ok, pl.rok, by omega, fun c I' H' sb aw => ?_, fun c => ?_⟩
  · unfold doR at q
    simp only [if_pos c] at q
    exact q I' H' sb ⟨aw⟩
  · unfold doR at q
    simp only [if_neg (show ¬ tickOk k = true by rw [c]; decide)] at q
    exact q I H (Sub.refl _) h
theorem SW.d_again (h : SW K I H ad R rows s M) (pl : PlI R rows s n) (hn : n ≤ 200) (q : ∀ I' H', Sub I I' → SW K I' H' ad R (doR R rows s .again).1 (doR R rows s .again).2.1 M → Out K Q E (doR R rows s .again).2.2 H') : sp_Asker_again K [.ref ad.x] H Q E := by
  have hse := pl.se
  refine ⟨I, _, ad, R, rows, s, rfl, h.aw, pl.ok, by omega, fun c I' H' sb aw => ?_, fun c H' sm => ?_⟩
  · unfold doR at q
    simp only [if_neg (show ¬ againE s = true by rw [c]; decide)] at q
    exact q I' H' sb ⟨aw⟩
  · unfold doR at q
    simp only [if_pos c] at q
    exact q I H' (Sub.refl _) (h.same sm)
theorem SW.d_add {l : Tx} (h : SW K I H ad R rows s M) (pl : PlI R rows s n) (hd : deedE (.add l) = none) (q : ∀ I' H', Sub I I' → SW K I' H' ad R (doR R rows s (.add l)).1 (doR R rows s (.add l)).2.1 M → Out K Q E (doR R rows s (.add l)).2.2 H') : sp_Store_add K [.ref ad.st, sV l] H Q E :=
  h.m_add (by have := pl.rl; omega) (by have := okL_len (arE_tx hd); omega) fun H' h' => q I H' (Sub.refl _) h'
theorem SW.d_rem {l : Tx} (h : SW K I H ad R rows s M) (pl : PlI R rows s n) (hd : deedE (.rem l) = none) (q : ∀ I' H', Sub I I' → SW K I' H' ad R (doR R rows s (.rem l)).1 (doR R rows s (.rem l)).2.1 M → Out K Q E (doR R rows s (.rem l)).2.2 H') : sp_Store_remove K [.ref ad.st, sV l] H Q E :=
  h.m_rem (by have := pl.rl; omega) fun H' h' => q I H' (Sub.refl _) h'
theorem len_do : ∀ vs H Q E, sp_do K vs H Q E → vs.length = ["store", "asker", "deed"].length := by
  rintro _ _ _ _ ⟨_, _, _, _, _, _, _, _, _, rfl, _⟩; rfl
theorem len_word_of : ∀ vs H Q E, sp_word_of K vs H Q E → vs.length = ["store", "asker", "deed"].length := by
  rintro _ _ _ _ ⟨_, _, _, _, _, _, _, _, _, rfl, _⟩; rfl
theorem doE_in {d : Deed} {e : Str} (h : (doR R rows s d).2.2 = some e) : e ∈ errs := by
  cases d with
  | put l =>
    by_cases c : okL 12 l = true
    · simp only [doR, if_pos c] at h; cases h
    · simp only [doR, if_neg c] at h; cases h; decide +kernel
  | key l =>
    by_cases c : okL 12 (s.now ++ l) = true
    · simp only [doR, if_pos c] at h; cases h
    · simp only [doR, if_neg c] at h; cases h; decide +kernel
  | rub => cases h
  | tick k =>
    by_cases c : tickOk k = true
    · simp only [doR, if_pos c] at h; cases h
    · simp only [doR, if_neg c] at h; cases h; decide +kernel
  | again =>
    by_cases c : againE s = true
    · simp only [doR, if_pos c] at h; cases h; decide +kernel
    · simp only [doR, if_neg c] at h; cases h
  | add l =>
    have h : addE rows l = some e := h
    unfold addE at h
    split at h
    · cases h; decide +kernel
    · split at h
      · cases h; decide +kernel
      · cases h
  | rem l =>
    have h : remE rows l = some e := h
    unfold remE at h
    split at h
    · cases h
    · cases h; decide +kernel
theorem outQ {o : Option Str} {H : Hp} {Q' : VK} (h : Out K Q E o H) (q : ∀ v H', Q v H' → Q' v H') : Out K Q' E o H := by
  cases o with
  | none => exact q _ _ h
  | some e => exact h
theorem outN {o : Option Str} {H : Hp} (h : Out K Q E o H) : Out K (fun _ H1 => Q .non H1) E o H := by
  cases o with
  | none => exact h
  | some e => exact h
theorem pure_do : ∀ vs H Q E, sp_do K vs H Q E → t_do K E { nx := fun _ H2 => Q .non H2, rt := Q } (L2.start nn_do vs) H := by
  rintro vs H Q E ⟨I, M, ad, R, rows, s, n, p, d, rfl, h, pl, hn, hp, hd, hQ⟩
  obtain ⟨vs, hx, _⟩ := h.asker
  have hst := h.store
  have hp1 := h.sub _ _ hp
  unfold oAsker at hx
  unfold oStore at hst
  unfold t_do
  have hQ' := fun I' H' sb sw => outN (hQ I' H' sb sw)
  cases d with
  | put l =>
    have hp1 : H p = some (.tup [.str "put", sV l]) := hp1
    simp! [hp1, hx, hst, at2_0, at2_1', no_Asker_put, no_Asker_key, no_Asker_rub, no_Asker_tick, no_Asker_again, no_Store_add, no_Store_remove]
    exact ite_t trivial (h.d_put pl hn hd hQ')
  | key l =>
    have hp1 : H p = some (.tup [.str "key", sV l]) := hp1
    simp! [hp1, hx, hst, at2_0, at2_1', no_Asker_put, no_Asker_key, no_Asker_rub, no_Asker_tick, no_Asker_again, no_Store_add, no_Store_remove]
    exact ite_f (by decide +kernel) (ite_t trivial (h.d_key pl hn hd hQ'))
  | rub =>
    have hp1 : H p = some (.tup [.str "rub"]) := hp1
    simp! [hp1, hx, hst, at1_0, no_Asker_put, no_Asker_key, no_Asker_rub, no_Asker_tick, no_Asker_again, no_Store_add, no_Store_remove]
    exact ite_f (by decide +kernel) (ite_f (by decide +kernel) (ite_t trivial (h.d_rub pl hn hQ')))
  | tick k =>
    have hp1 : H p = some (.tup [.str "tick", .int k]) := hp1
    simp! [hp1, hx, hst, at2_0, at2_1', no_Asker_put, no_Asker_key, no_Asker_rub, no_Asker_tick, no_Asker_again, no_Store_add, no_Store_remove]
    exact ite_f (by decide +kernel) (ite_f (by decide +kernel) (ite_f (by decide +kernel) (ite_t trivial (h.d_tick pl hn hQ'))))
  | again =>
    have hp1 : H p = some (.tup [.str "again"]) := hp1
    simp! [hp1, hx, hst, at1_0, no_Asker_put, no_Asker_key, no_Asker_rub, no_Asker_tick, no_Asker_again, no_Store_add, no_Store_remove]
    exact ite_f (by decide +kernel) (ite_f (by decide +kernel) (ite_f (by decide +kernel) (ite_f (by decide +kernel) (ite_t trivial (h.d_again pl hn hQ')))))
  | add l =>
    have hp1 : H p = some (.tup [.str "add", sV l]) := hp1
    simp! [hp1, hx, hst, at2_0, at2_1', no_Asker_put, no_Asker_key, no_Asker_rub, no_Asker_tick, no_Asker_again, no_Store_add, no_Store_remove]
    exact ite_f (by decide +kernel) (ite_f (by decide +kernel) (ite_f (by decide +kernel) (ite_f (by decide +kernel) (ite_f (by decide +kernel) (ite_t trivial (h.d_add pl hd hQ'))))))
  | rem l =>
    have hp1 : H p = some (.tup [.str "remove", sV l]) := hp1
    simp! [hp1, hx, hst, at2_0, at2_1', no_Asker_put, no_Asker_key, no_Asker_rub, no_Asker_tick, no_Asker_again, no_Store_add, no_Store_remove]
    exact ite_f (by decide +kernel) (ite_f (by decide +kernel) (ite_f (by decide +kernel) (ite_f (by decide +kernel) (ite_f (by decide +kernel) (ite_f (by decide +kernel) (h.d_rem pl hd hQ'))))))
theorem pure_word_of : ∀ vs H Q E, sp_word_of K vs H Q E → t_word_of K E { nx := fun _ H2 => Q .non H2, rt := Q } (L2.start nn_word_of vs) H := by
  rintro vs H Q E ⟨I, M, ad, R, rows, s, n, p, d, rfl, h, pl, hn, hp, hd, hQ⟩
  unfold t_word_of
  simp! [and_true]
  refine ⟨I, M, ad, R, rows, s, n, p, d, rfl, h, pl, hn, hp, hd, fun I' H' sb sw => ?_⟩
  have q := hQ I' H' sb sw
  cases e : (doR R rows s d).2.2 with
  | none =>
    rw [e] at q
    exact q
  | some x =>
    rw [e] at q
    refine ⟨x, wordOf x, ?_, rfl, ⟨_, rfl, q⟩⟩
    rcases errs_cases (doE_in e) with rfl | rfl | rfl <;> decide +kernel
end
end TA

set_option linter.all false
set_option maxRecDepth 100000
set_option maxHeartbeats 4000000
/-! The law's own asker: seen, made; and both askers together. -/
namespace TA
open PySem L2 PyProof.Rows
open SX (S S_len S_inj S_cat S_tl)
local macro_rules | `(tactic| simp! [$as,*]) => `(tactic| first | simp only [L2.start, tSeq, tAsg, tOp, fFld, tVar, gIxL, gIxT, tCB, tCons, tNil, gLenL, gLenT, gLenS, rI, rI0, fSet, tIfS, tTest, tB, rNotN, rIsN, rEq, rNe, tC, tDrop, fBM, fBM0, gTy, rAppend, tTup, tLst, tRet, tRetN, tNext, gName, fTup, gCons, gNil, tCall, fCallS, fMeth, tMeth, fMethS, fMake, tMake, fMakeS, tUn, rU, tAnd, tOr, tNot, tAndV, tOrV, tNotV, tIf, tChain, gListL, gListT, tSl, tNoPart, tPart, gSlL, fRaise, gStrI, gCatS, gMin2, gMax2, gIntB, tYes, fLcL, fLcT, fLcS, fLcR1, fForL, fForR1, fForR2, fRev, fGetI, gGetI, gInI, gLenI, fPutI, fNewI,
  List.map_cons, List.map_nil, List.length_cons, List.length_nil, List.replicate, List.cons_append, List.nil_append, List.append_nil, List.getElem?_cons_zero, List.getElem?_cons_succ, List.set_cons_zero, List.set_cons_succ, reduceIte, Bool.not_true, Bool.not_false, Nat.reduceAdd, Nat.reduceSub, Bool.false_eq_true, eq_self,
  Option.some.injEq, V.int.injEq, V.ref.injEq, V.str.injEq, V.bl.injEq, HO.ins.injEq, HO.lst.injEq, HO.tup.injEq, HO.dK.injEq, List.cons.injEq, and_assoc, exists_eq_left', exists_and_left, and_true, true_and, true_or, or_true, false_or, or_false, exists_eq_left, exists_eq_right, exists_eq_right', exists_eq, exists_eq', exists_const, upd_same, sc_ii, sc_ss, sc_bb, sc_in, sc_ni, sc_ns, sc_sn, sc_nn, $as,*] | skip)
syntax "prm!" : tactic
macro_rules | `(tactic| prm!) => `(tactic| (classical exact List.perm_iff_count.mpr fun x => by simp only [List.count_append, List.count_cons, List.cons_append, List.nil_append, Nat.add_comm, Nat.add_left_comm, Nat.add_assoc]))
def viewD (s : AS) : PyData := .tuple [sD (viewW s), sD (viewK s), .list ((viewR s).map sD)]
def sp__law_view (K : PySem.W.Frag) : Sp := fun vs H Q _ => ∃ (I : Hp) (M : List (Addr × HO)) (a : OA) (R : Rul) (s : AS) (sn : List (Int × Tx)), vs = [.ref a.o] ∧ OwW I H a R s sn M ∧ okL 12 s.now = true ∧ ∀ I' H' v, Sub I I' → OwW I' H' a R s sn M → Rp I' v (viewD s) → Q v H'
def sp__law_asker (K : PySem.W.Frag) : Sp := fun vs H Q _ => ∃ (I : Hp) (M : List (Addr × HO)) (pr dl ru : Addr) (R : Rul), vs = [.ref pr, .ref dl, .int R.most, .int R.term, .ref ru] ∧ W I H M ∧ I dl = some (.lst (R.ds.map delV)) ∧ I ru = some (.tup [.int R.many, .int R.pause, .int R.asks, .int R.pat]) ∧ ∀ I' H' p, Sub I I' → OwW I' H' ⟨p, pr, dl⟩ R S0 [] M → Q (.ref p) H'
def t__law_view_B1_2 (K : PySem.W.Frag) (E : XK) : TS := tRet (tTup (tCons (tOp gIxL (tLst (tCons (tC (.str "old")) (tCons (tC (.str "fresh")) (tNil)))) (tCB (gIntB) (tCons (tVar 1) (tNil)))) (tCons (tOp gIxT (fGetS (tVar 0) "shown") (tC (.int 0))) (tCons (tOp gIxT (fGetS (tVar 0) "shown") (tC (.int 1))) (tNil)))))
def t__law_view (K : PySem.W.Frag) (E : XK) : TS := tSeq (tIfS (tTest (tOp (rIsN) (fGetS (tVar 0) "shown") (tC .non))) (tRet (tTup (tCons (tC (.str "nothing")) (tCons (tC (.str "")) (tCons (tLst (tNil)) (tNil)))))) (tNext)) (tSeq (tAsg (tAndV (tOp (rEq) (tOp gIxT (fGetS (tVar 0) "shown") (tC (.int 0))) (tCall (sp__law_folded K) [] E (tCons (fGetS (tVar 0) "typed") (tNil)))) (tNotV (tOp gIxT (fGetS (tVar 0) "shown") (tC (.int 2))))) (gName 1)) (t__law_view_B1_2 K E))
abbrev nn__law_view : List Str := ["own", "is_fresh"]
def t__law_asker_B1_3 (K : PySem.W.Frag) (E : XK) : TS := tSeq (tDrop (fBM "dict" gUpdS (tVar 9) (tCons (fDispS ["sent", "coming", "asked", "flying", "kept", "shown", "log"] (taOf [tLst (tNil), tLst (tNil), tLst (tNil), tLst (tNil), tLst (tNil), tC .non, tLst (tNil)])) (tNil)))) (tRet (tVar 9))
def t__law_asker_B1_2 (K : PySem.W.Frag) (E : XK) : TS := tSeq (tDrop (fBM "dict" gUpdS (tVar 9) (tCons (fDispS ["asks", "patience", "time", "typed", "since", "due", "tries"] (taOf [tVar 7, tVar 8, tC (.int 0), tC (.str ""), tC (.int 0), tC (.bl false), tC (.int 0)])) (tNil)))) (t__law_asker_B1_3 K E)
def t__law_asker (K : PySem.W.Frag) (E : XK) : TS := tSeq (tAsg (tVar 4) (fTup 4 (gCons (gName 5) (gCons (gName 6) (gCons (gName 7) (gCons (gName 8) (gNil))))))) (tSeq (tAsg (fDispS ["rows", "delays", "most", "term", "many", "pause"] (taOf [tVar 0, tVar 1, tVar 2, tVar 3, tVar 5, tVar 6])) (gName 9)) (t__law_asker_B1_2 K E))
abbrev nn__law_asker : List Str := ["rows", "delays", "most", "term", "rules", "many", "pause", "asks", "patience", "found"]
section
variable {K : PySem.W.Frag}
theorem len__law_view : ∀ vs H Q E, sp__law_view K vs H Q E → vs.length = ["own"].length := by
  rintro _ _ _ _ ⟨_, _, _, _, _, _, rfl, _⟩; rfl
theorem len__law_asker : ∀ vs H Q E, sp__law_asker K vs H Q E → vs.length = ["rows", "delays", "most", "term", "rules"].length := by
  rintro _ _ _ _ ⟨_, _, _, _, _, _, rfl, _⟩; rfl
theorem pure__law_view : ∀ vs H Q E, sp__law_view K vs H Q E → t__law_view K E { nx := fun _ H2 => Q .non H2, rt := Q } (L2.start nn__law_view vs) H := by
  rintro vs H Q E ⟨I, M, a, R, s, sn, rfl, ⟨ps, pc, pa, pf, pk, pg, vs, sv, cv, kv, lv, w, hdl, rs, rc, rk, sh, rl⟩, okn, hQ⟩
  have hb := line_big
  have ln := okL_len okn
  have hx := w.has.1
  unfold oOwn at hx
  unfold viewD at hQ
  cases hs : s.shown with
  | none =>
    have e : vs = .non := by rw [hs] at sh; exact sh
    subst e
    have ev : viewW s = [110, 111, 116, 104, 105, 110, 103] ∧ viewK s = [] ∧ viewR s = [] := by unfold viewW viewK viewR; rw [hs]; exact ⟨rfl, rfl, rfl⟩
    rw [ev.1, ev.2.1, ev.2.2] at hQ
    unfold t__law_view
    sm! [hx]
    refine ⟨Nat.zero_le _, fun p1 hp1 => ⟨three_le, fun p2 hp2 => ?_⟩⟩
    obtain ⟨I1, s1, w1, h1⟩ := w.mkI hp1 (.lst [])
    obtain ⟨I2, s2, w2, h2⟩ := w1.mkI hp2 (.tup [.str "nothing", .str "", .ref p1])
    rw [lit_nothing, lit_e] at h2 w2 ⊢
    have s12 := s1.trans s2
    exact hQ I2 _ _ s12 ⟨ps, pc, pa, pf, pk, pg, .non, sv, cv, kv, lv, w2, s12 _ _ hdl, rs.mono s12, rc.mono s12, rk.mono s12, sh.mono s12, rl.mono s12⟩ (.tup h2 (.cons (.str _) (.cons (.str _) (.cons (.lst (s2 _ _ h1) .nil) .nil))))
  | some v =>
    obtain ⟨key, rows, old⟩ := v
    obtain ⟨t, l, rfl, ht, hl⟩ : ∃ t l, vs = .ref t ∧ I t = some (.tup [sV key, .ref l, .bl old]) ∧ I l = some (.lst (rows.map sV)) := by
      rw [hs] at sh
      obtain ⟨t, l, e1, e2, e3⟩ := sh
      exact ⟨t, l, e1, e2, e3⟩
    have ht' := w.sub _ _ ht
    have ev : viewK s = key ∧ viewR s = rows ∧ viewW s = if freshS s = true then [102, 114, 101, 115, 104] else [111, 108, 100] := by unfold viewW viewK viewR; rw [hs]; exact ⟨rfl, rfl, rfl⟩
    have ef : freshS s = (decide (key = foldL s.now) && !old) := by unfold freshS; rw [hs]
    unfold t__law_view
    sm! [hx, ht', at3_0, reduceCtorEq, decide_false]
    refine ⟨s.now, rfl, by omega, okL_all okn, fun H1 sm1 => ?_⟩
    have w1 := w.same sm1
    have hx1 := w1.has.1
    unfold oOwn at hx1
    have ht1 := w1.sub _ _ ht
    have fin : ∀ b : Bool, b = freshS s → t__law_view_B1_2 K E { nx := fun _ H2 => Q .non H2, rt := Q } [some (.ref a.o), some (.bl b)] H1 := by
      intro b eb
      have ew : atI [V.str (Str.ofString "old"), V.str (Str.ofString "fresh")] (if b = true then 1 else 0) = some (sV (viewW s)) := by
        rw [ev.2.2, ← eb]
        cases b
        · exact (congrArg (fun z => some (V.str z)) lit_old)
        · exact (congrArg (fun z => some (V.str z)) lit_fresh)
      unfold t__law_view_B1_2
      sm! []
      refine ⟨two_le, fun p1 hp1 => ?_⟩
      obtain ⟨I2, s2, w2, h2⟩ := w1.mkI hp1 (.lst [V.str (Str.ofString "old"), V.str (Str.ofString "fresh")])
      have hx2 := w2.has.1
      unfold oOwn at hx2
      have ht2 := w2.sub _ _ (s2 _ _ ht)
      have e2 := w2.sub _ _ h2
      refine ⟨_, ew, ?_⟩
      sm! [hx2, ht2, at3_0, at3_1]
      refine ⟨three_le, fun p3 hp3 => ?_⟩
      obtain ⟨I3, s3, w3, h3⟩ := w2.mkI hp3 (.tup [sV (viewW s), sV key, .ref l])
      have s13 := s2.trans s3
      rw [ev.1, ev.2.1] at hQ
      exact hQ I3 _ _ s13 ⟨ps, pc, pa, pf, pk, pg, .ref t, sv, cv, kv, lv, w3, s13 _ _ hdl, rs.mono s13, rc.mono s13, rk.mono s13, sh.mono s13, rl.mono s13⟩ (.tup h3 (.cons (.str _) (.cons (.str _) (.cons (rp_tx (s13 _ _ hl)) .nil))))
    sm! [hx1, ht1, at3_0, at3_2, at3_1, S_eq]
    cases c : decide (key = foldL s.now) with
    | true =>
      simp! [and_true]
      exact fin _ (by rw [ef, c]; rfl)
    | false =>
      simp! [and_true]
      exact fin _ (by rw [ef, c]; rfl)
theorem B3 {I H : Hp} {M : List (Addr × HO)} {p pr dl : Addr} {R : Rul} {Q : VK} {E : XK} {r0 r1 r2 r3 r4 r5 r6 r7 r8 : Option V} (w4 : W I H ((p, dS ((["rows", "delays", "most", "term", "many", "pause", "asks", "patience", "time", "typed", "since", "due", "tries"] : List Str).zip [.ref pr, .ref dl, .int R.most, .int R.term, .int R.many, .int R.pause, .int R.asks, .int R.pat, .int 0, .str "", .int 0, .bl false, .int 0])) :: M)) (hdl : I dl = some (.lst (R.ds.map delV)))
    (hQ : ∀ I' H' p, Sub I I' → OwW I' H' ⟨p, pr, dl⟩ R S0 [] M → Q (.ref p) H') : t__law_asker_B1_3 K E { nx := fun _ H2 => Q .non H2, rt := Q } [r0, r1, r2, r3, r4, r5, r6, r7, r8, some (.ref p)] H := by
  unfold t__law_asker_B1_3
  sm! [fDispS, taOf, gUpdS, w4.has.1]
  refine ⟨.inr ⟨_, rfl⟩, fun p2 hp2 => ?_⟩
  have w5 := w4.newM (o := dS []) hp2
  refine ⟨Nat.zero_le _, fun q1 hq1 => ⟨Nat.zero_le _, fun q2 hq2 => ⟨Nat.zero_le _, fun q3 hq3 => ⟨Nat.zero_le _, fun q4 hq4 => ⟨Nat.zero_le _, fun q5 hq5 => ⟨Nat.zero_le _, fun q6 hq6 => ?_⟩⟩⟩⟩⟩⟩
  have w6 := (((((w5.newM (o := .lst []) hq1).newM (o := .lst []) hq2).newM (o := .lst []) hq3).newM (o := .lst []) hq4).newM (o := .lst []) hq5).newM (o := .lst []) hq6
  refine ⟨w6.has.2.2.2.2.2.2.1, ?_⟩
  have w7 := W.put6 w6 (o' := dS ((["sent", "coming", "asked", "flying", "kept", "shown", "log"] : List Str).zip [.ref q1, .ref q2, .ref q3, .ref q4, .ref q5, .non, .ref q6]))
  refine ⟨_, w7.has.2.2.2.2.2.2.2.1, (fun e => by subst e; have := w4.has.1; rw [hp2] at this; cases this), ?_, (by show (20 : Nat) < 1000; decide), ?_⟩
  · show (["rows", "delays", "most", "term", "many", "pause", "asks", "patience", "time", "typed", "since", "due", "tries", "sent", "coming", "asked", "flying", "kept", "shown", "log"] : List Str).Nodup
    decide +kernel
  sm! []
  have w8 := (W.putAt [_, _, _, _, _, _, _] w7 (o' := oOwn ⟨p, pr, dl⟩ R S0 q1 q2 q3 q4 q5 q6 .non)).sel [_, _, _, _, _, _, _, _] [7, 5, 4, 3, 2, 1, 0]
  exact hQ I _ p (Sub.refl _) ⟨q1, q2, q3, q4, q5, q6, .non, [], [], [], [], w8, hdl, .nil, .nil, .nil, rfl, .nil⟩
theorem pure__law_asker : ∀ vs H Q E, sp__law_asker K vs H Q E → t__law_asker K E { nx := fun _ H2 => Q .non H2, rt := Q } (L2.start nn__law_asker vs) H := by
  rintro vs H Q E ⟨I, M, pr, dl, ru, R, rfl, w, hdl, hru, hQ⟩
  have hb := line_big
  have hru1 := w.sub _ _ hru
  unfold t__law_asker
  sm! [hru1, fDispS, taOf]
  intro p hp
  have w1 := w.newM (o := dS []) hp
  have h1 := w1.has.1
  sm! [h1]
  have w2 := w1.put (o' := dS ((["rows", "delays", "most", "term", "many", "pause"] : List Str).zip [.ref pr, .ref dl, .int R.most, .int R.term, .int R.many, .int R.pause]))
  unfold t__law_asker_B1_2
  sm! [fDispS, taOf, gUpdS]
  refine ⟨.inr ⟨_, rfl⟩, fun p2 hp2 => ?_⟩
  have w3 := (w2.newM (o := dS []) hp2).put (o' := dS ((["asks", "patience", "time", "typed", "since", "due", "tries"] : List Str).zip [.int R.asks, .int R.pat, .int 0, .str "", .int 0, .bl false, .int 0]))
  refine ⟨_, w3.has.2.1, (fun e => by subst e; have := w2.has.1; rw [hp2] at this; cases this), ?_, (by show (13 : Nat) < 1000; decide), ?_⟩
  · show (["rows", "delays", "most", "term", "many", "pause", "asks", "patience", "time", "typed", "since", "due", "tries"] : List Str).Nodup
    decide +kernel
  have w4 := (W.put1 w3 (o' := dS ((["rows", "delays", "most", "term", "many", "pause", "asks", "patience", "time", "typed", "since", "due", "tries"] : List Str).zip [.ref pr, .ref dl, .int R.most, .int R.term, .int R.many, .int R.pause, .int R.asks, .int R.pat, .int 0, .str "", .int 0, .bl false, .int 0]))).drop
  refine B3 w4 hdl hQ
end
end TA

set_option linter.all false
set_option maxRecDepth 100000
set_option maxHeartbeats 4000000
/-! Both askers together. -/
namespace TA
open PySem L2 PyProof.Rows
open SX (S S_len S_inj S_cat S_tl)
local macro_rules | `(tactic| simp! [$as,*]) => `(tactic| first | simp only [L2.start, tSeq, tAsg, tOp, fFld, tVar, gIxL, gIxT, tCB, tCons, tNil, gLenL, gLenT, gLenS, rI, rI0, fSet, tIfS, tTest, tB, rNotN, rIsN, rEq, rNe, tC, tDrop, fBM, fBM0, gTy, rAppend, tTup, tLst, tRet, tRetN, tNext, gName, fTup, gCons, gNil, tCall, fCallS, fMeth, tMeth, fMethS, fMake, tMake, fMakeS, tUn, rU, tAnd, tOr, tNot, tAndV, tOrV, tNotV, tIf, tChain, gListL, gListT, tSl, tNoPart, tPart, gSlL, fRaise, gStrI, gCatS, gMin2, gMax2, gIntB, tYes, fLcL, fLcT, fLcS, fLcR1, fForL, fForR1, fForR2, fRev, fGetI, gGetI, gInI, gLenI, fPutI, fNewI,
  List.map_cons, List.map_nil, List.length_cons, List.length_nil, List.replicate, List.cons_append, List.nil_append, List.append_nil, List.getElem?_cons_zero, List.getElem?_cons_succ, List.set_cons_zero, List.set_cons_succ, reduceIte, Bool.not_true, Bool.not_false, Nat.reduceAdd, Nat.reduceSub, Bool.false_eq_true, eq_self,
  Option.some.injEq, V.int.injEq, V.ref.injEq, V.str.injEq, V.bl.injEq, HO.ins.injEq, HO.lst.injEq, HO.tup.injEq, HO.dK.injEq, List.cons.injEq, and_assoc, exists_eq_left', exists_and_left, and_true, true_and, true_or, or_true, false_or, or_false, exists_eq_left, exists_eq_right, exists_eq_right', exists_eq, exists_eq', exists_const, upd_same, sc_ii, sc_ss, sc_bb, sc_in, sc_ni, sc_ns, sc_sn, sc_nn, $as,*] | skip)
section
variable {α : Type} {x a b d t : α} {L X M : List α}
theorem pb1 : (a :: b :: d :: (L ++ (X ++ x :: M))).Perm (x :: a :: b :: d :: (L ++ (X ++ M))) := by prm!
theorem pb2 : (x :: t :: a :: b :: d :: (L ++ (X ++ M))).Perm (t :: a :: b :: d :: (L ++ (X ++ x :: M))) := by prm!
theorem pb3 : (a :: b :: (L ++ (t :: d :: (X ++ M)))).Perm (t :: a :: b :: d :: (L ++ (X ++ M))) := by prm!
theorem pb4 : (t :: a :: b :: d :: (L ++ (X ++ x :: M))).Perm (a :: b :: (L ++ (x :: t :: d :: (X ++ M)))) := by prm!
theorem pb5 : (X ++ (d :: t :: a :: b :: (L ++ M))).Perm (t :: a :: b :: d :: (L ++ (X ++ M))) := by prm!
theorem pb6 : (d :: t :: a :: b :: (L ++ (X ++ M))).Perm (t :: a :: b :: d :: (L ++ (X ++ M))) := by prm!
end
structure OwO (I : Hp) (a : OA) (R : Rul) (s : AS) (sn : List (Int × Tx)) (X : List (Addr × HO)) : Prop where
  ex : ∃ (ps pc pa pf pk pg : Addr) (vs : V) (sv cv kv lv : List V), X = [(a.o, oOwn a R s ps pc pa pf pk pg vs), (ps, .lst sv), (pc, .lst cv), (pa, nmA s), (pf, nmF s), (pk, .lst kv), (pg, .lst lv)] ∧
    I a.dl = some (.lst (R.ds.map delV)) ∧ RpAll I sv (sn.map snD) ∧ RpAll I cv (s.uw.map cmD) ∧ RpAll I kv (s.ks.map kpD) ∧ ShV I vs s.shown ∧ RpAll I lv (s.log.map lgD)
theorem OwO.mono {I I' : Hp} {a : OA} {R : Rul} {s : AS} {sn : List (Int × Tx)} {X : List (Addr × HO)} (h : OwO I a R s sn X) (sb : Sub I I') : OwO I' a R s sn X := by
  obtain ⟨ps, pc, pa, pf, pk, pg, vs, sv, cv, kv, lv, e, hdl, rs, rc, rk, sh, rl⟩ := h
  exact ⟨ps, pc, pa, pf, pk, pg, vs, sv, cv, kv, lv, e, sb _ _ hdl, rs.mono sb, rc.mono sb, rk.mono sb, sh.mono sb, rl.mono sb⟩
theorem OwW.o {I H : Hp} {a : OA} {R : Rul} {s : AS} {sn : List (Int × Tx)} {M : List (Addr × HO)} (h : OwW I H a R s sn M) : ∃ X, OwO I a R s sn X ∧ W I H (X ++ M) := by
  obtain ⟨ps, pc, pa, pf, pk, pg, vs, sv, cv, kv, lv, w, hdl, rs, rc, rk, sh, rl⟩ := h
  exact ⟨_, ⟨ps, pc, pa, pf, pk, pg, vs, sv, cv, kv, lv, rfl, hdl, rs, rc, rk, sh, rl⟩, w⟩
theorem OwO.w {I H : Hp} {a : OA} {R : Rul} {s : AS} {sn : List (Int × Tx)} {X M : List (Addr × HO)} (h : OwO I a R s sn X) (w : W I H (X ++ M)) : OwW I H a R s sn M := by
  obtain ⟨ps, pc, pa, pf, pk, pg, vs, sv, cv, kv, lv, rfl, hdl, rs, rc, rk, sh, rl⟩ := h
  exact ⟨ps, pc, pa, pf, pk, pg, vs, sv, cv, kv, lv, w, hdl, rs, rc, rk, sh, rl⟩
structure Bd where
  a : Addr
  t : Addr
  ad : Ad
  oa : OA
structure BW (K : PySem.W.Frag) (I H : Hp) (c : Bd) (n : Nat) (R : Rul) (rows : List Tx) (s : AS) (rows2 : List Tx) (s2 : AS) (sn : List (Int × Tx)) (M : List (Addr × HO)) : Prop where
  ex : ∃ L X, AskO K I c.ad R s L ∧ OwO I c.oa R s2 sn X ∧ Dr K I H c.a c.t n ((c.ad.st, oStore K c.ad.dst c.ad.r) :: (c.ad.r, .lst (rows.map sV)) :: (c.oa.pr, .lst (rows2.map sV)) :: (L ++ (X ++ M)))
section
variable {K : PySem.W.Frag} {I I' H H' : Hp} {c : Bd} {p : Addr} {o : HO} {n m : Nat} {R : Rul} {rows rows2 : List Tx} {s s2 : AS} {sn : List (Int × Tx)} {M : List (Addr × HO)} {Q : VK} {E : XK}
theorem BW.le (h : BW K I H c n R rows s rows2 s2 sn M) (e : n ≤ m) : BW K I H c m R rows s rows2 s2 sn M := by
  obtain ⟨L, X, ao, oo, d⟩ := h
  exact ⟨L, X, ao, oo, d.le e⟩
theorem BW.same (h : BW K I H c n R rows s rows2 s2 sn M) (e : Same H H') : BW K I H' c n R rows s rows2 s2 sn M := by
  obtain ⟨L, X, ao, oo, d⟩ := h
  exact ⟨L, X, ao, oo, d.same e⟩
theorem BW.sub (h : BW K I H c n R rows s rows2 s2 sn M) : Sub I H := by
  obtain ⟨L, X, ao, oo, d⟩ := h
  exact d.sub
theorem BW.mkI (h : BW K I H c n R rows s rows2 s2 sn M) (hp : H p = none) (o : HO) : ∃ I', Sub I I' ∧ BW K I' (upd H p o) c n R rows s rows2 s2 sn M ∧ I' p = some o := by
  obtain ⟨L, X, ao, oo, d⟩ := h
  have sb : Sub I (upd I p o) := Sub.new (d.noI hp)
  exact ⟨_, sb, ⟨L, X, ao.mono sb, oo.mono sb, d.newI hp⟩, upd_same⟩
theorem BW.newM (h : BW K I H c n R rows s rows2 s2 sn M) (hp : H p = none) : BW K I (upd H p o) c n R rows s rows2 s2 sn ((p, o) :: M) := by
  obtain ⟨L, X, ao, oo, d⟩ := h
  exact ⟨L, X, ao, oo, (d.newM hp).perm pb1⟩
theorem BW.put {o' : HO} (h : BW K I H c n R rows s rows2 s2 sn ((p, o) :: M)) : BW K I (upd H p o') c n R rows s rows2 s2 sn ((p, o') :: M) := by
  obtain ⟨L, X, ao, oo, d⟩ := h
  have d1 : Dr K I H c.a c.t n ((p, o) :: (c.ad.st, oStore K c.ad.dst c.ad.r) :: (c.ad.r, .lst (rows.map sV)) :: (c.oa.pr, .lst (rows2.map sV)) :: (L ++ (X ++ M))) := d.perm pb1.symm
  exact ⟨L, X, ao, oo, (d1.put (o' := o')).perm pb1⟩
theorem BW.has (h : BW K I H c n R rows s rows2 s2 sn ((p, o) :: M)) : H p = some o := by
  obtain ⟨L, X, ao, oo, ⟨_, zs, _, w⟩⟩ := h
  have w1 : W I H ((p, o) :: (c.t, .lst zs) :: (c.ad.st, oStore K c.ad.dst c.ad.r) :: (c.ad.r, .lst (rows.map sV)) :: (c.oa.pr, .lst (rows2.map sV)) :: (L ++ (X ++ M))) := w.perm pb2
  exact w1.has.1
theorem BW.drop (h : BW K I H c n R rows s rows2 s2 sn ((p, o) :: M)) : BW K I H c n R rows s rows2 s2 sn M := by
  obtain ⟨L, X, ao, oo, d⟩ := h
  have d1 : Dr K I H c.a c.t n ((p, o) :: (c.ad.st, oStore K c.ad.dst c.ad.r) :: (c.ad.r, .lst (rows.map sV)) :: (c.oa.pr, .lst (rows2.map sV)) :: (L ++ (X ++ M))) := d.perm pb1.symm
  exact ⟨L, X, ao, oo, d1.drop⟩
theorem BW.frz (h : BW K I H c n R rows s rows2 s2 sn ((p, o) :: M)) : ∃ I', Sub I I' ∧ BW K I' H c n R rows s rows2 s2 sn M ∧ I' p = some o := by
  obtain ⟨L, X, ao, oo, d⟩ := h
  have d1 : Dr K I H c.a c.t n ((p, o) :: (c.ad.st, oStore K c.ad.dst c.ad.r) :: (c.ad.r, .lst (rows.map sV)) :: (c.oa.pr, .lst (rows2.map sV)) :: (L ++ (X ++ M))) := d.perm pb1.symm
  have sb : Sub I (upd I p o) := Sub.new (d1.out (p, o) List.mem_cons_self)
  exact ⟨_, sb, ⟨L, X, ao.mono sb, oo.mono sb, d1.freeze⟩, upd_same⟩
/-- draws -/
theorem BW.draw {b : Int} (h : BW K I H c n R rows s rows2 s2 sn M) (hn : n < 1000000) (hb : 0 < b) (q : ∀ (d : Int) (H' : Hp), 0 ≤ d → d < b → BW K I H' c (n + 1) R rows s rows2 s2 sn M → Q (.int d) H') : sp__law_draw K [.ref c.a, .ref c.t, .int b] H Q E := by
  obtain ⟨L, X, ao, oo, d⟩ := h
  exact ⟨I, c.a, c.t, n, _, b, rfl, d, hn, hb, fun i H' h0 h1 d' => q i H' h0 h1 ⟨L, X, ao, oo, d'⟩⟩
theorem BW.pick {l : Addr} {xs : List V} (h : BW K I H c n R rows s rows2 s2 sn M) (hn : n < 1000000) (hl : I l = some (.lst xs)) (hx : xs ≠ []) (q : ∀ (x : V) (H' : Hp), x ∈ xs → BW K I H' c (n + 1) R rows s rows2 s2 sn M → Q x H') : sp__law_pick K [.ref c.a, .ref c.t, .ref l] H Q E := by
  obtain ⟨L, X, ao, oo, d⟩ := h
  refine ⟨I, c.a, c.t, l, n, _, xs, rfl, d, hn, fun H' hd => ?_, hx, fun x H' hx d' => q x H' hx ⟨L, X, ao, oo, d'⟩⟩
  rcases hd with hd | hd
  · exact hd.sub _ _ hl
  · exact hd.sub _ _ hl
theorem BW.query (h : BW K I H c n R rows s rows2 s2 sn M) (hn : n < 900000) (q : ∀ (l : Tx) (H' : Hp), okL 8 l = true → BW K I H' c (n + 5) R rows s rows2 s2 sn M → Q (sV l) H') : sp__law_query K [.ref c.a, .ref c.t] H Q E := by
  obtain ⟨L, X, ao, oo, d⟩ := h
  exact ⟨I, c.a, c.t, n, _, rfl, d, hn, fun l H' h0 d' => q l H' h0 ⟨L, X, ao, oo, d'⟩⟩
theorem BW.row (h : BW K I H c n R rows s rows2 s2 sn M) (hn : n < 900000) (q : ∀ (l : Tx) (H' : Hp), okL 15 l = true → BW K I H' c (n + 7) R rows s rows2 s2 sn M → Q (sV l) H') : sp__law_row K [.ref c.a, .ref c.t] H Q E := by
  obtain ⟨L, X, ao, oo, d⟩ := h
  exact ⟨I, c.a, c.t, n, _, rfl, d, hn, fun l H' h0 d' => q l H' h0 ⟨L, X, ao, oo, d'⟩⟩
/-- as the store and the asker are seen -/
theorem BW.sw (h : BW K I H c n R rows s rows2 s2 sn M) : ∃ M', SW K I H c.ad R rows s M' ∧ ∀ I' H' rows' s', Sub I I' → SW K I' H' c.ad R rows' s' M' → BW K I' H' c n R rows' s' rows2 s2 sn M := by
  obtain ⟨L, X, ao, oo, ⟨sc, zs, lz, w⟩⟩ := h
  refine ⟨(c.t, .lst zs) :: (c.oa.pr, .lst (rows2.map sV)) :: (X ++ M), .of ao (w.perm pb3), fun I' H' rows' s' sb sw => ?_⟩
  obtain ⟨L', ao', w'⟩ := sw.w
  exact ⟨L', X, ao', oo.mono sb, ⟨sc.mono sb, zs, lz, w'.perm pb3.symm⟩⟩
theorem BW.swM (h : BW K I H c n R rows s rows2 s2 sn M) : ∃ M', SW K I H c.ad R rows s M' ∧ ∀ I' H' rows' s' p o, Sub I I' → SW K I' H' c.ad R rows' s' ((p, o) :: M') → BW K I' H' c n R rows' s' rows2 s2 sn ((p, o) :: M) := by
  obtain ⟨L, X, ao, oo, ⟨sc, zs, lz, w⟩⟩ := h
  refine ⟨(c.t, .lst zs) :: (c.oa.pr, .lst (rows2.map sV)) :: (X ++ M), .of ao (w.perm pb3), fun I' H' rows' s' p o sb sw => ?_⟩
  obtain ⟨L', ao', w'⟩ := sw.w
  exact ⟨L', X, ao', oo.mono sb, ⟨sc.mono sb, zs, lz, w'.perm pb4⟩⟩
/-- as the law's own asker is seen -/
theorem BW.ow (h : BW K I H c n R rows s rows2 s2 sn M) : ∃ M', OwW I H c.oa R s2 sn M' ∧ Ls I M' c.oa.pr (.lst (rows2.map sV)) ∧ ∀ I' H' s2' sn', Sub I I' → OwW I' H' c.oa R s2' sn' M' → BW K I' H' c n R rows s rows2 s2' sn' M := by
  obtain ⟨L, X, ao, oo, ⟨sc, zs, lz, w⟩⟩ := h
  refine ⟨(c.oa.pr, .lst (rows2.map sV)) :: (c.t, .lst zs) :: (c.ad.st, oStore K c.ad.dst c.ad.r) :: (c.ad.r, .lst (rows.map sV)) :: (L ++ M), oo.w (w.perm pb5), Ls.head, fun I' H' s2' sn' sb ow => ?_⟩
  obtain ⟨X', oo', w'⟩ := ow.o
  exact ⟨L, X', ao.mono sb, oo', ⟨sc.mono sb, zs, lz, w'.perm pb5.symm⟩⟩
/-- the rows of the law's own -/
theorem BW.rw (h : BW K I H c n R rows s rows2 s2 sn M) : H c.oa.pr = some (.lst (rows2.map sV)) ∧ ∀ rows', BW K I (upd H c.oa.pr (.lst (rows'.map sV))) c n R rows s rows' s2 sn M := by
  obtain ⟨L, X, ao, oo, ⟨sc, zs, lz, w⟩⟩ := h
  have w1 : W I H ((c.oa.pr, .lst (rows2.map sV)) :: (c.t, .lst zs) :: (c.ad.st, oStore K c.ad.dst c.ad.r) :: (c.ad.r, .lst (rows.map sV)) :: (L ++ (X ++ M))) := w.perm pb6
  exact ⟨w1.has.1, fun rows' => ⟨L, X, ao, oo, ⟨sc, zs, lz, (w1.put (o' := .lst (rows'.map sV))).perm pb6.symm⟩⟩⟩
theorem BW.obj (h : BW K I H c n R rows s rows2 s2 sn M) : ∃ vs, H c.ad.x = some (oAsker K c.ad R s vs) ∧ ShV I vs s.shown := by
  obtain ⟨M', sw, _⟩ := h.sw
  exact sw.asker
theorem BW.store (h : BW K I H c n R rows s rows2 s2 sn M) : H c.ad.st = some (oStore K c.ad.dst c.ad.r) := by
  obtain ⟨M', sw, _⟩ := h.sw
  exact sw.store
/-- the law's own asker, seen -/
theorem BW.own (h : BW K I H c n R rows s rows2 s2 sn M) : ∃ (ps pc pa pf pk pg : Addr) (vs : V) (sv cv kv lv : List V), H c.oa.o = some (oOwn c.oa R s2 ps pc pa pf pk pg vs) ∧ H pa = some (nmA s2) ∧ H pg = some (.lst lv) ∧ RpAll I lv (s2.log.map lgD) := by
  obtain ⟨M', ⟨ps, pc, pa, pf, pk, pg, vs, sv, cv, kv, lv, w, hdl, rs, rc, rk, sh, rl⟩, _⟩ := h.ow
  exact ⟨ps, pc, pa, pf, pk, pg, vs, sv, cv, kv, lv, w.has.1, w.has.2.2.2.1, w.has.2.2.2.2.2.2.1, rl⟩
end
end TA

set_option linter.all false
set_option maxRecDepth 100000
set_option maxHeartbeats 4000000
/-! Both askers are told the same. -/
namespace TA
open PySem L2 PyProof.Rows
open SX (S S_len S_inj S_cat S_tl)
local macro_rules | `(tactic| simp! [$as,*]) => `(tactic| first | simp only [L2.start, tSeq, tAsg, tOp, fFld, tVar, gIxL, gIxT, tCB, tCons, tNil, gLenL, gLenT, gLenS, rI, rI0, fSet, tIfS, tTest, tB, rNotN, rIsN, rEq, rNe, tC, tDrop, fBM, fBM0, gTy, rAppend, tTup, tLst, tRet, tRetN, tNext, gName, fTup, gCons, gNil, tCall, fCallS, fMeth, tMeth, fMethS, fMake, tMake, fMakeS, tUn, rU, tAnd, tOr, tNot, tAndV, tOrV, tNotV, tIf, tChain, gListL, gListT, tSl, tNoPart, tPart, gSlL, fRaise, gStrI, gCatS, gMin2, gMax2, gIntB, tYes, fLcL, fLcT, fLcS, fLcR1, fForL, fForR1, fForR2, fRev, fGetI, gGetI, gInI, gLenI, fPutI, fNewI,
  List.map_cons, List.map_nil, List.length_cons, List.length_nil, List.replicate, List.cons_append, List.nil_append, List.append_nil, List.getElem?_cons_zero, List.getElem?_cons_succ, List.set_cons_zero, List.set_cons_succ, reduceIte, Bool.not_true, Bool.not_false, Nat.reduceAdd, Nat.reduceSub, Bool.false_eq_true, eq_self,
  Option.some.injEq, V.int.injEq, V.ref.injEq, V.str.injEq, V.bl.injEq, HO.ins.injEq, HO.lst.injEq, HO.tup.injEq, HO.dK.injEq, List.cons.injEq, and_assoc, exists_eq_left', exists_and_left, and_true, true_and, true_or, or_true, false_or, or_false, exists_eq_left, exists_eq_right, exists_eq_right', exists_eq, exists_eq', exists_const, upd_same, sc_ii, sc_ss, sc_bb, sc_in, sc_ni, sc_ns, sc_sn, sc_nn, $as,*] | skip)
def TWd : Deed → Str → V → Prop
  | .put l, w, x => w = "put" ∧ x = sV l ∧ l.length ≤ 1000
  | .key l, w, x => w = "key" ∧ x = sV l ∧ l.length ≤ 1000
  | .rub, w, x => w = "rub" ∧ ∃ l, x = sV l
  | .tick n, w, x => w = "tick" ∧ x = .int n
  | .again, w, x => w = "again" ∧ ∃ l, x = sV l
  | _, _, _ => False
def ToldV (I : Hp) (v : V) : Option Str → Prop
  | none => v = .non
  | some e => Rp I v (refD (some e))
def sp__law_told (K : PySem.W.Frag) : Sp := fun vs H Q _ => ∃ (I : Hp) (M : List (Addr × HO)) (ad : Ad) (R : Rul) (rows : List Tx) (s : AS) (n : Nat) (d : Deed) (w : Str) (x : V), vs = [.ref ad.x, .str w, x] ∧ TWd d w x ∧ SW K I H ad R rows s M ∧ PlI R rows s n ∧ n ≤ 200 ∧
  ∀ I' H' v, Sub I I' → SW K I' H' ad R rows (doR R rows s d).2.1 M → ToldV I' v (doR R rows s d).2.2 → Q v H'
def t__law_told_B1_3 (K : PySem.W.Frag) (E : XK) : TS := tRet (tIf (tTest (tOp (rIsN) (tVar 3) (tC .non))) (tVar 4) (tCall (sp__law_refusal K) [] E (tCons (tVar 3) (tNil))))
def t__law_told (K : PySem.W.Frag) (E : XK) : TS := tSeq (tAsg (tC .non) (gName 3)) (tSeq (tAsg (tC .non) (gName 4)) (tSeq (fun D σ H => (fun W : WX => tIfS (tTest (tOp (rEq) (tVar 1) (tC (.str "put")))) (tAsg (fMethS (He.ga K "Asker") "put" (sp_Asker_put K) W (tVar 0) (tCons (tVar 2) (tNil))) (gName 4)) (tIfS (tTest (tOp (rEq) (tVar 1) (tC (.str "key")))) (tAsg (fMethS (He.ga K "Asker") "key" (sp_Asker_key K) W (tVar 0) (tCons (tVar 2) (tNil))) (gName 4)) (tIfS (tTest (tOp (rEq) (tVar 1) (tC (.str "tick")))) (tAsg (fMethS (He.ga K "Asker") "tick" (sp_Asker_tick K) W (tVar 0) (tCons (tVar 2) (tNil))) (gName 4)) (tAsg (tIf (tTest (tOp (rEq) (tVar 1) (tC (.str "rub")))) (fMethS (He.ga K "Asker") "rub" (sp_Asker_rub K) W (tVar 0) (tNil)) (fMethS (He.ga K "Asker") "again" (sp_Asker_again K) W (tVar 0) (tNil))) (gName 4))))) (wHold (errV K) 5 3 D) D σ H) (t__law_told_B1_3 K E)))
abbrev nn__law_told : List Str := ["asker", "word", "one", "held", "found", "e"]
section
variable {K : PySem.W.Frag}
theorem len__law_told : ∀ vs H Q E, sp__law_told K vs H Q E → vs.length = ["asker", "word", "one"].length := by
  rintro _ _ _ _ ⟨_, _, _, _, _, _, _, _, _, _, rfl, _⟩; rfl
theorem SW.wv {I H : Hp} {ad : Ad} {R : Rul} {rows : List Tx} {s : AS} {M : List (Addr × HO)} (h : SW K I H ad R rows s M) : ∃ X, W I H X ∧ ∀ I' H', Sub I I' → W I' H' X → SW K I' H' ad R rows s M := by
  obtain ⟨L, ao, w⟩ := h.w
  exact ⟨_, w, fun I' H' sb w' => .of (ao.mono sb) w'⟩
/-- what is told when it was held -/
theorem told3 {I H : Hp} {ad : Ad} {R : Rul} {rows : List Tx} {s : AS} {M : List (Addr × HO)} {r0 r1 r2 r4 r5 : Option V} {v : V} {Q : VK} {E : XK} {e : Str} (h : SW K I H ad R rows s M) (hv : HeldV K I v (some e))
    (hQ : ∀ I' H' v, Sub I I' → SW K I' H' ad R rows s M → Rp I' v (refD (some e)) → Q v H') : t__law_told_B1_3 K E { nx := fun _ H2 => Q .non H2, rt := Q } [r0, r1, r2, some v, r4, r5] H := by
  obtain ⟨X, w, b⟩ := h.wv
  have hh := hv
  obtain ⟨h1, a, rfl, h3⟩ := hh
  unfold t__law_told_B1_3
  simp! [reduceCtorEq, decide_false]
  exact ⟨I, X, .ref a, some e, rfl, w, hv, fun I2 H2 v' s2 w2 r => hQ _ _ _ s2 (b I2 H2 s2 w2) r⟩
theorem told0 {H : Hp} {r0 r1 r2 r5 : Option V} {Q : VK} {E : XK} (hQ : Q .non H) : t__law_told_B1_3 K E { nx := fun _ H2 => Q .non H2, rt := Q } [r0, r1, r2, some .non, some .non, r5] H := by
  unfold t__law_told_B1_3
  simp! [and_true]
  exact hQ
theorem pure__law_told : ∀ vs H Q E, sp__law_told K vs H Q E → t__law_told K E { nx := fun _ H2 => Q .non H2, rt := Q } (L2.start nn__law_told vs) H := by
  rintro vs H Q E ⟨I, M, ad, R, rows, s, n, d, wd, x, rfl, hd, h, pl, hn, hQ⟩
  have hb := line_big
  have hse := pl.se
  obtain ⟨vs, hx, _⟩ := h.asker
  unfold oAsker at hx
  -- held
  have hold : ∀ (r5 : Option V) (H1 : Hp) (e : Str), e ∈ errs → SW K I H1 ad R rows s M → (∀ I' H' v, Sub I I' → SW K I' H' ad R rows s M → Rp I' v (refD (some e)) → Q v H') →
      wHold (errV K) 5 3 { nx := t__law_told_B1_3 K E { nx := fun _ H2 => Q .non H2, rt := Q }, rt := Q } (.ref (He.ga K e)) none [some (.ref ad.x), some (.str wd), some x, some .non, some .non, r5] H1 := by
    intro r5 H1 e he h1 q
    refine ⟨errV_in he, rfl, fun a ha => ?_⟩
    obtain ⟨I3, s3, h3, e3⟩ := h1.mkI ha (ExC (.ref (He.ga K e)) a)
    exact told3 h3 ⟨he, a, rfl, e3⟩ fun I' H' v sb sw r => q I' H' v (s3.trans sb) sw r
  cases d with
  | put l =>
    obtain ⟨rfl, rfl, ll⟩ := hd
    unfold t__law_told
    simp! [hx, no_Asker_put]
    refine ⟨I, _, ad, R, rows, s, l, rfl, h.aw, pl.ok, by omega, by omega, fun c I' H' sb aw => ?_, fun c H' sm => ?_⟩
    · unfold doR at hQ
      simp only [if_pos c] at hQ
      exact told0 (hQ I' H' .non sb ⟨aw⟩ rfl)
    · unfold doR at hQ
      simp only [if_neg (show ¬ okL 12 l = true by rw [c]; decide)] at hQ
      exact hold none H' "BadText" (by decide +kernel) (h.same sm) fun I' H' v sb sw r => hQ I' H' v sb sw r
  | key l =>
    obtain ⟨rfl, rfl, ll⟩ := hd
    unfold t__law_told
    simp! [hx, no_Asker_key]
    refine ite_f (by decide +kernel) ?_
    refine ⟨I, _, ad, R, rows, s, l, rfl, h.aw, pl.ok, by omega, by omega, fun c I' H' sb aw => ?_, fun c H' sm => ?_⟩
    · unfold doR at hQ
      simp only [if_pos c] at hQ
      exact told0 (hQ I' H' .non sb ⟨aw⟩ rfl)
    · unfold doR at hQ
      simp only [if_neg (show ¬ okL 12 (s.now ++ l) = true by rw [c]; decide)] at hQ
      exact hold none H' "BadText" (by decide +kernel) (h.same sm) fun I' H' v sb sw r => hQ I' H' v sb sw r
  | rub =>
    obtain ⟨rfl, l, rfl⟩ := hd
    unfold t__law_told
    simp! [hx, no_Asker_rub]
    refine ite_f (by decide +kernel) (ite_f (by decide +kernel) (ite_f (by decide +kernel) ?_))
    exact ⟨I, _, ad, R, rows, s, rfl, h.aw, pl.ok, by omega, fun I' H' sb aw => told0 (hQ I' H' .non sb ⟨aw⟩ rfl)⟩
  | tick k =>
    obtain ⟨rfl, rfl⟩ := hd
    unfold t__law_told
    simp! [hx, no_Asker_tick]
    refine ite_f (by decide +kernel) (ite_f (by decide +kernel) ?_)
    refine ⟨I, _, ad, R, rows, s, k, rfl, h.aw, pl.ok, pl.rok, by omega, fun c I' H' sb aw => ?_, fun c => ?_⟩
    · unfold doR at hQ
      simp only [if_pos c] at hQ
      exact told0 (hQ I' H' .non sb ⟨aw⟩ rfl)
    · unfold doR at hQ
      simp only [if_neg (show ¬ tickOk k = true by rw [c]; decide)] at hQ
      exact hold none H "BadNumber" (by decide +kernel) h fun I' H' v sb sw r => hQ I' H' v sb sw r
  | again =>
    obtain ⟨rfl, l, rfl⟩ := hd
    unfold t__law_told
    simp! [hx, no_Asker_again]
    refine ite_f (by decide +kernel) (ite_f (by decide +kernel) (ite_f (by decide +kernel) (ite_f (by decide +kernel) ?_)))
    refine ⟨I, _, ad, R, rows, s, rfl, h.aw, pl.ok, by omega, fun c I' H' sb aw => ?_, fun c H' sm => ?_⟩
    · unfold doR at hQ
      simp only [if_neg (show ¬ againE s = true by rw [c]; decide)] at hQ
      exact told0 (hQ I' H' .non sb ⟨aw⟩ rfl)
    · unfold doR at hQ
      simp only [if_pos c] at hQ
      exact hold none H' "BadAsk" (by decide +kernel) (h.same sm) fun I' H' v sb sw r => hQ I' H' v sb sw r
  | add l => exact hd.elim
  | rem l => exact hd.elim
end
end TA

set_option linter.all false
set_option maxRecDepth 100000
set_option maxHeartbeats 4000000
/-! What stays between calls; something is typed. -/
namespace TA
open PySem L2 PyProof.Rows
open SX (S S_len S_inj S_cat S_tl)
local macro_rules | `(tactic| simp! [$as,*]) => `(tactic| first | simp only [L2.start, tSeq, tAsg, tOp, fFld, tVar, gIxL, gIxT, tCB, tCons, tNil, gLenL, gLenT, gLenS, rI, rI0, fSet, tIfS, tTest, tB, rNotN, rIsN, rEq, rNe, tC, tDrop, fBM, fBM0, gTy, rAppend, tTup, tLst, tRet, tRetN, tNext, gName, fTup, gCons, gNil, tCall, fCallS, fMeth, tMeth, fMethS, fMake, tMake, fMakeS, tUn, rU, tAnd, tOr, tNot, tAndV, tOrV, tNotV, tIf, tChain, gListL, gListT, tSl, tNoPart, tPart, gSlL, fRaise, gStrI, gCatS, gMin2, gMax2, gIntB, tYes, fLcL, fLcT, fLcS, fLcR1, fForL, fForR1, fForR2, fRev, fGetI, gGetI, gInI, gLenI, fPutI, fNewI,
  List.map_cons, List.map_nil, List.length_cons, List.length_nil, List.replicate, List.cons_append, List.nil_append, List.append_nil, List.getElem?_cons_zero, List.getElem?_cons_succ, List.set_cons_zero, List.set_cons_succ, reduceIte, Bool.not_true, Bool.not_false, Nat.reduceAdd, Nat.reduceSub, Bool.false_eq_true, eq_self,
  Option.some.injEq, V.int.injEq, V.ref.injEq, V.str.injEq, V.bl.injEq, HO.ins.injEq, HO.lst.injEq, HO.tup.injEq, HO.dK.injEq, List.cons.injEq, and_assoc, exists_eq_left', exists_and_left, and_true, true_and, true_or, or_true, false_or, or_false, exists_eq_left, exists_eq_right, exists_eq_right', exists_eq, exists_eq', exists_const, upd_same, sc_ii, sc_ss, sc_bb, sc_in, sc_ni, sc_ns, sc_sn, sc_nn, $as,*] | skip)
structure Iv (R : Rul) (s : AS) (sn : List (Int × Tx)) : Prop where
  ok : OwK R 0 s sn
  ia : InvA s.uw s
  cs : Cs s.uw sn s
section
variable {R : Rul} {s : AS} {sn : List (Int × Tx)} {rows : List Tx}
theorem near_uwP (s : AS) : (nearS R s).uw = s.uw := by
  unfold nearS; split
  · rfl
  · split
    · rfl
    · split
      · rfl
      · split
        · rfl
        · split <;> rfl
theorem Iv.ask (h : Iv R s sn) (hs : s.sent ≤ 30000) : Iv R (askS R s) (askN R s sn) := ⟨h.ok.ask hs, h.ia.ask, h.cs.ask h.ok.ls h.ok.ok.fs h.ia.pn⟩
theorem pre0_uw (t : Tx) : (pre0 s t).uw = s.uw ∧ (pre0 s t).flying = s.flying ∧ (pre0 s t).sent = s.sent := by
  unfold pre0; split <;> exact ⟨rfl, rfl, rfl⟩
theorem Iv.put (h : Iv R s sn) (hs : s.sent ≤ 30000) {t : Tx} (ht : okL 12 t = true) : Iv R (putS R s t) (putN R s t sn) := by
  obtain ⟨e1, e2, e3⟩ := pre0_uw (s := s) t
  have ok1 := (h.ok.pre0 ht).near
  refine ⟨ok1.ask (by rw [near_sent, e3]; exact hs), h.ia.put t, ?_⟩
  have c1 : Cs s.uw sn (pre0 s t) := ⟨by rw [e2]; exact h.cs.fl, h.cs.uw, h.cs.nd, by rw [e2]; exact h.cs.so⟩
  have c2 : Cs (nearS R (pre0 s t)).uw sn (nearS R (pre0 s t)) := by rw [near_uwP, e1]; exact c1.near
  refine c2.ask ok1.ls ok1.ok.fs ?_
  rw [near_uwP, e1, near_sent, e3]
  exact h.ia.pn
theorem Iv.again (h : Iv R s sn) (hs : s.sent ≤ 30000) (e : againE s = false) : Iv R (againS R s) (askN R { s with ks := [], due := true, tries := 0, at_ := s.time - R.pause } sn) := by
  have ok1 : OwK R 0 { s with ks := [], due := true, tries := 0, at_ := s.time - R.pause } sn := ⟨{ h.ok.ok with ks := (by simp), kl := Nat.zero_le _ }, h.ok.se, by simp, h.ok.ls⟩
  have c1 : Cs s.uw sn { s with ks := [], due := true, tries := 0, at_ := s.time - R.pause } := ⟨h.cs.fl, h.cs.uw, h.cs.nd, h.cs.so⟩
  exact ⟨ok1.ask hs, h.ia.again e, c1.ask ok1.ls ok1.ok.fs h.ia.pn⟩
theorem Iv.step (h : Iv R s sn) (hs : s.sent ≤ 30000) (ro : rowsOk rows) : Iv R (stepS R rows s) (stepN R rows s sn) := by
  have okc : OkS R 0 (comeAll R rows (tick0 s) (dueU (s.time + 1) s.uw)) := OkS.comes ro h.ok.ok.tick0 fun x hx => h.ok.ok.qu x (mem_due.mp hx).1
  have hse : (comeAll R rows (tick0 s) (dueU (s.time + 1) s.uw)).sent = s.sent := comes_sent R rows _ (tick0 s)
  have ok1 : OwK R 0 (comeAll R rows (tick0 s) (dueU (s.time + 1) s.uw)) sn := ⟨okc, by rw [hse]; exact h.ok.se, nk_comes _ h.ok.nk, by rw [hse]; exact h.ok.ls⟩
  have ok2 : OwK R 0 (stT R rows s) sn := ok1.losts
  have se2 : (stT R rows s).sent = s.sent := by rw [← ok2.ls, ok1.ls, hse]
  have uw2 : (stT R rows s).uw = restU (s.time + 1) s.uw := by
    unfold stT againT
    rw [losts_uw, comes_uw]; rfl
  have us : ∀ u ∈ restU (s.time + 1) s.uw, u ∈ s.uw := fun u hu => (List.mem_filter.mp hu).1
  have fl2 : (stT R rows s).flying.Sublist s.flying := (losts_fl _ _).trans (comes_fl _ (tick0 s))
  have c1 : Cs (stT R rows s).uw sn (stT R rows s) := by
    rw [uw2]
    exact ⟨fun p hp => h.cs.fl p (fl2.subset hp), fun u hu => h.cs.uw u (us u hu), h.cs.nd.sublist (List.filter_sublist.map _), h.cs.so.sublist (fl2.map _)⟩
  refine ⟨ok2.ask (by rw [se2]; exact hs), h.ia.step, c1.ask ok2.ls ok2.ok.fs ?_⟩
  rw [uw2, se2]
  exact fun u hu => h.ia.pn u (us u hu)
end
def sp__law_typed (K : PySem.W.Frag) : Sp := fun vs H Q _ => ∃ (I : Hp) (M : List (Addr × HO)) (c : Bd) (n i : Nat) (R : Rul) (rows : List Tx) (s : AS) (sn : List (Int × Tx)), vs = [.ref c.a, .ref c.t, .ref c.ad.x, .ref c.oa.o] ∧ BW K I H c n R rows s rows s sn M ∧ n < 100000 ∧ PlI R rows s i ∧ i ≤ 150 ∧ Iv R s sn ∧
  ∀ I' H' s' sn', Sub I I' → BW K I' H' c (n + 10) R rows s' rows s' sn' M → PlI R rows s' (i + 1) → Iv R s' sn' → Q (.bl true) H'
def t__law_typed_B1_6 (K : PySem.W.Frag) (E : XK) : TS := tSeq (tDrop (tCall (sp__law_put K) [] E (tCons (tVar 3) (tCons (tVar 6) (tNil))))) (tRet (tOp (rIsN) (tCall (sp__law_told K) [] E (tCons (tVar 2) (tCons (tVar 5) (tCons (tIf (tTest (tOp (rEq) (tVar 5) (tC (.str "key")))) (tVar 7) (tVar 6)) (tNil))))) (tC .non)))
def t__law_typed_B1_5 (K : PySem.W.Frag) (E : XK) : TS := tSeq (tIfS (tOr (tTest (tOp (rI0 fun i j => .bl (decide (j < i))) (tCB (gLenS) (tCons (tVar 6) (tNil))) (tC (.int 12)))) (tTest (tOp (rEq) (tVar 6) (tC (.str "\n"))))) (tRet (tOp (gEqD) (tCall (sp__law_told K) [] E (tCons (tVar 2) (tCons (tVar 5) (tCons (tIf (tTest (tOp (rEq) (tVar 5) (tC (.str "key")))) (tVar 7) (tVar 6)) (tNil))))) (tTup (tCons (tC (.str "refused")) (tCons (tC (.str "text")) (tNil)))))) (tNext)) (t__law_typed_B1_6 K E)
def t__law_typed_B1_4 (K : PySem.W.Frag) (E : XK) : TS := tSeq (tIfS (tTest (tOp (rEq) (tVar 4) (tC (.int 4)))) (tAsg (tCall (sp__law_pick K) [] E (tCons (tVar 0) (tCons (tVar 1) (tCons (tLst (tCons (tC (.str "")) (tCons (tOp (gRepS) (tC (.str "x")) (tC (.int 13))) (tCons (tC (.str "\n")) (tCons (fGetS (tVar 3) "typed") (tNil)))))) (tNil))))) (gName 6)) (tNext)) (t__law_typed_B1_5 K E)
def t__law_typed_B1_3 (K : PySem.W.Frag) (E : XK) : TS := tSeq (tIfS (tTest (tOp (rEq) (tVar 4) (tC (.int 3)))) (tPar 5 6 (tCons (tC (.str "rub")) (tCons (tSl rSlS (fGetS (tVar 3) "typed") (tNoPart) (tPart (tUn (rU fun i => .int (-i)) (tC (.int 1))))) (tNil)))) (tNext)) (t__law_typed_B1_4 K E)
def t__law_typed_B1_2 (K : PySem.W.Frag) (E : XK) : TS := tSeq (tIfS (tTest (tOp (rI0 fun i j => .bl (decide (i < j))) (tVar 4) (tC (.int 3)))) (tSeq (tAsg (tCall (sp__law_pick K) [] E (tCons (tVar 0) (tCons (tVar 1) (tCons (tLst (tCons (tC (.str "a")) (tCons (tC (.str "b")) (tCons (tC (.str "A")) (tCons (tC (.str "c")) (tCons (tC (.str " ")) (tNil))))))) (tNil))))) (gName 7)) (tPar 5 6 (tCons (tC (.str "key")) (tCons (tOp (gCatS) (fGetS (tVar 3) "typed") (tVar 7)) (tNil))))) (tNext)) (t__law_typed_B1_3 K E)
def t__law_typed (K : PySem.W.Frag) (E : XK) : TS := tSeq (tAsg (tCall (sp__law_draw K) [] E (tCons (tVar 0) (tCons (tVar 1) (tCons (tC (.int 6)) (tNil))))) (gName 4)) (tSeq (tPar3 5 6 7 (tCons (tC (.str "put")) (tCons (tCall (sp__law_query K) [] E (tCons (tVar 0) (tCons (tVar 1) (tNil)))) (tCons (tC (.str "")) (tNil))))) (t__law_typed_B1_2 K E))
abbrev nn__law_typed : List Str := ["script", "town", "asker", "own", "way", "word", "text", "sign"]
section
variable {K : PySem.W.Frag}
theorem len__law_typed : ∀ vs H Q E, sp__law_typed K vs H Q E → vs.length = ["script", "town", "asker", "own"].length := by
  rintro _ _ _ _ ⟨_, _, _, _, _, _, _, _, _, rfl, _⟩; rfl
theorem lit_nl : Str.ofString "\n" = S [10] := by kernel_rfl
def badT (t : Tx) : Prop := 12 < t.length ∨ t = [10]
instance {t : Tx} : Decidable (badT t) := by unfold badT; infer_instance
theorem typed5 {I H : Hp} {M : List (Addr × HO)} {c : Bd} {n i : Nat} {R : Rul} {rows : List Tx} {s : AS} {sn : List (Int × Tx)} {Q : VK} {E : XK} {r4 : Option V} {w : Str} {text sign : Tx} {d : Deed}
    (h : BW K I H c n R rows s rows s sn M) (pl : PlI R rows s i) (hi : i ≤ 150) (iv : Iv R s sn) (lt : text.length ≤ 1000) (hw : TWd d w (if w = "key" then sV sign else sV text)) (hb : okL 12 text = !decide (badT text))
    (hd : doR R rows s d = if okL 12 text = true then (rows, putS R s text, none) else (rows, s, some (Str.ofString "BadText")))
    (hQ : ∀ I' H' s' sn', Sub I I' → BW K I' H' c n R rows s' rows s' sn' M → PlI R rows s' (i + 1) → Iv R s' sn' → Q (.bl true) H') :
    t__law_typed_B1_5 K E { nx := fun _ H2 => Q .non H2, rt := Q } [some (.ref c.a), some (.ref c.t), some (.ref c.ad.x), some (.ref c.oa.o), r4, some (.str w), some (sV text), some (sV sign)] H := by
  have hlb := line_big
  have hse := pl.se
  have lift : PlI R rows s (i + 1) := ⟨pl.ok, pl.ro, pl.rl, by omega⟩
  unfold t__law_typed_B1_5
  simp! [S_len, lit_nl, S_eq]
  by_cases cb : badT text
  · have okf : okL 12 text = false := by rw [hb]; simp [cb]
    rw [okf, if_neg (by decide)] at hd
    -- refused
    have go : ∀ x, x = (if w = "key" then sV sign else sV text) → sp__law_told K [.ref c.ad.x, .str w, x] H (fun x H1 => 2 ≤ sizeLine ∧ ∀ (p : Addr), H1 p = none → gEqD x (V.ref p) (upd H1 p (HO.tup [V.str (Str.ofString "refused"), V.str (Str.ofString "text")])) Q) E := by
      rintro x rfl
      obtain ⟨M', sw, b⟩ := h.sw
      refine ⟨I, M', c.ad, R, rows, s, i, d, w, _, rfl, hw, sw, pl, by omega, fun I' H' v sb sw' tv => ?_⟩
      rw [hd] at sw' tv
      have bw := b I' H' _ _ sb sw'
      refine ⟨two_le, fun p hp => ?_⟩
      obtain ⟨I2, s2, bw2, h2⟩ := bw.mkI hp (.tup [V.str (Str.ofString "refused"), V.str (Str.ofString "text")])
      have tv : Rp I' v (.tuple [.str (Str.ofString "refused"), .str (Str.ofString "text")]) := by
        have e : refD (some "BadText") = .tuple [.str (Str.ofString "refused"), .str (Str.ofString "text")] := by kernel_rfl
        rw [← e]; exact tv
      refine eqD_t (tv.mono (s2.trans bw2.sub)) (.tup (bw2.sub _ _ h2) (.cons (.str _) (.cons (.str _) .nil))) (by simp [PyData.depth, PyData.depthAll]) ?_
      exact hQ I2 _ s sn (sb.trans s2) bw2 lift iv
    have go2 : (if decide (w = Str.ofString "key") = true then sp__law_told K [.ref c.ad.x, .str w, sV sign] H (fun x H1 => 2 ≤ sizeLine ∧ ∀ (p : Addr), H1 p = none → gEqD x (V.ref p) (upd H1 p (HO.tup [V.str (Str.ofString "refused"), V.str (Str.ofString "text")])) Q) E else sp__law_told K [.ref c.ad.x, .str w, sV text] H (fun x H1 => 2 ≤ sizeLine ∧ ∀ (p : Addr), H1 p = none → gEqD x (V.ref p) (upd H1 p (HO.tup [V.str (Str.ofString "refused"), V.str (Str.ofString "text")])) Q) E) := by
      by_cases cw : w = Str.ofString "key"
      · exact ite_t cw (go _ (by rw [if_pos cw]))
      · exact ite_f cw (go _ (by rw [if_neg cw]))
    refine ⟨by omega, ?_⟩
    by_cases c1 : 12 < text.length
    · exact ite_t (by omega) go2
    · refine ite_f (by omega) ?_
      exact ite_t (cb.resolve_left c1) go2
  · have okt : okL 12 text = true := by rw [hb]; simp [cb]
    rw [okt, if_pos rfl] at hd
    refine ⟨by omega, ?_⟩
    refine ite_f (fun q => cb (.inl (by omega))) (ite_f (fun q => cb (.inr q)) ?_)
    unfold t__law_typed_B1_6
    simp! [and_true]
    obtain ⟨M', ow, _, b⟩ := h.ow
    refine ⟨I, M', c.oa, R, s, sn, text, rfl, ow, iv.ok, iv.ia, okt, fun I' H' sb ow' => ?_⟩
    have bw := b I' H' _ _ sb ow'
    have go : ∀ x, x = (if w = "key" then sV sign else sV text) → sp__law_told K [.ref c.ad.x, .str w, x] H' (fun x H1 => Q (.bl (decide (x = .non))) H1) E := by
      rintro x rfl
      obtain ⟨M2, sw, b2⟩ := bw.sw
      refine ⟨I', M2, c.ad, R, rows, s, i, d, w, _, rfl, hw, sw, pl, by omega, fun I2 H2 v s2 sw2 tv => ?_⟩
      have pl2 := pl.do d
      rw [hd] at sw2 tv pl2
      have bw2 := b2 I2 H2 _ _ s2 sw2
      have tv : v = .non := tv
      subst tv
      exact hQ I2 H2 _ _ (sb.trans s2) bw2 pl2 (iv.put (by omega) okt)
    by_cases cw : w = Str.ofString "key"
    · exact ite_t cw (go _ (by rw [if_pos cw]))
    · exact ite_f cw (go _ (by rw [if_neg cw]))
theorem mulOkO (x : Str) (n : Int) (h1 : x.length = 1) (h2 : 1 ≤ n) (h3 : n ≤ 100) : MulOk x n := by
  refine ⟨?_, fun _ _ => ?_, fun _ _ => ?_⟩
  · rw [decide_eq_false (by omega), decide_eq_false (by omega)]; rfl
  · rw [h1]
    have : 1 ≤ ((2 : Int) ^ 63 - 1) / n := by
      rw [Int.le_ediv_iff_mul_le (by omega)]; omega
    omega
  · rw [h1]
    have := line_big
    unfold Builtin.Str.tooLong
    simp
    omega
def rowN (k : Nat) : Tx := [114, 111, 119, 32] ++ TL.numL k
def rowsN (i : Nat) : List Tx := (List.range i).map rowN
theorem okL_bad {t : Tx} (h : t.all okC = true) : okL 12 t = !decide (badT t) := by
  unfold okL
  rw [h, Bool.and_true]
  by_cases c : 12 < t.length
  · have : badT t := .inl c
    simp [this]; omega
  · have : ¬ badT t := fun q => q.elim c fun e => by subst e; revert h; decide
    simp [this]; omega
theorem okC_app {a b : Tx} (h1 : a.all okC = true) (h2 : b.all okC = true) : (a ++ b).all okC = true := by rw [List.all_append, h1, h2]; rfl
theorem pure__law_typed : ∀ vs H Q E, sp__law_typed K vs H Q E → t__law_typed K E { nx := fun _ H2 => Q .non H2, rt := Q } (L2.start nn__law_typed vs) H := by
  rintro vs H Q E ⟨I, M, c, n, i, R, rows, s, sn, rfl, h, hn, pl, hi, iv, hQ⟩
  have hlb := line_big
  have okn := pl.ok.now
  have ln := okL_len okn
  have aln := okL_all okn
  unfold t__law_typed
  simp! [and_true]
  refine h.draw (by omega) (by decide) fun way H1 w0 w1 h1 => ?_
  simp! [tPar3]
  refine h1.query (by omega) fun q H2 okq h2 => ?_
  simp! [lit_e]
  -- keys
  have fin : ∀ (I' H' : Hp) (m : Nat) (w : Str) (text sign : Tx) (d : Deed) (r4 : Option V), Sub I I' → m ≤ n + 10 → BW K I' H' c m R rows s rows s sn M → text.length ≤ 1000 → TWd d w (if w = "key" then sV sign else sV text) → okL 12 text = !decide (badT text) → (doR R rows s d = if okL 12 text = true then (rows, putS R s text, none) else (rows, s, some (Str.ofString "BadText"))) →
      t__law_typed_B1_5 K E { nx := fun _ H2 => Q .non H2, rt := Q } [some (.ref c.a), some (.ref c.t), some (.ref c.ad.x), some (.ref c.oa.o), r4, some (.str w), some (sV text), some (sV sign)] H' :=
    fun I' H' m w text sign d r4 sb hm h' lt hw hb hd => typed5 h' pl hi iv lt hw hb hd fun I2 H2 s' sn' s2 bw pl' iv' => hQ I2 H2 s' sn' (sb.trans s2) (bw.le hm) pl' iv'
  obtain ⟨ps, pc, pa, pf, pk, pg, vs, sv, cv, kv, lv, hx, ha, hg, rl⟩ := h2.own
  unfold oOwn at hx
  unfold t__law_typed_B1_2
  by_cases c3 : way < 3
  · sm! []
    refine ite_t c3 ⟨by omega, fun l hl => ?_⟩
    obtain ⟨I3, s3, h3, e3⟩ := h2.mkI hl (.lst [V.str (Str.ofString "a"), V.str (Str.ofString "b"), V.str (Str.ofString "A"), V.str (Str.ofString "c"), V.str (Str.ofString " ")])
    refine h3.pick (by omega) e3 (by simp) fun y H4 hy h4 => ?_
    have hy : ∃ l : Tx, y = sV l ∧ l.length ≤ 1 ∧ l.all okC = true := by
      simp only [List.mem_cons, List.mem_nil_iff, or_false] at hy
      rcases hy with rfl | rfl | rfl | rfl | rfl
      · exact ⟨[97], by kernel_rfl, by decide, by decide⟩
      · exact ⟨[98], by kernel_rfl, by decide, by decide⟩
      · exact ⟨[65], by kernel_rfl, by decide, by decide⟩
      · exact ⟨[99], by kernel_rfl, by decide, by decide⟩
      · exact ⟨[32], by kernel_rfl, by decide, by decide⟩
    obtain ⟨l, rfl, ll, al⟩ := hy
    obtain ⟨ps, pc, pa, pf, pk, pg, vs, sv, cv, kv, lv, hx4, _⟩ := h4.own
    unfold oOwn at hx4
    sm! [tPar, hx4, S_cat, S_len]
    refine ⟨by omega, ?_⟩
    unfold t__law_typed_B1_3
    sm! []
    refine ite_f (by omega) ?_
    unfold t__law_typed_B1_4
    sm! []
    refine ite_f (by omega) ?_
    refine fin I3 H4 _ "key" (s.now ++ l) l (.key l) _ s3 (by omega) h4 (by rw [List.length_append]; omega) ?_ (okL_bad (okC_app aln al)) ?_
    · rw [if_pos rfl]; exact ⟨rfl, rfl, by omega⟩
    · rfl
  · sm! []
    refine ite_f c3 ?_
    unfold t__law_typed_B1_3
    by_cases c4 : way = 3
    · sm! [tPar, hx, rSlS, S_len, cut_hi]
      refine ite_t c4 ⟨by omega, ?_⟩
      unfold t__law_typed_B1_4
      sm! []
      refine ite_f (by omega) ?_
      have okd : okL 12 s.now.dropLast = true := by
        have := okn
        unfold okL at this ⊢
        rw [Bool.and_eq_true] at this ⊢
        refine ⟨decide_eq_true (by rw [List.length_dropLast]; omega), List.all_eq_true.mpr fun c hc => List.all_eq_true.mp this.2 c ((List.dropLast_sublist _).subset hc)⟩
      refine fin I H2 _ "rub" s.now.dropLast [] .rub _ (Sub.refl _) (by omega) h2 (by rw [List.length_dropLast]; omega) ⟨rfl, _, rfl⟩ (okL_bad (okL_all okd)) ?_
      rw [okd]; rfl
    · sm! []
      refine ite_f c4 ?_
      unfold t__law_typed_B1_4
      by_cases c5 : way = 4
      · sm! [hx, gRepS]
        refine ite_t c5 ?_
        have hm : MulOk (Str.ofString "x") 13 := mulOkO _ _ rfl (by decide) (by decide)
        refine ⟨hm, by omega, fun l hl => ?_⟩
        have e13 : Txt.mul (Str.ofString "x") 13 = S (List.replicate 13 120) := by kernel_rfl
        rw [e13]
        obtain ⟨I3, s3, h3, e3⟩ := h2.mkI hl (.lst [V.str (Str.ofString ""), V.str (S (List.replicate 13 120)), V.str (Str.ofString "\n"), sV s.now])
        refine h3.pick (by omega) e3 (by simp) fun y H4 hy h4 => ?_
        have hy : ∃ l : Tx, y = sV l ∧ l.length ≤ 13 ∧ okL 12 l = !decide (badT l) := by
          simp only [List.mem_cons, List.mem_nil_iff, or_false] at hy
          rcases hy with rfl | rfl | rfl | rfl
          · exact ⟨[], by kernel_rfl, by decide, by decide⟩
          · exact ⟨List.replicate 13 120, rfl, by decide, by decide⟩
          · exact ⟨[10], by kernel_rfl, by decide, by decide⟩
          · exact ⟨s.now, rfl, by omega, okL_bad aln⟩
        obtain ⟨l, rfl, ll, al⟩ := hy
        exact fin I3 H4 _ "put" l [] (.put l) _ s3 (by omega) h4 (by omega) ⟨rfl, rfl, by omega⟩ al rfl
      · sm! []
        refine ite_f c5 ?_
        refine fin I H2 _ "put" q [] (.put q) _ (Sub.refl _) (by omega) h2 (by have := okL_len okq; omega) ⟨rfl, rfl, by have := okL_len okq; omega⟩ (okL_bad (okL_all okq)) rfl
end
end TA

set_option linter.all false
set_option maxRecDepth 100000
set_option maxHeartbeats 4000000
/-! A call to both askers. -/
namespace TA
open PySem L2 PyProof.Rows
open SX (S S_len S_inj S_cat S_tl)
local macro_rules | `(tactic| simp! [$as,*]) => `(tactic| first | simp only [L2.start, tSeq, tAsg, tOp, fFld, tVar, gIxL, gIxT, tCB, tCons, tNil, gLenL, gLenT, gLenS, rI, rI0, fSet, tIfS, tTest, tB, rNotN, rIsN, rEq, rNe, tC, tDrop, fBM, fBM0, gTy, rAppend, tTup, tLst, tRet, tRetN, tNext, gName, fTup, gCons, gNil, tCall, fCallS, fMeth, tMeth, fMethS, fMake, tMake, fMakeS, tUn, rU, tAnd, tOr, tNot, tAndV, tOrV, tNotV, tIf, tChain, gListL, gListT, tSl, tNoPart, tPart, gSlL, fRaise, gStrI, gCatS, gMin2, gMax2, gIntB, tYes, fLcL, fLcT, fLcS, fLcR1, fForL, fForR1, fForR2, fRev, fGetI, gGetI, gInI, gLenI, fPutI, fNewI,
  List.map_cons, List.map_nil, List.length_cons, List.length_nil, List.replicate, List.cons_append, List.nil_append, List.append_nil, List.getElem?_cons_zero, List.getElem?_cons_succ, List.set_cons_zero, List.set_cons_succ, reduceIte, Bool.not_true, Bool.not_false, Nat.reduceAdd, Nat.reduceSub, Bool.false_eq_true, eq_self,
  Option.some.injEq, V.int.injEq, V.ref.injEq, V.str.injEq, V.bl.injEq, HO.ins.injEq, HO.lst.injEq, HO.tup.injEq, HO.dK.injEq, List.cons.injEq, and_assoc, exists_eq_left', exists_and_left, and_true, true_and, true_or, or_true, false_or, or_false, exists_eq_left, exists_eq_right, exists_eq_right', exists_eq, exists_eq', exists_const, upd_same, sc_ii, sc_ss, sc_bb, sc_in, sc_ni, sc_ns, sc_sn, sc_nn, $as,*] | skip)
def sp__law_call (K : PySem.W.Frag) : Sp := fun vs H Q _ => ∃ (I : Hp) (M : List (Addr × HO)) (c : Bd) (n i : Nat) (R : Rul) (rows : List Tx) (s : AS) (sn : List (Int × Tx)), vs = [.ref c.a, .ref c.t, .ref c.ad.x, .ref c.oa.o, .ref c.ad.st] ∧ BW K I H c n R rows s rows s sn M ∧ n < 90000 ∧ PlI R rows s i ∧ i ≤ 140 ∧ Iv R s sn ∧
  ∀ I' H' rows' s' sn', Sub I I' → BW K I' H' c (n + 20) R rows' s' rows' s' sn' M → PlI R rows' s' (i + 1) → Iv R s' sn' → Q (.bl true) H'
def t__law_call_B5_0 (K : PySem.W.Frag) (E : XK) : TS := tSeq (tAsg (tC .non) (gName 6)) (tSeq (fPutS (tVar 3) "kept" (tLst (tNil))) (tSeq (fPutS (tVar 3) "due" (tC (.bl true))) (tSeq (fPutS (tVar 3) "tries" (tC (.int 0))) (tSeq (fPutS (tVar 3) "since" (tOp (rI0 fun i j => .int (i - j)) (fGetS (tVar 3) "time") (fGetS (tVar 3) "pause"))) (tDrop (tCall (sp__law_ask K) [] E (tCons (tVar 3) (tNil))))))))
def t__law_call_B4_2 (K : PySem.W.Frag) (E : XK) : TS := tRet (tOp (gEqD) (tCall (sp__law_told K) [] E (tCons (tVar 2) (tCons (tC (.str "again")) (tCons (tC (.str "")) (tNil))))) (tVar 6))
def t__law_call_B4_0 (K : PySem.W.Frag) (E : XK) : TS := tSeq (tAsg (tTup (tCons (tC (.str "refused")) (tCons (tC (.str "ask")) (tNil)))) (gName 6)) (tSeq (tIfS (tAnd (tTest (tOp (rNe) (tCall (sp__law_folded K) [] E (tCons (fGetS (tVar 3) "typed") (tNil))) (tC (.str "")))) (tTest (tOp (gEqD) (fGetS (tVar 3) "asked") (tLst (tNil))))) (t__law_call_B5_0 K E) (tNext)) (t__law_call_B4_2 K E))
def t__law_call_B8_2 (K : PySem.W.Frag) (E : XK) : TS := tRet (tOp (gEqD) (tCall (sp__law_told K) [] E (tCons (tVar 2) (tCons (tC (.str "tick")) (tCons (tCall (sp__law_pick K) [] E (tCons (tVar 0) (tCons (tVar 1) (tCons (tLst (tCons (tUn (rU fun i => .int (-i)) (tC (.int 1))) (tCons (tC (.int 101)) (tNil)))) (tNil))))) (tNil))))) (tTup (tCons (tC (.str "refused")) (tCons (tC (.str "number")) (tNil)))))
def t__law_call_B8_0 (K : PySem.W.Frag) (E : XK) : TS := tSeq (tAsg (tCall (sp__law_row K) [] E (tCons (tVar 0) (tCons (tVar 1) (tNil)))) (gName 7)) (tSeq (tIfS (tTest (tOp (gInL false) (tVar 7) (fGetS (tVar 3) "rows"))) (tSeq (tDrop (fBM "list" gRemS (fGetS (tVar 3) "rows") (tCons (tVar 7) (tNil)))) (tDrop (fMeth (He.ga K "Store") "remove" (sp_Store_remove K) E (tVar 4) (tCons (tVar 7) (tNil))))) (tIfS (tAnd (tTest (tOp (rI0 fun i j => .bl (decide (i < j))) (tCB (gLenL) (tCons (fGetS (tVar 3) "rows") (tNil))) (tC (.int 12)))) (tTest (tOp (rNe) (tCall (sp__law_folded K) [] E (tCons (tVar 7) (tNil))) (tC (.str ""))))) (tSeq (tDrop (fBM "list" rAppend (fGetS (tVar 3) "rows") (tCons (tVar 7) (tNil)))) (tDrop (fMeth (He.ga K "Store") "add" (sp_Store_add K) E (tVar 4) (tCons (tVar 7) (tNil))))) (tNext))) (t__law_call_B8_2 K E))
def t__law_call_B1_6 (K : PySem.W.Frag) (E : XK) : TS := tRet (tOp (rIsN) (tCall (sp__law_told K) [] E (tCons (tVar 2) (tCons (tC (.str "tick")) (tCons (tVar 8) (tNil))))) (tC .non))
def t__law_call_B1_5 (K : PySem.W.Frag) (E : XK) : TS := tSeq (fForR1 (tCons (tVar 8) (tNil)) (gName 9) (tDrop (tCall (sp__law_step K) [] E (tCons (tVar 3) (tNil))))) (t__law_call_B1_6 K E)
def t__law_call_B1_4 (K : PySem.W.Frag) (E : XK) : TS := tSeq (tAsg (tCall (sp__law_pick K) [] E (tCons (tVar 0) (tCons (tVar 1) (tCons (tLst (tCons (tC (.int 0)) (tCons (tC (.int 1)) (tCons (tC (.int 2)) (tCons (tC (.int 9)) (tCons (tC (.int 40)) (tCons (tCall (sp__law_draw K) [] E (tCons (tVar 0) (tCons (tVar 1) (tCons (tC (.int 101)) (tNil))))) (tNil)))))))) (tNil))))) (gName 8)) (t__law_call_B1_5 K E)
def t__law_call_B1_3 (K : PySem.W.Frag) (E : XK) : TS := tSeq (tIfS (tTest (tOp (rEq) (tVar 5) (tC (.int 6)))) (t__law_call_B8_0 K E) (tNext)) (t__law_call_B1_4 K E)
def t__law_call_B1_2 (K : PySem.W.Frag) (E : XK) : TS := tSeq (tIfS (tTest (tOp (rEq) (tVar 5) (tC (.int 5)))) (t__law_call_B4_0 K E) (tNext)) (t__law_call_B1_3 K E)
def t__law_call (K : PySem.W.Frag) (E : XK) : TS := tSeq (tAsg (tCall (sp__law_draw K) [] E (tCons (tVar 0) (tCons (tVar 1) (tCons (tC (.int 10)) (tNil))))) (gName 5)) (tSeq (tIfS (tTest (tOp (rI0 fun i j => .bl (decide (i < j))) (tVar 5) (tC (.int 5)))) (tRet (tCall (sp__law_typed K) [] E (tCons (tVar 0) (tCons (tVar 1) (tCons (tVar 2) (tCons (tVar 3) (tNil))))))) (tNext)) (t__law_call_B1_2 K E))
abbrev nn__law_call : List Str := ["script", "town", "asker", "own", "store", "way", "due", "row", "many", "k"]
section
variable {K : PySem.W.Frag}
theorem len__law_call : ∀ vs H Q E, sp__law_call K vs H Q E → vs.length = ["script", "town", "asker", "own", "store"].length := by
  rintro _ _ _ _ ⟨_, _, _, _, _, _, _, _, _, rfl, _⟩; rfl
section
variable {I H : Hp} {M : List (Addr × HO)} {c : Bd} {n i : Nat} {R : Rul} {rows : List Tx} {s : AS} {sn : List (Int × Tx)} {Q : VK} {E : XK} {r5 r6 r7 r8 r9 : Option V}
/-- asked anew -/
theorem call5 (h : BW K I H c n R rows s rows s sn M) (pl : PlI R rows s i) (hi : i ≤ 140) (iv : Iv R s sn)
    (hQ : ∀ I' H' rows' s' sn', Sub I I' → BW K I' H' c n R rows' s' rows' s' sn' M → PlI R rows' s' (i + 1) → Iv R s' sn' → Q (.bl true) H') :
    t__law_call_B4_0 K E { nx := fun _ H2 => Q .non H2, rt := Q } [some (.ref c.a), some (.ref c.t), some (.ref c.ad.x), some (.ref c.oa.o), some (.ref c.ad.st), r5, r6, r7, r8, r9] H := by
  have hlb := line_big
  have hse := pl.se
  have okn := pl.ok.now
  have ln := okL_len okn
  unfold t__law_call_B4_0
  sm! []
  refine ⟨two_le, fun p hp => ?_⟩
  obtain ⟨I1, s1, h1, e1⟩ := h.mkI hp (.tup [V.str (Str.ofString "refused"), V.str (Str.ofString "ask")])
  obtain ⟨ps, pc, pa, pf, pk, pg, vs, sv, cv, kv, lv, hx, _⟩ := h1.own
  unfold oOwn at hx
  sm! [hx]
  refine ⟨s.now, rfl, by omega, okL_all okn, fun H2 sm2 => ?_⟩
  have h2 := h1.same sm2
  obtain ⟨ps, pc, pa, pf, pk, pg, vs, sv, cv, kv, lv, hx2, ha2, _⟩ := h2.own
  unfold oOwn at hx2
  -- the end of it
  have fin : ∀ (I' H' : Hp) (v6 : V) (s2 : AS) (sn2 : List (Int × Tx)), Sub I1 I' → BW K I' H' c n R rows s rows s2 sn2 M → (againE s = true → s2 = s ∧ sn2 = sn ∧ v6 = .ref p) → (againE s = false → s2 = againS R s ∧ Iv R s2 sn2 ∧ v6 = .non) →
      t__law_call_B4_2 K E { nx := fun _ H2 => Q .non H2, rt := Q } [some (.ref c.a), some (.ref c.t), some (.ref c.ad.x), some (.ref c.oa.o), some (.ref c.ad.st), r5, some v6, r7, r8, r9] H' := by
    intro I' H' v6 s2 sn2 sb bw y no
    unfold t__law_call_B4_2
    simp! [and_true]
    obtain ⟨M2, sw, b⟩ := bw.sw
    refine ⟨I', M2, c.ad, R, rows, s, i, .again, "again", _, rfl, ⟨rfl, [], by rw [lit_e]⟩, sw, pl, by omega, fun I3 H3 v s3 sw3 tv => ?_⟩
    have pl3 := pl.do .again
    cases e : againE s with
    | true =>
      obtain ⟨rfl, rfl, rfl⟩ := y e
      unfold doR at sw3 tv pl3
      simp only [e, if_true] at sw3 tv pl3
      have tv : Rp I3 v (.tuple [.str (Str.ofString "refused"), .str (Str.ofString "ask")]) := by
        have e : refD (some "BadAsk") = .tuple [.str (Str.ofString "refused"), .str (Str.ofString "ask")] := by kernel_rfl
        rw [← e]; exact tv
      have bw3 := b I3 H3 _ _ s3 sw3
      refine eqD_t (tv.mono bw3.sub) (.tup (bw3.sub _ _ (s3 _ _ (sb _ _ e1))) (.cons (.str _) (.cons (.str _) .nil))) (by simp [PyData.depth, PyData.depthAll]) ?_
      exact hQ I3 H3 rows _ _ (s1.trans (sb.trans s3)) bw3 pl3 iv
    | false =>
      obtain ⟨rfl, iv2, rfl⟩ := no e
      unfold doR at sw3 tv pl3
      simp only [e, Bool.false_eq_true, if_false] at sw3 tv pl3
      have tv : v = .non := tv
      subst tv
      have bw3 := b I3 H3 _ _ s3 sw3
      exact eqD_t .non .non (by simp [PyData.depth]) (hQ I3 H3 rows _ _ (s1.trans (sb.trans s3)) bw3 pl3 iv2)
  sm! [lit_e, S_eq]
  by_cases c1 : foldL s.now = []
  · refine ite_nt c1 ?_
    exact fin I1 H2 _ s sn (Sub.refl _) h2 (fun _ => ⟨rfl, rfl, rfl⟩) (fun e => by unfold againE at e; simp [c1] at e)
  refine ite_nf c1 ?_
  sm! [hx2]
  refine ⟨Nat.zero_le _, fun p3 hp3 => ?_⟩
  obtain ⟨I3, s3, h3, e3⟩ := h2.mkI hp3 (.lst [])
  have ha3 : upd H2 p3 (.lst []) pa = some (nmA s) := by
    have : pa ≠ p3 := fun q => by rw [q, hp3] at ha2; cases ha2
    rw [upd_ne this]; exact ha2
  have hin : RpAll (upd H2 p3 (.lst [])) (s.asked.map fun p => V.int p.1) (s.asked.map fun p => PyData.int p.1) := by
    generalize s.asked = l
    induction l with
    | nil => exact .nil
    | cons x l ih => exact .cons (.int _) ih
  refine eqD_nil ha3 hin (h3.sub _ _ e3) ?_
  sm! []
  cases c2 : (s.asked.map fun p => V.int p.1).isEmpty with
  | false =>
    simp! [and_true]
    have : s.asked.isEmpty = false := by rw [List.isEmpty_map] at c2; exact c2
    exact fin I3 _ _ s sn s3 h3 (fun _ => ⟨rfl, rfl, rfl⟩) (fun e => by unfold againE at e; simp [c1, this] at e)
  | true =>
    have ea : s.asked.isEmpty = true := by rw [List.isEmpty_map] at c2; exact c2
    have eg : againE s = false := by unfold againE; simp [c1, ea]
    simp! [and_true]
    unfold t__law_call_B5_0
    obtain ⟨M4, ⟨ps, pc, pa, pf, pk, pg, vs, sv, cv, kv, lv, w, hdl, rs, rc, rk, sh, rl⟩, _, b⟩ := h3.ow
    sm! []
    refine ⟨Nat.zero_le _, fun p5 hp5 => ?_⟩
    have w5 := w.newM (o := .lst []) hp5
    have hx5 := w5.has.2.1
    unfold oOwn at hx5
    sm! [hx5]
    have w6 := (((W.put1 w5 (o' := oOwn c.oa R s ps pc pa pf p5 pg vs)).sel [_, _, _, _, _, _, _, _] [1, 2, 3, 4, 5, 0, 7]).put (o' := oOwn c.oa R { s with due := true } ps pc pa pf p5 pg vs)).put (o' := oOwn c.oa R { s with due := true, tries := 0 } ps pc pa pf p5 pg vs) |>.put (o' := oOwn c.oa R { s with ks := [], due := true, tries := 0, at_ := s.time - R.pause } ps pc pa pf p5 pg vs)
    have ok6 : OwK R 0 { s with ks := [], due := true, tries := 0, at_ := s.time - R.pause } sn := ⟨{ iv.ok.ok with ks := (by simp), kl := Nat.zero_le _ }, iv.ok.se, by simp, iv.ok.ls⟩
    refine ⟨I3, M4, c.oa, R, { s with ks := [], due := true, tries := 0, at_ := s.time - R.pause }, sn, 0, rfl, ⟨ps, pc, pa, pf, p5, pg, vs, sv, cv, [], lv, w6, hdl, rs, rc, .nil, sh, rl⟩, ok6, fun I7 H7 s7 ow7 => ?_⟩
    have bw7 := b I7 H7 _ _ s7 ow7
    exact fin I7 H7 _ _ _ (s3.trans s7) bw7 (fun e => by rw [eg] at e; cases e) fun _ => ⟨rfl, iv.again (by omega) eg, rfl⟩
/-- a row comes or goes -/
theorem call6 (h : BW K I H c n R rows s rows s sn M) (hn : n < 100000) (pl : PlI R rows s i) (hi : i ≤ 140) (iv : Iv R s sn)
    (hQ : ∀ I' H' rows' s' sn', Sub I I' → BW K I' H' c (n + 8) R rows' s' rows' s' sn' M → PlI R rows' s' (i + 1) → Iv R s' sn' → Q (.bl true) H') :
    t__law_call_B8_0 K E { nx := fun _ H2 => Q .non H2, rt := Q } [some (.ref c.a), some (.ref c.t), some (.ref c.ad.x), some (.ref c.oa.o), some (.ref c.ad.st), r5, r6, r7, r8, r9] H := by
  have hlb := line_big
  have hse := pl.se
  have hrl := pl.rl
  unfold t__law_call_B8_0
  sm! []
  refine h.row (by omega) fun row H1 okr h1 => ?_
  have lr := okL_len okr
  obtain ⟨ps, pc, pa, pf, pk, pg, vs, sv, cv, kv, lv, hx, _⟩ := h1.own
  unfold oOwn at hx
  obtain ⟨hr, put⟩ := h1.rw
  -- the end of it
  have fin : ∀ (H' : Hp) (rows' : List Tx), BW K I H' c (n + 7) R rows' s rows' s sn M → PlI R rows' s i →
      t__law_call_B8_2 K E { nx := fun _ H2 => Q .non H2, rt := Q } [some (.ref c.a), some (.ref c.t), some (.ref c.ad.x), some (.ref c.oa.o), some (.ref c.ad.st), r5, r6, some (sV row), r8, r9] H' := by
    intro H' rows' bw pl'
    have pl3 : PlI R rows' s (i + 1) := ⟨pl'.ok, pl'.ro, pl'.rl, by omega⟩
    unfold t__law_call_B8_2
    simp! [and_true]
    refine ⟨two_le, fun p hp => ?_⟩
    obtain ⟨I2, s2, bw2, e2⟩ := bw.mkI hp (.lst [V.int (-1), V.int 101])
    refine bw2.pick (by omega) e2 (by simp) fun y H3 hy h3 => ?_
    have hy : ∃ k : Int, y = .int k ∧ tickOk k = false := by
      simp only [List.mem_cons, List.mem_nil_iff, or_false] at hy
      rcases hy with rfl | rfl
      · exact ⟨-1, rfl, by decide⟩
      · exact ⟨101, rfl, by decide⟩
    obtain ⟨k, rfl, hk⟩ := hy
    obtain ⟨M4, sw, b⟩ := h3.sw
    refine ⟨I2, M4, c.ad, R, rows', s, i, .tick k, "tick", _, rfl, ⟨rfl, rfl⟩, sw, pl', by omega, fun I5 H5 v s5 sw5 tv => ?_⟩
    unfold doR at sw5 tv
    simp only [hk, Bool.false_eq_true, if_false] at sw5 tv
    have bw5 := b I5 H5 _ _ s5 sw5
    have tv : Rp I5 v (.tuple [.str (Str.ofString "refused"), .str (Str.ofString "number")]) := by
      have e : refD (some "BadNumber") = .tuple [.str (Str.ofString "refused"), .str (Str.ofString "number")] := by kernel_rfl
      rw [← e]; exact tv
    refine ⟨two_le, fun p6 hp6 => ?_⟩
    obtain ⟨I6, s6, bw6, e6⟩ := bw5.mkI hp6 (.tup [V.str (Str.ofString "refused"), V.str (Str.ofString "number")])
    refine eqD_t (tv.mono (s6.trans bw6.sub)) (.tup (bw6.sub _ _ e6) (.cons (.str _) (.cons (.str _) .nil))) (by simp [PyData.depth, PyData.depthAll]) ?_
    exact hQ I6 _ rows' s sn (s2.trans (s5.trans s6)) bw6 pl3 iv
  sm! [hx, gInL, hr, txs_flat, in_tx]
  refine ⟨rfl, ?_⟩
  by_cases c1 : row ∈ rows
  · refine ite_t c1 ?_
    refine ⟨c.oa.pr, rows.map S, S row, rfl, rfl, by rw [List.map_map]; exact hr, List.mem_map.mpr ⟨row, c1, rfl⟩, ?_⟩
    rw [erase_S, List.map_map]
    have h2 := put (rows.erase row)
    have hst := h2.store
    refine ⟨_, _, hst, no_Store_remove, ?_⟩
    obtain ⟨M3, sw, b⟩ := h2.sw
    refine sw.m_rem (by omega) fun H3 sw3 => ?_
    have e : remE rows row = none := if_pos c1
    rw [e]
    exact fin H3 _ (b I H3 _ _ (Sub.refl _) sw3) ⟨pl.ok, fun r hr => pl.ro r (List.mem_of_mem_erase hr), Nat.le_trans (List.length_erase_le) pl.rl, hse⟩
  · refine ite_f c1 ?_
    sm! [List.length_map]
    by_cases c2 : rows.length < 12
    · refine ite_t (by omega) ?_
      refine ⟨row, rfl, by omega, okL_all okr, fun H2 sm2 => ?_⟩
      have h2 := h1.same sm2
      obtain ⟨ps, pc, pa, pf, pk, pg, vs, sv, cv, kv, lv, hx2, _⟩ := h2.own
      unfold oOwn at hx2
      obtain ⟨hr2, put2⟩ := h2.rw
      sm! [lit_e, S_eq]
      by_cases c3 : foldL row = []
      · exact ite_nt c3 (fin H2 rows h2 pl)
      · refine ite_nf c3 ?_
        sm! [hx2, hr2]
        refine ⟨by rw [List.length_map]; omega, ?_⟩
        have h3 := put2 (rows ++ [row])
        rw [List.map_append] at h3
        have hst := h3.store
        refine ⟨_, _, hst, no_Store_add, ?_⟩
        obtain ⟨M4, sw, b⟩ := h3.sw
        refine sw.m_add (by omega) (by omega) fun H4 sw4 => ?_
        have okr20 := okL_le okr (show 15 ≤ 20 by decide)
        have e : addE rows row = none := by
          unfold addE
          rw [if_neg (fun q => q.elim (fun q => by rw [okr20] at q; cases q) fun q => q.elim c3 c1), if_neg (by omega)]
        have e2 : addR rows row = rows ++ [row] := if_pos e
        rw [e2] at sw4
        rw [e]
        refine fin H4 _ (b I H4 _ _ (Sub.refl _) sw4) ⟨pl.ok, fun r hr => ?_, by rw [List.length_append]; simp only [List.length_singleton]; omega, hse⟩
        rcases List.mem_append.mp hr with q | q
        · exact pl.ro r q
        · rw [List.mem_singleton.mp q]; exact okr20
    · exact ite_f (by omega) (fin H1 rows h1 pl)
/-- ticks -/
structure PTk (K : PySem.W.Frag) (I : Hp) (c : Bd) (n : Nat) (R : Rul) (rows : List Tx) (s : AS) (M : List (Addr × HO)) (r5 r6 r7 : Option V) (k : Int) (i : Nat) (σ : L2.St) (H : Hp) : Prop where
  ex : ∃ (I' : Hp) (sn : List (Int × Tx)) (v : Option V), σ = [some (.ref c.a), some (.ref c.t), some (.ref c.ad.x), some (.ref c.oa.o), some (.ref c.ad.st), r5, r6, r7, some (.int k), v] ∧ Sub I I' ∧ BW K I' H c n R rows s rows (tickS R rows i s) sn M ∧ Iv R (tickS R rows i s) sn
theorem call7 (h : BW K I H c n R rows s rows s sn M) (hn : n < 100000) (pl : PlI R rows s i) (hi : i ≤ 140) (iv : Iv R s sn)
    (hQ : ∀ I' H' rows' s' sn', Sub I I' → BW K I' H' c (n + 2) R rows' s' rows' s' sn' M → PlI R rows' s' (i + 1) → Iv R s' sn' → Q (.bl true) H') :
    t__law_call_B1_4 K E { nx := fun _ H2 => Q .non H2, rt := Q } [some (.ref c.a), some (.ref c.t), some (.ref c.ad.x), some (.ref c.oa.o), some (.ref c.ad.st), r5, r6, r7, r8, r9] H := by
  have hlb := line_big
  have hse := pl.se
  have ro := pl.rok
  unfold t__law_call_B1_4
  simp! [and_true]
  refine h.draw (by omega) (by decide) fun d H1 d0 d1 h1 => ?_
  refine ⟨by omega, fun p hp => ?_⟩
  obtain ⟨I2, s2, h2, e2⟩ := h1.mkI hp (.lst [V.int 0, V.int 1, V.int 2, V.int 9, V.int 40, V.int d])
  refine h2.pick (by omega) e2 (by simp) fun y H3 hy h3 => ?_
  have hy : ∃ k : Int, y = .int k ∧ 0 ≤ k ∧ k ≤ 100 := by
    simp only [List.mem_cons, List.mem_nil_iff, or_false] at hy
    rcases hy with rfl | rfl | rfl | rfl | rfl | rfl
    · exact ⟨_, rfl, by decide, by decide⟩
    · exact ⟨_, rfl, by decide, by decide⟩
    · exact ⟨_, rfl, by decide, by decide⟩
    · exact ⟨_, rfl, by decide, by decide⟩
    · exact ⟨_, rfl, by decide, by decide⟩
    · exact ⟨_, rfl, by omega, by omega⟩
  obtain ⟨k, rfl, k0, k1⟩ := hy
  unfold t__law_call_B1_5
  simp! [and_true]
  refine ⟨by omega, by omega, PTk K I2 c (n + 2) R rows s M r5 r6 r7 k, ⟨I2, sn, _, rfl, Sub.refl _, h3, iv⟩, ?_, ?_⟩
  · rintro j σ H' hj ⟨I', sn', v, rfl, sb, bw, iv'⟩
    have hts := tick_sent R rows j s
    simp! [and_true]
    obtain ⟨M4, ow, hl, b⟩ := bw.ow
    refine ⟨I', M4, c.oa, R, rows, _, sn', rfl, ow, iv'.ok, iv'.cs, hl, ro, by have := pl.rl; omega, fun I5 H5 s5 ow5 => ?_⟩
    have bw5 := b I5 H5 _ _ s5 ow5
    refine ⟨I5, stepN R rows (tickS R rows j s) sn', _, rfl, sb.trans s5, ?_, ?_⟩
    · rw [tickS_succ]; exact bw5
    · rw [tickS_succ]; exact iv'.step (by omega) ro
  · rintro σ H' ⟨I', sn', v, rfl, sb, bw, iv'⟩
    unfold t__law_call_B1_6
    simp! [and_true]
    obtain ⟨M4, sw, b⟩ := bw.sw
    have tk := tickOk_of k0 k1
    refine ⟨I', M4, c.ad, R, rows, s, i, .tick k, "tick", _, rfl, ⟨rfl, rfl⟩, sw, pl, by omega, fun I5 H5 v s5 sw5 tv => ?_⟩
    have pl5 := pl.do (.tick k)
    unfold doR at sw5 tv pl5
    simp only [tk, if_true] at sw5 tv pl5
    have tv : v = .non := tv
    subst tv
    exact hQ I5 H5 rows _ _ (s2.trans (sb.trans s5)) (b I5 H5 _ _ s5 sw5) pl5 iv'
theorem pure__law_call : ∀ vs H Q E, sp__law_call K vs H Q E → t__law_call K E { nx := fun _ H2 => Q .non H2, rt := Q } (L2.start nn__law_call vs) H := by
  rintro vs H Q E ⟨I, M, c, n, i, R, rows, s, sn, rfl, h, hn, pl, hi, iv, hQ⟩
  unfold t__law_call
  simp! [and_true]
  refine h.draw (by omega) (by decide) fun way H1 w0 w1 h1 => ?_
  simp! [and_true]
  by_cases c1 : way < 5
  · refine ite_t c1 ?_
    exact ⟨I, M, c, n + 1, i, R, rows, s, sn, rfl, h1, by omega, pl, by omega, iv, fun I' H' s' sn' sb bw pl' iv' => hQ I' H' rows s' sn' sb (bw.le (by omega)) pl' iv'⟩
  refine ite_f c1 ?_
  unfold t__law_call_B1_2
  simp! [and_true]
  by_cases c2 : way = 5
  · refine ite_t c2 ?_
    exact call5 h1 pl hi iv fun I' H' rows' s' sn' sb bw pl' iv' => hQ I' H' rows' s' sn' sb (bw.le (by omega)) pl' iv'
  refine ite_f c2 ?_
  unfold t__law_call_B1_3
  simp! [and_true]
  by_cases c3 : way = 6
  · refine ite_t c3 ?_
    exact call6 h1 (by omega) pl hi iv fun I' H' rows' s' sn' sb bw pl' iv' => hQ I' H' rows' s' sn' sb (bw.le (by omega)) pl' iv'
  refine ite_f c3 ?_
  exact call7 h1 (by omega) pl hi iv fun I' H' rows' s' sn' sb bw pl' iv' => hQ I' H' rows' s' sn' sb (bw.le (by omega)) pl' iv'
end
end
end TA

set_option linter.all false
set_option maxRecDepth 100000
set_option maxHeartbeats 4000000
/-! law_k30_whole_askers. -/
namespace TA
open PySem L2 PyProof.Rows
open SX (S S_len S_inj S_cat S_tl)
local macro_rules | `(tactic| simp! [$as,*]) => `(tactic| first | simp only [L2.start, tSeq, tAsg, tOp, fFld, tVar, gIxL, gIxT, tCB, tCons, tNil, gLenL, gLenT, gLenS, rI, rI0, fSet, tIfS, tTest, tB, rNotN, rIsN, rEq, rNe, tC, tDrop, fBM, fBM0, gTy, rAppend, tTup, tLst, tRet, tRetN, tNext, gName, fTup, gCons, gNil, tCall, fCallS, fMeth, tMeth, fMethS, fMake, tMake, fMakeS, tUn, rU, tAnd, tOr, tNot, tAndV, tOrV, tNotV, tIf, tChain, gListL, gListT, tSl, tNoPart, tPart, gSlL, fRaise, gStrI, gCatS, gMin2, gMax2, gIntB, tYes, fLcL, fLcT, fLcS, fLcR1, fForL, fForR1, fForR2, fRev, fGetI, gGetI, gInI, gLenI, fPutI, fNewI,
  List.map_cons, List.map_nil, List.length_cons, List.length_nil, List.replicate, List.cons_append, List.nil_append, List.append_nil, List.getElem?_cons_zero, List.getElem?_cons_succ, List.set_cons_zero, List.set_cons_succ, reduceIte, Bool.not_true, Bool.not_false, Nat.reduceAdd, Nat.reduceSub, Bool.false_eq_true, eq_self,
  Option.some.injEq, V.int.injEq, V.ref.injEq, V.str.injEq, V.bl.injEq, HO.ins.injEq, HO.lst.injEq, HO.tup.injEq, HO.dK.injEq, List.cons.injEq, and_assoc, exists_eq_left', exists_and_left, and_true, true_and, true_or, or_true, false_or, or_false, exists_eq_left, exists_eq_right, exists_eq_right', exists_eq, exists_eq', exists_const, upd_same, sc_ii, sc_ss, sc_bb, sc_in, sc_ni, sc_ns, sc_sn, sc_nn, $as,*] | skip)
def sp_law (K : PySem.W.Frag) : Sp := fun vs H Q _ => ∃ (a : Addr), vs = [.ref a] ∧ Scr K H a ∧ ∀ H', Q (.bl true) H'
def t_law_L1_4 (K : PySem.W.Frag) (E : XK) : TS := tDrop (fBM "list" rAppend (tOp gIxT (fMeth (He.ga K "Asker") "view" (sp_Asker_view K) E (tVar 8) (tNil)) (tC (.int 2))) (tCons (tC (.str "late")) (tNil)))
def t_law_L1_3 (K : PySem.W.Frag) (E : XK) : TS := tSeq (tDrop (fBM "list" rAppend (fMeth (He.ga K "Asker") "log" (sp_Asker_log K) E (tVar 8) (tNil)) (tCons (tC (.str "late")) (tNil)))) (t_law_L1_4 K E)
def t_law_L1_2 (K : PySem.W.Frag) (E : XK) : TS := tSeq (tIfS (tOr (tTest (tOp (gNeD) (fMeth (He.ga K "Asker") "log" (sp_Asker_log K) E (tVar 8) (tNil)) (fGetS (tVar 9) "log"))) (tOr (tTest (tOp (rNe) (fMeth (He.ga K "Asker") "typed" (sp_Asker_typed K) E (tVar 8) (tNil)) (fGetS (tVar 9) "typed"))) (tTest (tOp (rNe) (fMeth (He.ga K "Asker") "clock" (sp_Asker_clock K) E (tVar 8) (tNil)) (fGetS (tVar 9) "time"))))) (tRet (tC (.bl false))) (tNext)) (t_law_L1_3 K E)
def t_law_L1_1 (K : PySem.W.Frag) (E : XK) : TS := tSeq (tIfS (tOr (tTest (tOp (gNeD) (fMeth (He.ga K "Asker") "view" (sp_Asker_view K) E (tVar 8) (tNil)) (tCall (sp__law_view K) [] E (tCons (tVar 9) (tNil))))) (tTest (tOp (rNe) (fMeth (He.ga K "Asker") "is_waiting" (sp_Asker_is_waiting K) E (tVar 8) (tNil)) (tOrV (fGetS (tVar 9) "due") (tOp (gNeD) (fGetS (tVar 9) "asked") (tLst (tNil))))))) (tRet (tC (.bl false))) (tNext)) (t_law_L1_2 K E)
def t_law_L1_0 (K : PySem.W.Frag) (E : XK) : TS := tSeq (tIfS (tNot (tB (tCall (sp__law_call K) [] E (tCons (tVar 0) (tCons (tVar 1) (tCons (tVar 8) (tCons (tVar 9) (tCons (tVar 7) (tNil))))))))) (tRet (tC (.bl false))) (tNext)) (t_law_L1_1 K E)
def t_law_B1_10 (K : PySem.W.Frag) (E : XK) : TS := tRet (tOp (gEqD) (fMeth (He.ga K "Asker") "view" (sp_Asker_view K) E (tVar 8) (tNil)) (tCall (sp__law_view K) [] E (tCons (tVar 9) (tNil))))
def t_law (K : PySem.W.Frag) (E : XK) : TS := tSeq (tAsg (tLst (tNil)) (gName 1)) (tSeq (tAsg (tCall (sp__law_rows K) [] E (tCons (tVar 0) (tCons (tVar 1) (tCons (tC (.int 12)) (tNil))))) (gName 2)) (tSeq (tAsg (tCall (sp__law_delays K) [] E (tCons (tVar 0) (tCons (tVar 1) (tCons (tC (.bl false)) (tNil))))) (gName 3)) (tSeq (tAsg (tCall (sp__law_draw K) [] E (tCons (tVar 0) (tCons (tVar 1) (tCons (tC (.int 7)) (tNil))))) (gName 4)) (tSeq (tAsg (tOp (rI0 fun i j => .int (i + j)) (tC (.int 1)) (tCall (sp__law_draw K) [] E (tCons (tVar 0) (tCons (tVar 1) (tCons (tC (.int 60)) (tNil)))))) (gName 5)) (tSeq (tAsg (tCall (sp__law_rules K) [] E (tCons (tVar 0) (tCons (tVar 1) (tNil)))) (gName 6)) (tSeq (tAsg (tCall (sp__law_store K) [] E (tCons (tVar 2) (tNil))) (gName 7)) (tSeq (tAsg (fMake (He.ga K "Asker") (sp_Asker___init__ K) E (tCons (tVar 7) (tCons (fMake (He.ga K "Road") (sp_Road___init__ K) E (tCons (tVar 3) (tNil))) (tCons (fMake (He.ga K "Shelf") (sp_Shelf___init__ K) E (tCons (tVar 4) (tCons (tVar 5) (tNil)))) (tCons (tOp gIxT (tVar 6) (tC (.int 0))) (tCons (tOp gIxT (tVar 6) (tC (.int 1))) (tCons (tOp gIxT (tVar 6) (tC (.int 2))) (tCons (tOp gIxT (tVar 6) (tC (.int 3))) (tNil))))))))) (gName 8)) (tSeq (tAsg (tCall (sp__law_asker K) [] E (tCons (tVar 2) (tCons (tVar 3) (tCons (tVar 4) (tCons (tVar 5) (tCons (tVar 6) (tNil))))))) (gName 9)) (tSeq (fForR1 (tCons (tCall (sp__law_draw K) [] E (tCons (tVar 0) (tCons (tVar 1) (tCons (tC (.int 31)) (tNil))))) (tNil)) (gName 10) (t_law_L1_0 K E)) (t_law_B1_10 K E))))))))))
abbrev nn_law : List Str := ["script", "town", "rows", "delays", "most", "term", "rules", "store", "asker", "own", "k"]
section
variable {K : PySem.W.Frag}
theorem len_law : ∀ vs H Q E, sp_law K vs H Q E → vs.length = ["script"].length := by
  rintro _ _ _ _ ⟨_, rfl, _⟩; rfl
section
variable {I I' H H' : Hp} {c : Bd} {p : Addr} {o : HO} {n m i : Nat} {R : Rul} {rows rows2 : List Tx} {s s2 : AS} {sn : List (Int × Tx)} {M : List (Addr × HO)} {Q : VK} {E : XK} {r0 r1 r2 r3 r4 r5 r6 r10 : Option V} {D : Ends}
theorem BW.m_view (h : BW K I H c n R rows s rows2 s2 sn M) (ok : OkS R 0 s) (q : ∀ (I' H' : Hp) (v : V), Sub I I' → BW K I' H' c n R rows s rows2 s2 sn M → Rp I' v (viewD s) → Q v H') : sp_Asker_view K [.ref c.ad.x] H Q E := by
  obtain ⟨M', sw, b⟩ := h.sw
  exact sw.m_view ok fun I' H' v l sb sw' hv hl => q I' H' _ sb (b I' H' _ _ sb sw') (.tup hv (.cons (.str _) (.cons (.str _) (.cons (rp_tx hl) .nil))))
theorem BW.m_viewM (h : BW K I H c n R rows s rows2 s2 sn M) (ok : OkS R 0 s) (q : ∀ (I' H' : Hp) (v l : Addr), Sub I I' → BW K I' H' c n R rows s rows2 s2 sn ((l, .lst ((viewR s).map sV)) :: M) → I' v = some (.tup [sV (viewW s), sV (viewK s), .ref l]) → Q (.ref v) H') : sp_Asker_view K [.ref c.ad.x] H Q E := by
  obtain ⟨M', sw, b⟩ := h.swM
  refine ⟨I, _, c.ad, R, rows, s, rfl, sw.aw, ok, fun I' H' t l sb aw hv => ?_⟩
  obtain ⟨L, ao, w, l1, l2⟩ := aw
  exact q I' H' t l sb (b I' H' _ _ _ _ sb (.of ao (w.perm pm3))) hv
theorem BW.m_logM (h : BW K I H c n R rows s rows2 s2 sn M) (q : ∀ (H' : Hp) (p : Addr) (lv : List V), BW K I H' c n R rows s rows2 s2 sn ((p, .lst lv) :: M) → RpAll I lv (s.log.map lgD) → Q (.ref p) H') : sp_Asker_log K [.ref c.ad.x] H Q E := by
  obtain ⟨M', sw, b⟩ := h.swM
  refine ⟨I, _, c.ad, R, rows, s, rfl, sw.aw, fun H' p lv aw r => ?_⟩
  obtain ⟨L, ao, w, l1, l2⟩ := aw
  exact q H' p lv (b I H' _ _ _ _ (Sub.refl _) (.of ao (w.perm pm3))) r
theorem BW.m_wait (h : BW K I H c n R rows s rows2 s2 sn M) (q : Q (.bl (s.due || !s.asked.isEmpty)) H) : sp_Asker_is_waiting K [.ref c.ad.x] H Q E := by
  obtain ⟨M', sw, b⟩ := h.sw
  exact ⟨I, _, c.ad, R, rows, s, rfl, sw.aw, q⟩
theorem BW.m_typed (h : BW K I H c n R rows s rows2 s2 sn M) (q : Q (sV s.now) H) : sp_Asker_typed K [.ref c.ad.x] H Q E := by
  obtain ⟨M', sw, b⟩ := h.sw
  exact ⟨I, _, c.ad, R, rows, s, rfl, sw.aw, q⟩
theorem BW.m_clock (h : BW K I H c n R rows s rows2 s2 sn M) (q : Q (.int s.time) H) : sp_Asker_clock K [.ref c.ad.x] H Q E := by
  obtain ⟨M', sw, b⟩ := h.sw
  exact ⟨I, _, c.ad, R, rows, s, rfl, sw.aw, q⟩
theorem BW.m_oview (h : BW K I H c n R rows s rows2 s2 sn M) (okn : okL 12 s2.now = true) (q : ∀ (I' H' : Hp) (v : V), Sub I I' → BW K I' H' c n R rows s rows2 s2 sn M → Rp I' v (viewD s2) → Q v H') : sp__law_view K [.ref c.oa.o] H Q E := by
  obtain ⟨M', ow, _, b⟩ := h.ow
  exact ⟨I, M', c.oa, R, s2, sn, rfl, ow, okn, fun I' H' v sb ow' r => q I' H' v sb (b I' H' _ _ sb ow') r⟩
theorem view_d (s : AS) : (viewD s).depth ≤ 50 := by
  unfold viewD
  have := d_list (viewR s)
  have e : (PyData.list ((viewR s).map sD)).depth ≤ 2 := by
    generalize viewR s = l
    unfold PyData.depth
    have : PyData.depthAll (l.map sD) ≤ 1 := by
      induction l with
      | nil => simp [PyData.depthAll]
      | cons x l ih => simp only [List.map_cons, PyData.depthAll]; have : (sD x).depth ≤ 1 := by simp [sD, PyData.depth]
                       omega
    omega
  simp only [PyData.depth, PyData.depthAll] at *
  have h1 : (sD (viewW s)).depth ≤ 1 := by simp [sD, PyData.depth]
  have h2 : (sD (viewK s)).depth ≤ 1 := by simp [sD, PyData.depth]
  omega
/-- the two changed lists -/
theorem turn3 (h : BW K I H c n R rows s rows s sn []) (pl : PlI R rows s i) (hi : i ≤ 100) (iv : Iv R s sn) (nx : ∀ I' H', Sub I I' → BW K I' H' c n R rows s rows s sn [] → D.nx [r0, r1, r2, r3, r4, r5, r6, some (.ref c.ad.st), some (.ref c.ad.x), some (.ref c.oa.o), r10] H') :
    t_law_L1_3 K E D [r0, r1, r2, r3, r4, r5, r6, some (.ref c.ad.st), some (.ref c.ad.x), some (.ref c.oa.o), r10] H := by
  have hlb := line_big
  have hse := pl.se
  have ok := pl.ok
  obtain ⟨vs, hx, _⟩ := h.obj
  unfold oAsker at hx
  unfold t_law_L1_3
  simp! [hx, no_Asker_log]
  refine h.m_logM fun H1 p1 lv h1 rl => ?_
  have hp1 := h1.has
  have lvl := rl.len
  rw [List.length_map] at lvl
  have lg := ok.lg
  simp! [hp1]
  refine ⟨by omega, ?_⟩
  have h2 := (h1.put (o' := .lst (lv ++ [V.str (Str.ofString "late")]))).drop
  obtain ⟨vs, hx2, _⟩ := h2.obj
  unfold oAsker at hx2
  unfold t_law_L1_4
  simp! [hx2, no_Asker_view]
  refine h2.m_viewM ok fun I3 H3 v l s3 h3 hv => ?_
  have hv' := h3.sub _ _ hv
  have hl := h3.has
  simp! [hv', at3_2, hl]
  have rv : (viewR s).length ≤ 1000 := by
    unfold viewR
    cases hs : s.shown with
    | none => simp
    | some v => obtain ⟨k, rs, old⟩ := v; exact (ok.sh k rs old hs).2
  refine ⟨by rw [List.length_map]; omega, ?_⟩
  exact nx I3 _ s3 (h3.put (o' := .lst ((viewR s).map sV ++ [V.str (Str.ofString "late")]))).drop
theorem turn2P (h : BW K I H c n R rows s rows s sn []) (pl : PlI R rows s i) (hi : i ≤ 100) (iv : Iv R s sn) (nx : ∀ I' H', Sub I I' → BW K I' H' c n R rows s rows s sn [] → D.nx [r0, r1, r2, r3, r4, r5, r6, some (.ref c.ad.st), some (.ref c.ad.x), some (.ref c.oa.o), r10] H') :
    t_law_L1_2 K E D [r0, r1, r2, r3, r4, r5, r6, some (.ref c.ad.st), some (.ref c.ad.x), some (.ref c.oa.o), r10] H := by
  have hlb := line_big
  obtain ⟨vs, hx, _⟩ := h.obj
  unfold oAsker at hx
  unfold t_law_L1_2
  simp! [hx, no_Asker_log]
  refine h.m_logM fun H1 p1 lv h1 rl => ?_
  obtain ⟨I2, s2, h2, e2⟩ := h1.frz
  obtain ⟨ps, pc, pa, pf, pk, pg, vs, sv, cv, kv, lv2, hx2, _, hg, rl2⟩ := h2.own
  unfold oOwn at hx2
  obtain ⟨vs, hy2, _⟩ := h2.obj
  unfold oAsker at hy2
  sm! [hx2]
  refine neD_f (d := .list (s.log.map lgD)) (.lst (h2.sub _ _ e2) (rl.mono (s2.trans h2.sub))) (.lst hg (rl2.mono h2.sub)) ?_ ?_
  · exact d_lgs _
  sm! [hy2, no_Asker_typed]
  refine h2.m_typed ?_
  sm! [hx2, decide_true]
  sm! [hy2, no_Asker_clock]
  refine h2.m_clock ?_
  sm! [hx2, decide_true]
  exact turn3 h2 pl hi iv fun I' H' sb bw => nx I' H' (s2.trans sb) bw
theorem turn1P (h : BW K I H c n R rows s rows s sn []) (pl : PlI R rows s i) (hi : i ≤ 100) (iv : Iv R s sn) (nx : ∀ I' H', Sub I I' → BW K I' H' c n R rows s rows s sn [] → D.nx [r0, r1, r2, r3, r4, r5, r6, some (.ref c.ad.st), some (.ref c.ad.x), some (.ref c.oa.o), r10] H') :
    t_law_L1_1 K E D [r0, r1, r2, r3, r4, r5, r6, some (.ref c.ad.st), some (.ref c.ad.x), some (.ref c.oa.o), r10] H := by
  have hlb := line_big
  obtain ⟨vs, hx, _⟩ := h.obj
  unfold oAsker at hx
  unfold t_law_L1_1
  simp! [hx, no_Asker_view]
  refine h.m_view pl.ok fun I1 H1 v1 s1 h1 rv1 => ?_
  refine h1.m_oview pl.ok.now fun I2 H2 v2 s2 h2 rv2 => ?_
  refine neD_f (rv1.mono (s2.trans h2.sub)) (rv2.mono h2.sub) (view_d s) ?_
  obtain ⟨ps, pc, pa, pf, pk, pg, vs, sv, cv, kv, lv2, hx2, ha2, _⟩ := h2.own
  unfold oOwn at hx2
  obtain ⟨vs, hy2, _⟩ := h2.obj
  unfold oAsker at hy2
  sm! [hy2, no_Asker_is_waiting]
  refine h2.m_wait ?_
  have fin : ∀ I3 H3, Sub I2 I3 → BW K I3 H3 c n R rows s rows s sn [] → t_law_L1_2 K E D [r0, r1, r2, r3, r4, r5, r6, some (.ref c.ad.st), some (.ref c.ad.x), some (.ref c.oa.o), r10] H3 := fun I3 H3 s3 h3 => turn2P h3 pl hi iv fun I' H' sb bw => nx I' H' (s1.trans (s2.trans (s3.trans sb))) bw
  sm! [hx2]
  cases hd : s.due with
  | true =>
    simp! [Bool.true_or, decide_true]
    exact fin I2 H2 (Sub.refl _) h2
  | false =>
    simp! [Bool.false_or]
    refine ⟨Nat.zero_le _, fun p3 hp3 => ?_⟩
    obtain ⟨I3, s3, h3, e3⟩ := h2.mkI hp3 (.lst [])
    have ha3 : upd H2 p3 (.lst []) pa = some (nmA s) := by
      have : pa ≠ p3 := fun q => by rw [q, hp3] at ha2; cases ha2
      rw [upd_ne this]; exact ha2
    have hin : RpAll (upd H2 p3 (.lst [])) (s.asked.map fun p => V.int p.1) (s.asked.map fun p => PyData.int p.1) := by
      generalize s.asked = l
      induction l with
      | nil => exact .nil
      | cons x l ih => exact .cons (.int _) ih
    refine neD_nil ha3 hin (h3.sub _ _ e3) ?_
    rw [List.isEmpty_map]
    simp! [decide_true]
    exact fin I3 _ s3 h3
end
structure P30 (K : PySem.W.Frag) (c : Bd) (R : Rul) (i : Nat) (σ : L2.St) (H : Hp) : Prop where
  ex : ∃ (I : Hp) (rows : List Tx) (s : AS) (sn : List (Int × Tx)) (r2 r3 r4 r5 r6 r10 : Option V), σ = [some (.ref c.a), some (.ref c.t), r2, r3, r4, r5, r6, some (.ref c.ad.st), some (.ref c.ad.x), some (.ref c.oa.o), r10] ∧ BW K I H c (300 + 20 * i) R rows s rows s sn [] ∧ PlI R rows s i ∧ Iv R s sn
theorem turn30 {c : Bd} {R : Rul} {i : Nat} {σ : L2.St} {H : Hp} {E : XK} {D : Ends} {v : Option V} (hi : i < 31) (h : P30 K c R i σ H) (nx : ∀ σ H, P30 K c R (i + 1) σ H → D.nx σ H) : t_law_L1_0 K E D (σ.set 10 v) H := by
  obtain ⟨I, rows, s, sn, r2, r3, r4, r5, r6, r10, rfl, bw, pl, iv⟩ := h
  unfold t_law_L1_0
  simp! [and_true]
  refine ⟨I, [], c, _, i, R, rows, s, sn, rfl, bw, by omega, pl, by omega, iv, fun I' H' rows' s' sn' sb bw' pl' iv' => ?_⟩
  simp! [and_true]
  exact turn1P bw' pl' (by omega) iv' fun I2 H2 s2 bw2 => nx _ _ ⟨I2, rows', s', sn', _, _, _, _, _, _, rfl, bw2.le (by omega), pl', iv'⟩
section
variable {α : Type} {a b d t : α} {L X : List α}
theorem pb9 : (t :: a :: b :: d :: (L ++ (X ++ []))).Perm (X ++ (t :: (L ++ [a, b, d]))) := by prm!
end
theorem pure_law : ∀ vs H Q E, sp_law K vs H Q E → t_law K E { nx := fun _ H2 => Q .non H2, rt := Q } (L2.start nn_law vs) H := by
  rintro vs H Q E ⟨a, rfl, hS, hQ⟩
  have hb := line_big
  unfold t_law
  simp! [and_true]
  refine ⟨Nat.zero_le _, fun t ht => ?_⟩
  have d0 : Dr K H _ a t 0 [] := ⟨hS, [], by simp, (W.start H).newM (o := .lst []) ht⟩
  refine ⟨H, a, t, 0, 12, [], rfl, d0, by decide, by decide, fun rows H1 p ro rnd rl d1 => ?_⟩
  have rok : rowsOk rows := ⟨fun r hr => okL_le (ro r hr).1 (by decide), by omega⟩
  simp! [and_true]
  refine ⟨H, a, t, _, _, _, rfl, d1, by decide, fun I4 H4 dl ds s4 dl1 dl2 dl3 _ d4 hdl => ?_⟩
  refine ⟨I4, a, t, _, _, 7, rfl, d4, by decide, by decide, fun mo H6 mo0 mo1 d6 => ?_⟩
  refine ⟨I4, a, t, _, _, 60, rfl, d6, by decide, by decide, fun te H7 te0 te1 d7 => ?_⟩
  simp! [and_true]
  refine ⟨I4, a, t, _, _, rfl, d7, by decide, fun I5 H5 ru m pa ak pt s5 m1 m2 pa1 pa2 ak1 ak2 pt1 pt2 d5 hru => ?_⟩
  obtain ⟨sc5, tz5, ltz5, w5⟩ := d5
  refine ⟨I5, _, p, rows, rfl, w5, Ls.head.cons, ro, rnd, rl, fun H2 x dx r w2 => ?_⟩
  simp! [and_true]
  have rok8 : roadOk ds = true := by
    unfold roadOk
    simp only [Bool.and_eq_true, decide_eq_true_eq, List.all_eq_true]
    exact ⟨⟨dl1, dl2⟩, dl3⟩
  refine mk_road w2 (s5 _ _ hdl) rok8 (by omega) fun I9 H9 rd drd d u s9 w9 hd9 => ?_
  refine mk_shelf (most := mo) (term := 1 + te) w9 (by unfold shelfOk; simp; omega) fun I8 H8 sh dsh o8 s8 w8 so8 => ?_
  have hru8 := w8.sub _ _ ((s9.trans s8) _ _ hru)
  simp! [hru8, at4_0, at4_1, at4_2, at4_3]
  have so9 := so8
  have dr9 : Dr K I8 H8 a t 200 ((rd, oRoad K drd d 0 u) :: (u, .lst []) :: (sh, o8) :: [(x, oStore K dx r), (r, .lst (rows.map sV)), (p, .lst (rows.map sV))]) := ⟨sc5.mono (s9.trans s8), tz5, by omega, w8.sel [_, _, _, _, _, _] [5, 1, 2, 0, 3, 4]⟩
  have rul : rulesOk ⟨m, pa, ak, pt, ds, mo, 1 + te⟩ = true := by
    unfold rulesOk manyOk
    simp only [Bool.and_eq_true, decide_eq_true_eq]
    omega
  refine mk_asker (R := ⟨m, pa, ak, pt, ds, mo, 1 + te⟩) (rows := rows) dr9 (s8 _ _ hd9) so9 Ls.head Ls.head.cons rul fun I10 H10 ad s10 e1 e2 e3 lw10 => ?_
  have g0 : Good rows ⟨m, pa, ak, pt, ds, mo, 1 + te⟩ S0 := good0 rul (fun z => by have z : ds = [] := z; rw [z] at dl1; simp at dl1) ⟨mo0, by show mo ≤ 6; omega⟩
  have sA := (s9.trans s8).trans s10
  obtain ⟨L, ao, ⟨sc, zs, lz, w⟩, _, _⟩ := lw10
  refine ⟨I10, _, p, dl, ru, ⟨m, pa, ak, pt, ds, mo, 1 + te⟩, rfl, w, sA _ _ (s5 _ _ hdl), sA _ _ hru, fun I11 H11 po s11 ow => ?_⟩
  obtain ⟨X, oo, w11⟩ := ow.o
  have bw : BW K I11 H11 ⟨a, t, ad, ⟨po, p, dl⟩⟩ 200 ⟨m, pa, ak, pt, ds, mo, 1 + te⟩ rows S0 rows S0 [] [] := by
    refine ⟨L, X, ao.mono s11, oo, ⟨sc.mono s11, zs, lz, ?_⟩⟩
    rw [e1, e2, e3]
    exact w11.perm pb9
  have iv0 : Iv ⟨m, pa, ak, pt, ds, mo, 1 + te⟩ S0 [] := ⟨⟨g0.ok, by simp [S0], by simp [S0], rfl⟩, ⟨by simp [S0], by simp [S0], by simp [S0], by simp [S0], by simp [S0], by simp [S0]⟩, ⟨by simp [S0], by simp [S0], by simp [S0], by simp [S0]⟩⟩
  refine bw.draw (by decide) (by decide) fun j H12 j0 j1 bw12 => ?_
  refine ⟨_, rfl, by omega, by omega, P30 K ⟨a, t, ad, ⟨po, p, dl⟩⟩ ⟨m, pa, ak, pt, ds, mo, 1 + te⟩, ⟨I11, rows, S0, [], _, _, _, _, _, _, by rw [e1], bw12.le (by omega), ⟨g0.ok, rok.1, rl, by simp [S0]⟩, iv0⟩, ?_, ?_⟩
  · rintro i σ H hi h
    simp! [and_true]
    exact turn30 (by omega) h fun _ _ h => h
  · rintro σ H ⟨I, rows, s, sn, r2, r3, r4, r5, r6, r10, rfl, bw, pl, iv⟩
    obtain ⟨vs, hx, _⟩ := bw.obj
    unfold oAsker at hx
    unfold t_law_B1_10
    simp! [hx, no_Asker_view]
    refine bw.m_view pl.ok fun I1 H1 v1 s1 h1 rv1 => ?_
    refine h1.m_oview pl.ok.now fun I2 H2 v2 s2 h2 rv2 => ?_
    exact eqD_t (rv1.mono (s2.trans h2.sub)) (rv2.mono h2.sub) (view_d s) (hQ _)
end
end TA

set_option maxHeartbeats 0
namespace TA
open PySem PySem.Spec PyProof.Rows L2
abbrev isQ : PySem.W.Frag → Bool := isB
def top (i : Nat) : Stmt := PySem.Challenge.pw_typeasks_k30_whole_askers.main.body.getD i (.Pass ⟨0, 0, 0, 0⟩)
abbrev s__wall : Stmt := top 0
abbrev s_look_text : Stmt := top 9
abbrev s_folded : Stmt := top 10
abbrev s_rank : Stmt := top 11
abbrev s_look_many : Stmt := top 15
abbrev s_best : Stmt := top 16
abbrev s_Store___init__ : Stmt := inClass (top 17) 0
abbrev s_Store_add : Stmt := inClass (top 17) 1
abbrev s_Store_remove : Stmt := inClass (top 17) 2
abbrev s_Store_all_rows : Stmt := inClass (top 17) 3
abbrev s_Store_answer : Stmt := inClass (top 17) 4
abbrev s_Asker___init__ : Stmt := inClass (top 24) 0
abbrev s_Asker_clock : Stmt := inClass (top 24) 1
abbrev s_Asker_typed : Stmt := inClass (top 24) 2
abbrev s_Asker_put : Stmt := inClass (top 24) 3
abbrev s_Asker_key : Stmt := inClass (top 24) 4
abbrev s_Asker_rub : Stmt := inClass (top 24) 5
abbrev s_Asker_drop_other : Stmt := inClass (top 24) 6
abbrev s_Asker_look_near : Stmt := inClass (top 24) 7
abbrev s_Asker_is_fresh : Stmt := inClass (top 24) 8
abbrev s_Asker_show : Stmt := inClass (top 24) 9
abbrev s_Asker_ask_if_due : Stmt := inClass (top 24) 10
abbrev s_Asker_step : Stmt := inClass (top 24) 11
abbrev s_Asker_try_again : Stmt := inClass (top 24) 12
abbrev s_Asker_tick : Stmt := inClass (top 24) 13
abbrev s_Asker_again : Stmt := inClass (top 24) 14
abbrev s_Asker_view : Stmt := inClass (top 24) 15
abbrev s_Asker_is_waiting : Stmt := inClass (top 24) 16
abbrev s_Asker_log : Stmt := inClass (top 24) 17
abbrev s_Road___init__ : Stmt := inClass (top 28) 0
abbrev s_Road_send : Stmt := inClass (top 28) 1
abbrev s_Road_due : Stmt := inClass (top 28) 2
abbrev s_Road_many : Stmt := inClass (top 28) 3
abbrev s_Shelf___init__ : Stmt := inClass (top 32) 0
abbrev s_Shelf_put : Stmt := inClass (top 32) 1
abbrev s_Shelf_queries : Stmt := inClass (top 32) 2
abbrev s_Shelf_source : Stmt := inClass (top 32) 3
abbrev s_Shelf_get : Stmt := inClass (top 32) 4
abbrev s_Shelf_clear : Stmt := inClass (top 32) 5
abbrev s__law_cell : Stmt := top 34
abbrev s__law_mix : Stmt := top 35
abbrev s__law_draw : Stmt := top 36
abbrev s__law_pick : Stmt := top 37
abbrev s__law_refusal : Stmt := top 38
abbrev s__law_folded : Stmt := top 39
abbrev s__law_rank : Stmt := top 40
abbrev s__law_best : Stmt := top 41
abbrev s__law_row : Stmt := top 42
abbrev s__law_rows : Stmt := top 43
abbrev s__law_query : Stmt := top 44
abbrev s__law_asker : Stmt := top 45
abbrev s__law_near : Stmt := top 46
abbrev s__law_show : Stmt := top 47
abbrev s__law_off : Stmt := top 48
abbrev s__law_ask : Stmt := top 49
abbrev s__law_put : Stmt := top 50
abbrev s__law_come : Stmt := top 51
abbrev s__law_step : Stmt := top 52
abbrev s__law_view : Stmt := top 53
abbrev s__law_rules : Stmt := top 54
abbrev s__law_delays : Stmt := top 55
abbrev s__law_store : Stmt := top 56
abbrev s__law_told : Stmt := top 57
abbrev s__law_typed : Stmt := top 58
abbrev s__law_call : Stmt := top 59
abbrev s_law : Stmt := top 60
def d0 : He.DefD := ⟨("_wall", none), "_wall", "_wall", defArgs s__wall, defBody s__wall, defScope s__wall, [], []⟩
def d1 : He.DefD := ⟨("look_text", none), "look_text", "look_text", defArgs s_look_text, defBody s_look_text, defScope s_look_text, [], []⟩
def d2 : He.DefD := ⟨("folded", none), "folded", "folded", defArgs s_folded, defBody s_folded, defScope s_folded, [], []⟩
def d3 : He.DefD := ⟨("rank", none), "rank", "rank", defArgs s_rank, defBody s_rank, defScope s_rank, [], []⟩
def d4 : He.DefD := ⟨("look_many", none), "look_many", "look_many", defArgs s_look_many, defBody s_look_many, defScope s_look_many, [], []⟩
def d5 : He.DefD := ⟨("best", none), "best", "best", defArgs s_best, defBody s_best, defScope s_best, [], []⟩
def d6 : He.DefD := ⟨("Store", some "__init__"), "__init__", "Store.__init__", defArgs s_Store___init__, defBody s_Store___init__, defScope s_Store___init__, [], []⟩
def d7 : He.DefD := ⟨("Store", some "add"), "add", "Store.add", defArgs s_Store_add, defBody s_Store_add, defScope s_Store_add, [], []⟩
def d8 : He.DefD := ⟨("Store", some "remove"), "remove", "Store.remove", defArgs s_Store_remove, defBody s_Store_remove, defScope s_Store_remove, [], []⟩
def d9 : He.DefD := ⟨("Store", some "all_rows"), "all_rows", "Store.all_rows", defArgs s_Store_all_rows, defBody s_Store_all_rows, defScope s_Store_all_rows, [], []⟩
def d10 : He.DefD := ⟨("Store", some "answer"), "answer", "Store.answer", defArgs s_Store_answer, defBody s_Store_answer, defScope s_Store_answer, [], []⟩
def d11 : He.DefD := ⟨("Asker", some "__init__"), "__init__", "Asker.__init__", defArgs s_Asker___init__, defBody s_Asker___init__, defScope s_Asker___init__, [], []⟩
def d12 : He.DefD := ⟨("Asker", some "clock"), "clock", "Asker.clock", defArgs s_Asker_clock, defBody s_Asker_clock, defScope s_Asker_clock, [], []⟩
def d13 : He.DefD := ⟨("Asker", some "typed"), "typed", "Asker.typed", defArgs s_Asker_typed, defBody s_Asker_typed, defScope s_Asker_typed, [], []⟩
def d14 : He.DefD := ⟨("Asker", some "put"), "put", "Asker.put", defArgs s_Asker_put, defBody s_Asker_put, defScope s_Asker_put, [], []⟩
def d15 : He.DefD := ⟨("Asker", some "key"), "key", "Asker.key", defArgs s_Asker_key, defBody s_Asker_key, defScope s_Asker_key, [], []⟩
def d16 : He.DefD := ⟨("Asker", some "rub"), "rub", "Asker.rub", defArgs s_Asker_rub, defBody s_Asker_rub, defScope s_Asker_rub, [], []⟩
def d17 : He.DefD := ⟨("Asker", some "drop_other"), "drop_other", "Asker.drop_other", defArgs s_Asker_drop_other, defBody s_Asker_drop_other, defScope s_Asker_drop_other, [], []⟩
def d18 : He.DefD := ⟨("Asker", some "look_near"), "look_near", "Asker.look_near", defArgs s_Asker_look_near, defBody s_Asker_look_near, defScope s_Asker_look_near, [], []⟩
def d19 : He.DefD := ⟨("Asker", some "is_fresh"), "is_fresh", "Asker.is_fresh", defArgs s_Asker_is_fresh, defBody s_Asker_is_fresh, defScope s_Asker_is_fresh, [], []⟩
def d20 : He.DefD := ⟨("Asker", some "show"), "show", "Asker.show", defArgs s_Asker_show, defBody s_Asker_show, defScope s_Asker_show, [], []⟩
def d21 : He.DefD := ⟨("Asker", some "ask_if_due"), "ask_if_due", "Asker.ask_if_due", defArgs s_Asker_ask_if_due, defBody s_Asker_ask_if_due, defScope s_Asker_ask_if_due, [], []⟩
def d22 : He.DefD := ⟨("Asker", some "step"), "step", "Asker.step", defArgs s_Asker_step, defBody s_Asker_step, defScope s_Asker_step, [], []⟩
def d23 : He.DefD := ⟨("Asker", some "try_again"), "try_again", "Asker.try_again", defArgs s_Asker_try_again, defBody s_Asker_try_again, defScope s_Asker_try_again, [], []⟩
def d24 : He.DefD := ⟨("Asker", some "tick"), "tick", "Asker.tick", defArgs s_Asker_tick, defBody s_Asker_tick, defScope s_Asker_tick, [], []⟩
def d25 : He.DefD := ⟨("Asker", some "again"), "again", "Asker.again", defArgs s_Asker_again, defBody s_Asker_again, defScope s_Asker_again, [], []⟩
def d26 : He.DefD := ⟨("Asker", some "view"), "view", "Asker.view", defArgs s_Asker_view, defBody s_Asker_view, defScope s_Asker_view, [], []⟩
def d27 : He.DefD := ⟨("Asker", some "is_waiting"), "is_waiting", "Asker.is_waiting", defArgs s_Asker_is_waiting, defBody s_Asker_is_waiting, defScope s_Asker_is_waiting, [], []⟩
def d28 : He.DefD := ⟨("Asker", some "log"), "log", "Asker.log", defArgs s_Asker_log, defBody s_Asker_log, defScope s_Asker_log, [], []⟩
def d29 : He.DefD := ⟨("Road", some "__init__"), "__init__", "Road.__init__", defArgs s_Road___init__, defBody s_Road___init__, defScope s_Road___init__, [], []⟩
def d30 : He.DefD := ⟨("Road", some "send"), "send", "Road.send", defArgs s_Road_send, defBody s_Road_send, defScope s_Road_send, [], []⟩
def d31 : He.DefD := ⟨("Road", some "due"), "due", "Road.due", defArgs s_Road_due, defBody s_Road_due, defScope s_Road_due, [], []⟩
def d32 : He.DefD := ⟨("Road", some "many"), "many", "Road.many", defArgs s_Road_many, defBody s_Road_many, defScope s_Road_many, [], []⟩
def d33 : He.DefD := ⟨("Shelf", some "__init__"), "__init__", "Shelf.__init__", defArgs s_Shelf___init__, defBody s_Shelf___init__, defScope s_Shelf___init__, [], []⟩
def d34 : He.DefD := ⟨("Shelf", some "put"), "put", "Shelf.put", defArgs s_Shelf_put, defBody s_Shelf_put, defScope s_Shelf_put, [], []⟩
def d35 : He.DefD := ⟨("Shelf", some "queries"), "queries", "Shelf.queries", defArgs s_Shelf_queries, defBody s_Shelf_queries, defScope s_Shelf_queries, [], []⟩
def d36 : He.DefD := ⟨("Shelf", some "source"), "source", "Shelf.source", defArgs s_Shelf_source, defBody s_Shelf_source, defScope s_Shelf_source, [], []⟩
def d37 : He.DefD := ⟨("Shelf", some "get"), "get", "Shelf.get", defArgs s_Shelf_get, defBody s_Shelf_get, defScope s_Shelf_get, [], []⟩
def d38 : He.DefD := ⟨("Shelf", some "clear"), "clear", "Shelf.clear", defArgs s_Shelf_clear, defBody s_Shelf_clear, defScope s_Shelf_clear, [], []⟩
def d39 : He.DefD := ⟨("_law_cell", none), "_law_cell", "_law_cell", defArgs s__law_cell, defBody s__law_cell, defScope s__law_cell, [], []⟩
def d40 : He.DefD := ⟨("_law_mix", none), "_law_mix", "_law_mix", defArgs s__law_mix, defBody s__law_mix, defScope s__law_mix, [], []⟩
def d41 : He.DefD := ⟨("_law_draw", none), "_law_draw", "_law_draw", defArgs s__law_draw, defBody s__law_draw, defScope s__law_draw, [], []⟩
def d42 : He.DefD := ⟨("_law_pick", none), "_law_pick", "_law_pick", defArgs s__law_pick, defBody s__law_pick, defScope s__law_pick, [], []⟩
def d43 : He.DefD := ⟨("_law_refusal", none), "_law_refusal", "_law_refusal", defArgs s__law_refusal, defBody s__law_refusal, defScope s__law_refusal, [], []⟩
def d44 : He.DefD := ⟨("_law_folded", none), "_law_folded", "_law_folded", defArgs s__law_folded, defBody s__law_folded, defScope s__law_folded, [], []⟩
def d45 : He.DefD := ⟨("_law_rank", none), "_law_rank", "_law_rank", defArgs s__law_rank, defBody s__law_rank, defScope s__law_rank, [], []⟩
def d46 : He.DefD := ⟨("_law_best", none), "_law_best", "_law_best", defArgs s__law_best, defBody s__law_best, defScope s__law_best, [], []⟩
def d47 : He.DefD := ⟨("_law_row", none), "_law_row", "_law_row", defArgs s__law_row, defBody s__law_row, defScope s__law_row, [], []⟩
def d48 : He.DefD := ⟨("_law_rows", none), "_law_rows", "_law_rows", defArgs s__law_rows, defBody s__law_rows, defScope s__law_rows, [], []⟩
def d49 : He.DefD := ⟨("_law_query", none), "_law_query", "_law_query", defArgs s__law_query, defBody s__law_query, defScope s__law_query, [], []⟩
def d50 : He.DefD := ⟨("_law_asker", none), "_law_asker", "_law_asker", defArgs s__law_asker, defBody s__law_asker, defScope s__law_asker, [], []⟩
def d51 : He.DefD := ⟨("_law_near", none), "_law_near", "_law_near", defArgs s__law_near, defBody s__law_near, defScope s__law_near, [], []⟩
def d52 : He.DefD := ⟨("_law_show", none), "_law_show", "_law_show", defArgs s__law_show, defBody s__law_show, defScope s__law_show, [], []⟩
def d53 : He.DefD := ⟨("_law_off", none), "_law_off", "_law_off", defArgs s__law_off, defBody s__law_off, defScope s__law_off, [], []⟩
def d54 : He.DefD := ⟨("_law_ask", none), "_law_ask", "_law_ask", defArgs s__law_ask, defBody s__law_ask, defScope s__law_ask, [], []⟩
def d55 : He.DefD := ⟨("_law_put", none), "_law_put", "_law_put", defArgs s__law_put, defBody s__law_put, defScope s__law_put, [], []⟩
def d56 : He.DefD := ⟨("_law_come", none), "_law_come", "_law_come", defArgs s__law_come, defBody s__law_come, defScope s__law_come, [], []⟩
def d57 : He.DefD := ⟨("_law_step", none), "_law_step", "_law_step", defArgs s__law_step, defBody s__law_step, defScope s__law_step, [], []⟩
def d58 : He.DefD := ⟨("_law_view", none), "_law_view", "_law_view", defArgs s__law_view, defBody s__law_view, defScope s__law_view, [], []⟩
def d59 : He.DefD := ⟨("_law_rules", none), "_law_rules", "_law_rules", defArgs s__law_rules, defBody s__law_rules, defScope s__law_rules, [], []⟩
def d60 : He.DefD := ⟨("_law_delays", none), "_law_delays", "_law_delays", defArgs s__law_delays, defBody s__law_delays, defScope s__law_delays, [], []⟩
def d61 : He.DefD := ⟨("_law_store", none), "_law_store", "_law_store", defArgs s__law_store, defBody s__law_store, defScope s__law_store, [], []⟩
def d62 : He.DefD := ⟨("_law_told", none), "_law_told", "_law_told", defArgs s__law_told, defBody s__law_told, defScope s__law_told, [], []⟩
def d63 : He.DefD := ⟨("_law_typed", none), "_law_typed", "_law_typed", defArgs s__law_typed, defBody s__law_typed, defScope s__law_typed, [], []⟩
def d64 : He.DefD := ⟨("_law_call", none), "_law_call", "_law_call", defArgs s__law_call, defBody s__law_call, defScope s__law_call, [], []⟩
def d65 : He.DefD := ⟨("law", none), "law", "law", defArgs s_law, defBody s_law, defScope s_law, [], []⟩
def fn0 : List He.DefD := [d0, d1, d2, d3, d4, d5, d6, d7, d8, d9, d10, d11, d12, d13, d14, d15, d16, d17, d18, d19, d20, d21, d22, d23, d24, d25, d26, d27, d28, d29]
def fn1 : List He.DefD := [d30, d31, d32, d33, d34, d35, d36, d37, d38, d39, d40, d41, d42, d43, d44, d45, d46, d47, d48, d49, d50, d51, d52, d53, d54, d55, d56, d57, d58, d59]
def fn2 : List He.DefD := [d60, d61, d62, d63, d64, d65]
def fn : List He.DefD := fn0 ++ fn1 ++ fn2
def fa0 : List He.Fa := [.glo "_wall", .glo "look_text", .glo "folded", .glo "rank", .glo "look_many", .glo "best", .glo "_law_cell", .glo "_law_mix", .glo "_law_draw", .glo "_law_pick", .glo "_law_refusal", .glo "_law_folded", .glo "_law_rank", .glo "_law_best", .glo "_law_row", .glo "_law_rows", .glo "_law_query", .glo "_law_asker", .glo "_law_near", .glo "_law_show", .glo "_law_off", .glo "_law_ask", .glo "_law_put", .glo "_law_come", .glo "_law_step", .glo "_law_view", .glo "_law_rules", .glo "_law_delays", .glo "_law_store", .glo "_law_told"]
def fa1 : List He.Fa := [.glo "_law_typed", .glo "_law_call", .glo "law", .glo "AskError", .glo "BadText", .glo "BadNumber", .glo "BadAsk", .glo "Store", .glo "Asker", .glo "Road", .glo "Shelf", .free "ValueError", .free "all", .free "int", .free "isinstance", .free "len", .free "list", .free "max", .free "ord", .free "range", .free "sorted", .int "MOST_TYPED" 12, .int "MOST_ROW" 20, .int "MOST_ROWS" 12, .int "MOST_ANSWER" 6, .int "MOST_PAUSE" 9, .int "MOST_ASKS" 3, .int "MOST_PATIENCE" 40, .int "MOST_TICKS" 100, .int "TRIES" 3]
def fa2 : List He.Fa := [.int "MOST_DELAY" 30, .int "MOST_DELAYS" 8, .int "MOST_KEPT" 6, .int "MOST_TERM" 60, .exc "BadText", .exc "BadNumber", .exc "BadAsk", .cls "Store", .mkr "Store", .noat "Store" "rows", .meth "Store" "add", .meth "Store" "remove", .meth "Store" "all_rows", .meth "Store" "answer", .cls "Asker", .mkr "Asker", .noat "Asker" "store", .noat "Asker" "road", .noat "Asker" "shelf", .noat "Asker" "rows_most", .noat "Asker" "pause", .noat "Asker" "asks_most", .noat "Asker" "patience", .noat "Asker" "time", .noat "Asker" "now", .noat "Asker" "typed_at", .noat "Asker" "is_due", .noat "Asker" "tries", .noat "Asker" "asked", .noat "Asker" "flying"]
def fa3 : List He.Fa := [.noat "Asker" "shown", .noat "Asker" "rows", .meth "Asker" "clock", .meth "Asker" "typed", .meth "Asker" "put", .meth "Asker" "key", .meth "Asker" "rub", .meth "Asker" "drop_other", .meth "Asker" "look_near", .meth "Asker" "is_fresh", .meth "Asker" "show", .meth "Asker" "ask_if_due", .meth "Asker" "step", .meth "Asker" "try_again", .meth "Asker" "tick", .meth "Asker" "again", .meth "Asker" "view", .meth "Asker" "is_waiting", .meth "Asker" "log", .cls "Road", .mkr "Road", .noat "Road" "delays", .noat "Road" "sent", .noat "Road" "under_way", .meth "Road" "send", .meth "Road" "due", .meth "Road" "many", .cls "Shelf", .mkr "Shelf", .noat "Shelf" "most"]
def fa4 : List He.Fa := [.noat "Shelf" "term", .noat "Shelf" "kept", .meth "Shelf" "put", .meth "Shelf" "queries", .meth "Shelf" "source", .meth "Shelf" "get", .meth "Shelf" "clear", .exm "BadText" "BadText" true, .exm "BadText" "BadNumber" false, .exm "BadText" "BadAsk" false, .exm "BadText" "AskError" true, .exm "BadNumber" "BadText" false, .exm "BadNumber" "BadNumber" true, .exm "BadNumber" "BadAsk" false, .exm "BadNumber" "AskError" true, .exm "BadAsk" "BadText" false, .exm "BadAsk" "BadNumber" false, .exm "BadAsk" "BadAsk" true, .exm "BadAsk" "AskError" true]
def fa : List He.Fa := fa0 ++ fa1 ++ fa2 ++ fa3 ++ fa4
def loose0 : List PySem.Str := ["_wall", "AskError", "BadText", "BadNumber", "BadAsk", "MOST_TYPED", "MOST_ROW", "look_text", "folded", "rank", "MOST_ROWS", "MOST_ANSWER", "look_many", "best", "Store", "MOST_PAUSE", "MOST_ASKS", "MOST_PATIENCE", "MOST_TICKS", "TRIES", "Asker", "MOST_DELAY", "MOST_DELAYS", "Road", "MOST_KEPT", "MOST_TERM", "Shelf", "_law_cell", "_law_mix", "_law_draw"]
def loose1 : List PySem.Str := ["_law_pick", "_law_refusal", "_law_folded", "_law_rank", "_law_best", "_law_row", "_law_rows", "_law_query", "_law_asker", "_law_near", "_law_show", "_law_off", "_law_ask", "_law_put", "_law_come", "_law_step", "_law_view", "_law_rules", "_law_delays", "_law_store", "_law_told", "_law_typed", "_law_call"]
def loose : List PySem.Str := loose0 ++ loose1

abbrev N__law_cell : List Str := ["script", "k"]
theorem sc__law_cell : FnScope N__law_cell ["script", "k"] (defScope s__law_cell) := ⟨rfl, rfl, rfl, by decide +kernel, rfl, by decide +kernel, by decide +kernel⟩
theorem cal__law_cell {P : Program} {w : World} {K : PySem.W.Frag} {mg : Str → Option Value} {base : Heap} (T : TX fa K mg isQ) (hd : ∃ fd, FunD K d39.name d39.qual d39.params d39.body d39.scope (d39.dvs K) (d39.kws K) (He.fAd K d39.at_) fd)  :
    Cal P w K mg base 1 ("_law_cell", none) ["script", "k"] (sp__law_cell K) :=
  cal_of (d := d39) (N := N__law_cell) (t := t__law_cell K) hd rfl rfl sc__law_cell len__law_cell (fun _ _ _ _ _ _ us hl => match us, hl with | [_, _], _ => rfl) (fun cdv A outer s H E hr => (pss_cons (ps_if (pt_truth (pv 0) (by intro _; rfl)) (pss_one (ps_ret (pe_ix ix_list (pv 0) (pe_op op_mod (pv 1) (pe_callB lenK (by rfl) (T.free 45) (by decide +kernel) (pa_cons (pv 0) (pa_nil)))) (fun _ _ => rfl)))) (pss_nil)) (pss_one (ps_ret (pe_int))))) pure__law_cell
abbrev N__law_mix : List Str := ["script", "k", "number"]
theorem sc__law_mix : FnScope N__law_mix ["script", "k"] (defScope s__law_mix) := ⟨rfl, rfl, rfl, by decide +kernel, rfl, by decide +kernel, by decide +kernel⟩
theorem cal__law_mix {P : Program} {w : World} {K : PySem.W.Frag} {mg : Str → Option Value} {base : Heap} (T : TX fa K mg isQ) (hd : ∃ fd, FunD K d40.name d40.qual d40.params d40.body d40.scope (d40.dvs K) (d40.kws K) (He.fAd K d40.at_) fd) (c__law_cell : Cal P w K mg base 1 ("_law_cell", none) ["script", "k"] (sp__law_cell K)) :
    Cal P w K mg base 2 ("_law_mix", none) ["script", "k"] (sp__law_mix K) :=
  cal_of (d := d40) (N := N__law_mix) (t := t__law_mix K) hd rfl rfl sc__law_mix len__law_mix (fun _ _ _ _ _ _ us hl => match us, hl with | [_, _], _ => rfl) (fun cdv A outer s H E hr => (pss_cons (ps_set (i := 2) sc__law_mix.nd rfl (Or.inl rfl) (pe_op op_mod (pe_op op_add (pe_cal c__law_cell (hr.mono (by decide)) (T.glo 6) pxOf (pa_cons (pv 0) (pa_cons (pv 1) (pa_nil)))) (pe_op op_mul (pe_int) (pe_op op_add (pv 1) (pe_int)))) (pe_int))) (pss_cons (ps_set (i := 2) sc__law_mix.nd rfl (Or.inl rfl) (pe_op op_mod (pe_op op_pow (pv 2) (pe_int)) (pe_int))) (pss_one (ps_ret (pe_op op_mod (pe_op op_add (pe_op op_mul (pe_op op_fdiv (pv 2) (pe_int)) (pe_int)) (pv 2)) (pe_int))))))) pure__law_mix
abbrev N__law_draw : List Str := ["script", "town", "many"]
theorem sc__law_draw : FnScope N__law_draw ["script", "town", "many"] (defScope s__law_draw) := ⟨rfl, rfl, rfl, by decide +kernel, rfl, by decide +kernel, by decide +kernel⟩
theorem cal__law_draw {P : Program} {w : World} {K : PySem.W.Frag} {mg : Str → Option Value} {base : Heap} (T : TX fa K mg isQ) (hd : ∃ fd, FunD K d41.name d41.qual d41.params d41.body d41.scope (d41.dvs K) (d41.kws K) (He.fAd K d41.at_) fd) (c__law_mix : Cal P w K mg base 2 ("_law_mix", none) ["script", "k"] (sp__law_mix K)) :
    Cal P w K mg base 3 ("_law_draw", none) ["script", "town", "many"] (sp__law_draw K) :=
  cal_of (d := d41) (N := N__law_draw) (t := t__law_draw K) hd rfl rfl sc__law_draw len__law_draw (fun _ _ _ _ _ _ us hl => match us, hl with | [_, _, _], _ => rfl) (fun cdv A outer s H E hr => (pss_cons (ps_expr (pe_bmC PySem.F.plainAttrs_list PySem.F.slot_list_append PySem.F.type_list_append mt_append (pv 1) (pa_cons (pe_int) (pa_nil)))) (pss_one (ps_ret (pe_op op_mod (pe_op op_fdiv (pe_cal c__law_mix (hr.mono (by decide)) (T.glo 7) pxOf (pa_cons (pv 0) (pa_cons (pe_callB lenL (by rfl) (T.free 45) (by decide +kernel) (pa_cons (pv 1) (pa_nil))) (pa_nil)))) (pe_int)) (pv 2)))))) pure__law_draw
abbrev N__law_pick : List Str := ["script", "town", "some"]
theorem sc__law_pick : FnScope N__law_pick ["script", "town", "some"] (defScope s__law_pick) := ⟨rfl, rfl, rfl, by decide +kernel, rfl, by decide +kernel, by decide +kernel⟩
theorem cal__law_pick {P : Program} {w : World} {K : PySem.W.Frag} {mg : Str → Option Value} {base : Heap} (T : TX fa K mg isQ) (hd : ∃ fd, FunD K d42.name d42.qual d42.params d42.body d42.scope (d42.dvs K) (d42.kws K) (He.fAd K d42.at_) fd) (c__law_draw : Cal P w K mg base 3 ("_law_draw", none) ["script", "town", "many"] (sp__law_draw K)) :
    Cal P w K mg base 4 ("_law_pick", none) ["script", "town", "some"] (sp__law_pick K) :=
  cal_of (d := d42) (N := N__law_pick) (t := t__law_pick K) hd rfl rfl sc__law_pick len__law_pick (fun _ _ _ _ _ _ us hl => match us, hl with | [_, _, _], _ => rfl) (fun cdv A outer s H E hr => (pss_one (ps_ret (pe_ix ixL (pv 2) (pe_cal c__law_draw (hr.mono (by decide)) (T.glo 8) pxOf (pa_cons (pv 0) (pa_cons (pv 1) (pa_cons (pe_callB lenL (by rfl) (T.free 45) (by decide +kernel) (pa_cons (pv 2) (pa_nil))) (pa_nil))))) (fun _ _ => rfl))))) pure__law_pick
abbrev N__law_row : List Str := ["script", "town", "found", "k"]
theorem sc__law_row : FnScope N__law_row ["script", "town"] (defScope s__law_row) := ⟨rfl, rfl, rfl, by decide +kernel, rfl, by decide +kernel, by decide +kernel⟩
theorem cal__law_row {P : Program} {w : World} {K : PySem.W.Frag} {mg : Str → Option Value} {base : Heap} (T : TX fa K mg isQ) (hd : ∃ fd, FunD K d47.name d47.qual d47.params d47.body d47.scope (d47.dvs K) (d47.kws K) (He.fAd K d47.at_) fd) (c__law_draw : Cal P w K mg base 3 ("_law_draw", none) ["script", "town", "many"] (sp__law_draw K)) (c__law_pick : Cal P w K mg base 4 ("_law_pick", none) ["script", "town", "some"] (sp__law_pick K)) :
    Cal P w K mg base 5 ("_law_row", none) ["script", "town"] (sp__law_row K) :=
  cal_of (d := d47) (N := N__law_row) (t := t__law_row K) hd rfl rfl sc__law_row len__law_row (fun _ _ _ _ _ _ us hl => match us, hl with | [_, _], _ => rfl) (fun cdv A outer s H E hr => (pss_cons (ps_set (i := 2) sc__law_row.nd rfl (Or.inl rfl) (pe_str)) (pss_cons (ps_forR1 poOf rfl rfl (T.free 49) (pa_cons (pe_op op_add (pe_int) (pe_cal c__law_draw (hr.mono (by decide)) (T.glo 8) pxOf (pa_cons (pv 0) (pa_cons (pv 1) (pa_cons (pe_int) (pa_nil)))))) (pa_nil)) (pg_name (i := 3) sc__law_row.nd rfl (Or.inl rfl)) (pss_cons (ps_set (i := 2) sc__law_row.nd rfl (Or.inl rfl) (pe_op catS (pv 2) (pe_cal c__law_pick (hr.mono (by decide)) (T.glo 9) pxOf (pa_cons (pv 0) (pa_cons (pv 1) (pa_cons (pe_lst (pa_cons (pe_str) (pa_cons (pe_str) (pa_cons (pe_str) (pa_cons (pe_str) (pa_cons (pe_str) (pa_cons (pe_str) (pa_cons (pe_str) (pa_nil))))))))) (pa_nil))))))) (pss_one (ps_set (i := 2) sc__law_row.nd rfl (Or.inl rfl) (pe_op catS (pv 2) (pe_cal c__law_pick (hr.mono (by decide)) (T.glo 9) pxOf (pa_cons (pv 0) (pa_cons (pv 1) (pa_cons (pe_lst (pa_cons (pe_str) (pa_cons (pe_str) (pa_cons (pe_str) (pa_nil))))) (pa_nil)))))))))) (pss_one (ps_ret (pv 2)))))) pure__law_row
abbrev N__law_folded : List Str := ["text", "found", "sign"]
theorem sc__law_folded : FnScope N__law_folded ["text"] (defScope s__law_folded) := ⟨rfl, rfl, rfl, by decide +kernel, rfl, by decide +kernel, by decide +kernel⟩
theorem cal__law_folded {P : Program} {w : World} {K : PySem.W.Frag} {mg : Str → Option Value} {base : Heap} (T : TX fa K mg isQ) (hd : ∃ fd, FunD K d44.name d44.qual d44.params d44.body d44.scope (d44.dvs K) (d44.kws K) (He.fAd K d44.at_) fd)  :
    Cal P w K mg base 1 ("_law_folded", none) ["text"] (sp__law_folded K) :=
  cal_of (d := d44) (N := N__law_folded) (t := t__law_folded K) hd rfl rfl sc__law_folded len__law_folded (fun _ _ _ _ _ _ us hl => match us, hl with | [_], _ => rfl) (fun cdv A outer s H E hr => (pss_cons (ps_set (i := 1) sc__law_folded.nd rfl (Or.inl rfl) (pe_str)) (pss_cons (ps_forS poOf rfl (pv 0) (pg_name (i := 2) sc__law_folded.nd rfl (Or.inl rfl)) (pss_one (ps_if (pt_cmpR op_ne (pv 2) (pe_str) (nomark _)) (pss_one (ps_set (i := 1) sc__law_folded.nd rfl (Or.inl rfl) (pe_op catS (pv 1) (pe_bm0C PySem.F.plainAttrs_str PySem.F.slot_str_lower PySem.F.type_str_lower mtLower (pv 2))))) (pss_one (ps_if (PW.pt (pw_and (pt_cmpR op_ne (pv 1) (pe_str) (nomark _)) (pw_and1 (pt_cmpR op_ne (pe_ix ix_str (pv 1) (pe_un un_neg (pe_int)) (fun _ _ => rfl)) (pe_str) (nomark _))))) (pss_one (ps_set (i := 1) sc__law_folded.nd rfl (Or.inl rfl) (pe_op catS (pv 1) (pe_str)))) (pss_nil)))))) (pss_one (ps_ret (pe_ifExp (pt_cmpR op_eq (pe_slice sl_str (pv 1) (po_some (pe_un un_neg (pe_int))) (po_none)) (pe_str) (nomark _)) (pe_slice sl_str (pv 1) (po_none) (po_some (pe_un un_neg (pe_int)))) (pv 1))))))) pure__law_folded
abbrev N__law_rows : List Str := ["script", "town", "most", "found", "k", "row"]
theorem sc__law_rows : FnScope N__law_rows ["script", "town", "most"] (defScope s__law_rows) := ⟨rfl, rfl, rfl, by decide +kernel, rfl, by decide +kernel, by decide +kernel⟩
theorem cal__law_rows {P : Program} {w : World} {K : PySem.W.Frag} {mg : Str → Option Value} {base : Heap} (T : TX fa K mg isQ) (hd : ∃ fd, FunD K d48.name d48.qual d48.params d48.body d48.scope (d48.dvs K) (d48.kws K) (He.fAd K d48.at_) fd) (c__law_draw : Cal P w K mg base 3 ("_law_draw", none) ["script", "town", "many"] (sp__law_draw K)) (c__law_row : Cal P w K mg base 5 ("_law_row", none) ["script", "town"] (sp__law_row K)) (c__law_folded : Cal P w K mg base 1 ("_law_folded", none) ["text"] (sp__law_folded K)) :
    Cal P w K mg base 6 ("_law_rows", none) ["script", "town", "most"] (sp__law_rows K) :=
  cal_of (d := d48) (N := N__law_rows) (t := t__law_rows K) hd rfl rfl sc__law_rows len__law_rows (fun _ _ _ _ _ _ us hl => match us, hl with | [_, _, _], _ => rfl) (fun cdv A outer s H E hr => (pss_cons (ps_set (i := 3) sc__law_rows.nd rfl (Or.inl rfl) (pe_lst (pa_nil))) (pss_cons (ps_forR1 poOf rfl rfl (T.free 49) (pa_cons (pe_cal c__law_draw (hr.mono (by decide)) (T.glo 8) pxOf (pa_cons (pv 0) (pa_cons (pv 1) (pa_cons (pe_op op_add (pv 2) (pe_int)) (pa_nil))))) (pa_nil)) (pg_name (i := 4) sc__law_rows.nd rfl (Or.inl rfl)) (pss_cons (ps_set (i := 5) sc__law_rows.nd rfl (Or.inl rfl) (pe_cal c__law_row (hr.mono (by decide)) (T.glo 14) pxOf (pa_cons (pv 0) (pa_cons (pv 1) (pa_nil))))) (pss_one (ps_if (PW.pt (pw_and (pt_cmpR ninL (pv 5) (pv 3) (by rfl)) (pw_and1 (pt_cmpR op_ne (pe_cal c__law_folded (hr.mono (by decide)) (T.glo 11) pxOf (pa_cons (pv 5) (pa_nil))) (pe_str) (nomark _))))) (pss_one (ps_expr (pe_bmC PySem.F.plainAttrs_list PySem.F.slot_list_append PySem.F.type_list_append mt_append (pv 3) (pa_cons (pv 5) (pa_nil))))) (pss_nil))))) (pss_one (ps_ret (pv 3)))))) pure__law_rows
abbrev N__law_delays : List Str := ["script", "town", "is_kind", "some", "k"]
theorem sc__law_delays : FnScope N__law_delays ["script", "town", "is_kind"] (defScope s__law_delays) := ⟨rfl, rfl, rfl, by decide +kernel, rfl, by decide +kernel, by decide +kernel⟩
theorem cal__law_delays {P : Program} {w : World} {K : PySem.W.Frag} {mg : Str → Option Value} {base : Heap} (T : TX fa K mg isQ) (hd : ∃ fd, FunD K d60.name d60.qual d60.params d60.body d60.scope (d60.dvs K) (d60.kws K) (He.fAd K d60.at_) fd) (c__law_draw : Cal P w K mg base 3 ("_law_draw", none) ["script", "town", "many"] (sp__law_draw K)) (c__law_pick : Cal P w K mg base 4 ("_law_pick", none) ["script", "town", "some"] (sp__law_pick K)) :
    Cal P w K mg base 5 ("_law_delays", none) ["script", "town", "is_kind"] (sp__law_delays K) :=
  cal_of (d := d60) (N := N__law_delays) (t := t__law_delays K) hd rfl rfl sc__law_delays len__law_delays (fun _ _ _ _ _ _ us hl => match us, hl with | [_, _, _], _ => rfl) (fun cdv A outer s H E hr => (pss_cons (ps_set (i := 3) sc__law_delays.nd rfl (Or.inr rfl) (pe_op op_cat (pe_lst (pa_cons (pe_op op_add (pe_int) (pe_cal c__law_draw (hr.mono (by decide)) (T.glo 8) pxOf (pa_cons (pv 0) (pa_cons (pv 1) (pa_cons (pe_int) (pa_nil)))))) (pa_cons (pe_int) (pa_cons (pe_int) (pa_cons (pe_int) (pa_nil)))))) (pe_op op_rep (pe_lst (pa_cons (pe_non) (pa_nil))) (pe_callTy intB (by rfl) (T.free 43) (by decide +kernel) (pa_cons (pe_not (pv 2)) (pa_nil)))))) (pss_one (ps_ret (pe_lcR1 (own := [("k", 4)]) (g := gName 4) (tt := tYes) (te := tCall (sp__law_pick K) [] E0 (tCons (tVar 0) (tCons (tVar 1) (tCons (tVar 3) (tNil))))) rfl sc__law_delays.nd rfl (T.free 49) (pa_cons (pe_op op_add (pe_int) (pe_cal c__law_draw (hr.mono (by decide)) (T.glo 8) pxOf (pa_cons (pv 0) (pa_cons (pv 1) (pa_cons (pe_int) (pa_nil)))))) (pa_nil)) (blkOk_by (own := [("k", 4)]) (N := N__law_delays) (sc := defScope s__law_delays) (by decide +kernel)) (fun _ _ _ _ _ => pg_name (i := 4) sc__law_delays.nd rfl (Or.inl rfl)) (fun _ _ _ _ _ => pts_nil) (fun _ _ _ _ _ => pe_cal c__law_pick (hr.mono (by decide)) (T.glo 9) pxB (pa_cons (pv 0) (pa_cons (pv 1) (pa_cons (pv 3) (pa_nil)))))))))) pure__law_delays
abbrev N__law_rules : List Str := ["script", "town"]
theorem sc__law_rules : FnScope N__law_rules ["script", "town"] (defScope s__law_rules) := ⟨rfl, rfl, rfl, by decide +kernel, rfl, by decide +kernel, by decide +kernel⟩
theorem cal__law_rules {P : Program} {w : World} {K : PySem.W.Frag} {mg : Str → Option Value} {base : Heap} (T : TX fa K mg isQ) (hd : ∃ fd, FunD K d59.name d59.qual d59.params d59.body d59.scope (d59.dvs K) (d59.kws K) (He.fAd K d59.at_) fd) (c__law_draw : Cal P w K mg base 3 ("_law_draw", none) ["script", "town", "many"] (sp__law_draw K)) (c__law_pick : Cal P w K mg base 4 ("_law_pick", none) ["script", "town", "some"] (sp__law_pick K)) :
    Cal P w K mg base 5 ("_law_rules", none) ["script", "town"] (sp__law_rules K) :=
  cal_of (d := d59) (N := N__law_rules) (t := t__law_rules K) hd rfl rfl sc__law_rules len__law_rules (fun _ _ _ _ _ _ us hl => match us, hl with | [_, _], _ => rfl) (fun cdv A outer s H E hr => (pss_one (ps_ret (pe_tup (pa_cons (pe_op op_add (pe_int) (pe_cal c__law_draw (hr.mono (by decide)) (T.glo 8) pxOf (pa_cons (pv 0) (pa_cons (pv 1) (pa_cons (pe_int) (pa_nil)))))) (pa_cons (pe_cal c__law_draw (hr.mono (by decide)) (T.glo 8) pxOf (pa_cons (pv 0) (pa_cons (pv 1) (pa_cons (pe_int) (pa_nil))))) (pa_cons (pe_op op_add (pe_int) (pe_cal c__law_draw (hr.mono (by decide)) (T.glo 8) pxOf (pa_cons (pv 0) (pa_cons (pv 1) (pa_cons (pe_int) (pa_nil)))))) (pa_cons (pe_cal c__law_pick (hr.mono (by decide)) (T.glo 9) pxOf (pa_cons (pv 0) (pa_cons (pv 1) (pa_cons (pe_lst (pa_cons (pe_int) (pa_cons (pe_int) (pa_cons (pe_int) (pa_cons (pe_op op_add (pe_int) (pe_cal c__law_draw (hr.mono (by decide)) (T.glo 8) pxOf (pa_cons (pv 0) (pa_cons (pv 1) (pa_cons (pe_int) (pa_nil)))))) (pa_nil)))))) (pa_nil))))) (pa_nil))))))))) pure__law_rules
abbrev N_Store___init__ : List Str := ["self"]
theorem sc_Store___init__ : FnScope N_Store___init__ ["self"] (defScope s_Store___init__) := ⟨rfl, rfl, rfl, by decide +kernel, rfl, by decide +kernel, by decide +kernel⟩
theorem cal_Store___init__ {P : Program} {w : World} {K : PySem.W.Frag} {mg : Str → Option Value} {base : Heap} (T : TX fa K mg isQ) (hd : ∃ fd, FunD K d6.name d6.qual d6.params d6.body d6.scope (d6.dvs K) (d6.kws K) (He.fAd K d6.at_) fd)  :
    Cal P w K mg base 1 ("Store", some "__init__") ["self"] (sp_Store___init__ K) :=
  cal_of (d := d6) (N := N_Store___init__) (t := t_Store___init__ K) hd rfl rfl sc_Store___init__ len_Store___init__ (fun _ _ _ _ _ _ us hl => match us, hl with | [_], _ => rfl) (fun cdv A outer s H E hr => (pss_one (ps_fldC (T.cls 67) (T.noat 69) (pv 0) (pe_lst (pa_nil)) rfl))) pure_Store___init__
abbrev N_look_text : List Str := ["text", "most", "sign"]
theorem sc_look_text : FnScope N_look_text ["text", "most"] (defScope s_look_text) := ⟨rfl, rfl, rfl, by decide +kernel, rfl, by decide +kernel, by decide +kernel⟩
theorem cal_look_text {P : Program} {w : World} {K : PySem.W.Frag} {mg : Str → Option Value} {base : Heap} (T : TX fa K mg isQ) (hd : ∃ fd, FunD K d1.name d1.qual d1.params d1.body d1.scope (d1.dvs K) (d1.kws K) (He.fAd K d1.at_) fd)  :
    Cal P w K mg base 1 ("look_text", none) ["text", "most"] (sp_look_text K) :=
  cal_of (d := d1) (N := N_look_text) (t := t_look_text K) hd rfl rfl sc_look_text len_look_text (fun _ _ _ _ _ _ us hl => match us, hl with | [_, _], _ => rfl) (fun cdv A outer s H E hr => (pss_one (ps_if (PW.pt (pw_or (pt_cmpR op_gt (pe_callB lenS (by rfl) (T.free 45) (by decide +kernel) (pa_cons (pv 0) (pa_nil))) (pv 1) (nomark _)) (pw_or1 (pt_not (pt_val (pe_callB (allL rfl) (by rfl) (T.free 42) (by decide +kernel) (pa_cons (pe_lcS (own := [("sign", 2)]) (g := gName 2) (tt := tYes) (te := tAndV (tChain (rI0 fun i j => .bl (decide (i ≤ j))) (rI0 fun i j => .bl (decide (i < j))) (tC (.int 32)) (tCB (gOrd) (tCons (tVar 2) (tNil))) (tC (.int 127))) (tOp (rNe) (tCB (gOrd) (tCons (tVar 2) (tNil))) (tC (.int 37)))) rfl sc_look_text.nd (pv 0) (blkOk_by (own := [("sign", 2)]) (N := N_look_text) (sc := defScope s_look_text) (by decide +kernel)) (fun _ _ _ _ _ => pg_name (i := 2) sc_look_text.nd rfl (Or.inl rfl)) (fun _ _ _ _ _ => pts_nil) (fun _ _ _ _ _ => pe_and (pe_chain op_le op_lt (pe_int) (pe_callB ordS (by rfl) (T.free 48) (by decide +kernel) (pa_cons (pv 2) (pa_nil))) (pe_int)) (pe_one (pe_cmpR op_ne (pe_callB ordS (by rfl) (T.free 48) (by decide +kernel) (pa_cons (pv 2) (pa_nil))) (pe_int) (nomark _))))) (pa_nil)))))))) (pss_one (ps_raiseC rfl tkOf (T.exc 64) (T.glo 34))) (pss_nil)))) pure_look_text
abbrev N_folded : List Str := ["text", "word"]
theorem sc_folded : FnScope N_folded ["text"] (defScope s_folded) := ⟨rfl, rfl, rfl, by decide +kernel, rfl, by decide +kernel, by decide +kernel⟩
theorem cal_folded {P : Program} {w : World} {K : PySem.W.Frag} {mg : Str → Option Value} {base : Heap} (T : TX fa K mg isQ) (hd : ∃ fd, FunD K d2.name d2.qual d2.params d2.body d2.scope (d2.dvs K) (d2.kws K) (He.fAd K d2.at_) fd) (c_look_text : Cal P w K mg base 1 ("look_text", none) ["text", "most"] (sp_look_text K)) :
    Cal P w K mg base 2 ("folded", none) ["text"] (sp_folded K) :=
  cal_of (d := d2) (N := N_folded) (t := t_folded K) hd rfl rfl sc_folded len_folded (fun _ _ _ _ _ _ us hl => match us, hl with | [_], _ => rfl) (fun cdv A outer s H E hr => (pss_cons (ps_expr (pe_cal c_look_text (hr.mono (by decide)) (T.glo 1) pxOf (pa_cons (pv 0) (pa_cons (pe_cI (T.int 52)) (pa_nil))))) (pss_one (ps_ret (pe_bmC PySem.F.plainAttrs_str PySem.F.slot_str_join PySem.F.type_str_join mtJoin (pe_str) (pa_cons (pe_lcL (own := [("word", 1)]) (g := gName 1) (tt := tTest (tOp (rNe) (tVar 1) (tC (.str "")))) (te := tVar 1) rfl sc_folded.nd (pe_bmC PySem.F.plainAttrs_str PySem.F.slot_str_split PySem.F.type_str_split mtSplit (pe_bm0C PySem.F.plainAttrs_str PySem.F.slot_str_lower PySem.F.type_str_lower mtLower (pv 0)) (pa_cons (pe_str) (pa_nil))) (blkOk_by (own := [("word", 1)]) (N := N_folded) (sc := defScope s_folded) (by decide +kernel)) (fun _ _ _ _ _ => pg_name (i := 1) sc_folded.nd rfl (Or.inl rfl)) (fun _ _ _ _ _ => pts_one (pt_cmpR op_ne (pv 1) (pe_str) (nomark _))) (fun _ _ _ _ _ => pv 1)) (pa_nil))))))) pure_folded
abbrev N_Store_add : List Str := ["self", "row"]
theorem sc_Store_add : FnScope N_Store_add ["self", "row"] (defScope s_Store_add) := ⟨rfl, rfl, rfl, by decide +kernel, rfl, by decide +kernel, by decide +kernel⟩
theorem cal_Store_add {P : Program} {w : World} {K : PySem.W.Frag} {mg : Str → Option Value} {base : Heap} (T : TX fa K mg isQ) (hd : ∃ fd, FunD K d7.name d7.qual d7.params d7.body d7.scope (d7.dvs K) (d7.kws K) (He.fAd K d7.at_) fd) (c_look_text : Cal P w K mg base 1 ("look_text", none) ["text", "most"] (sp_look_text K)) (c_folded : Cal P w K mg base 2 ("folded", none) ["text"] (sp_folded K)) :
    Cal P w K mg base 3 ("Store", some "add") ["self", "row"] (sp_Store_add K) :=
  cal_of (d := d7) (N := N_Store_add) (t := t_Store_add K) hd rfl rfl sc_Store_add len_Store_add (fun _ _ _ _ _ _ us hl => match us, hl with | [_, _], _ => rfl) (fun cdv A outer s H E hr => (pss_cons (ps_expr (pe_cal c_look_text (hr.mono (by decide)) (T.glo 1) pxOf (pa_cons (pv 1) (pa_cons (pe_cI (T.int 52)) (pa_nil))))) (pss_cons (ps_if (PW.pt (pw_or (pt_cmpR op_eq (pe_cal c_folded (hr.mono (by decide)) (T.glo 2) pxOf (pa_cons (pv 1) (pa_nil))) (pe_str) (nomark _)) (pw_or1 (pt_cmpR inL (pv 1) (pe_fldC (T.cls 67) (T.noat 69) (pv 0) rfl) (by rfl))))) (pss_one (ps_raiseC rfl tkOf (T.exc 64) (T.glo 34))) (pss_nil)) (pss_cons (ps_if (pt_cmpR op_eq (pe_callB lenL (by rfl) (T.free 45) (by decide +kernel) (pa_cons (pe_fldC (T.cls 67) (T.noat 69) (pv 0) rfl) (pa_nil))) (pe_cI (T.int 53)) (nomark _)) (pss_one (ps_raiseC rfl tkOf (T.exc 65) (T.glo 35))) (pss_nil)) (pss_one (ps_expr (pe_bmC PySem.F.plainAttrs_list PySem.F.slot_list_append PySem.F.type_list_append mt_append (pe_fldC (T.cls 67) (T.noat 69) (pv 0) rfl) (pa_cons (pv 1) (pa_nil))))))))) pure_Store_add
abbrev N__law_store : List Str := ["rows", "found", "row"]
theorem sc__law_store : FnScope N__law_store ["rows"] (defScope s__law_store) := ⟨rfl, rfl, rfl, by decide +kernel, rfl, by decide +kernel, by decide +kernel⟩
theorem cal__law_store {P : Program} {w : World} {K : PySem.W.Frag} {mg : Str → Option Value} {base : Heap} (T : TX fa K mg isQ) (hd : ∃ fd, FunD K d61.name d61.qual d61.params d61.body d61.scope (d61.dvs K) (d61.kws K) (He.fAd K d61.at_) fd) (c_Store___init__ : Cal P w K mg base 1 ("Store", some "__init__") ["self"] (sp_Store___init__ K)) (c_Store_add : Cal P w K mg base 3 ("Store", some "add") ["self", "row"] (sp_Store_add K)) :
    Cal P w K mg base 4 ("_law_store", none) ["rows"] (sp__law_store K) :=
  cal_of (d := d61) (N := N__law_store) (t := t__law_store K) hd rfl rfl sc__law_store len__law_store (fun _ _ _ _ _ _ us hl => match us, hl with | [_], _ => rfl) (fun cdv A outer s H E hr => (pss_cons (ps_set (i := 1) sc__law_store.nd rfl (Or.inl rfl) (pe_calC0 c_Store___init__ (T.mkr 68) (hr.mono (by decide)) (T.glo 37) pxOf)) (pss_cons (ps_forL poOf rfl (pv 0) (pg_name (i := 2) sc__law_store.nd rfl (Or.inl rfl)) (pss_one (ps_expr (pe_calM c_Store_add (T.cls 67) (T.meth 70) (hr.mono (by decide)) pxOf (pv 1) (pa_cons (pv 2) (pa_nil)))))) (pss_one (ps_ret (pv 1)))))) pure__law_store
abbrev N_Road___init__ : List Str := ["self", "delays", "good", "delay"]
theorem sc_Road___init__ : FnScope N_Road___init__ ["self", "delays"] (defScope s_Road___init__) := ⟨rfl, rfl, rfl, by decide +kernel, rfl, by decide +kernel, by decide +kernel⟩
theorem cal_Road___init__ {P : Program} {w : World} {K : PySem.W.Frag} {mg : Str → Option Value} {base : Heap} (T : TX fa K mg isQ) (hd : ∃ fd, FunD K d29.name d29.qual d29.params d29.body d29.scope (d29.dvs K) (d29.kws K) (He.fAd K d29.at_) fd)  :
    Cal P w K mg base 1 ("Road", some "__init__") ["self", "delays"] (sp_Road___init__ K) :=
  cal_of (d := d29) (N := N_Road___init__) (t := t_Road___init__ K) hd rfl rfl sc_Road___init__ len_Road___init__ (fun _ _ _ _ _ _ us hl => match us, hl with | [_, _], _ => rfl) (fun cdv A outer s H E hr => (pss_cons (ps_set (i := 2) sc_Road___init__.nd rfl (Or.inl rfl) (pe_chain op_le op_le (pe_int) (pe_callB lenL (by rfl) (T.free 45) (by decide +kernel) (pa_cons (pv 1) (pa_nil))) (pe_cI (T.int 61)))) (pss_cons (ps_if (PW.pt (pw_or (pt_not (pt_val (pv 2))) (pw_or1 (pt_not (pt_val (pe_callB (allL rfl) (by rfl) (T.free 42) (by decide +kernel) (pa_cons (pe_lcL (own := [("delay", 3)]) (g := gName 3) (tt := tYes) (te := tOrV (tOp (rIsN) (tVar 3) (tC .non)) (tChain (rI0 fun i j => .bl (decide (i ≤ j))) (rI0 fun i j => .bl (decide (i ≤ j))) (tC (.int 1)) (tVar 3) (tC (.int 30)))) rfl sc_Road___init__.nd (pv 1) (blkOk_by (own := [("delay", 3)]) (N := N_Road___init__) (sc := defScope s_Road___init__) (by decide +kernel)) (fun _ _ _ _ _ => pg_name (i := 3) sc_Road___init__.nd rfl (Or.inl rfl)) (fun _ _ _ _ _ => pts_nil) (fun _ _ _ _ _ => pe_or (pe_cmpR op_isN1 (pv 3) (pe_non) (nomark _)) (pe_one (pe_chain op_le op_le (pe_int) (pv 3) (pe_cI (T.int 60)))))) (pa_nil)))))))) (pss_one (ps_raiseC rfl tkOf (T.exc 65) (T.glo 35))) (pss_nil)) (pss_cons (ps_fldC (T.cls 109) (T.noat 111) (pv 0) (pe_callTy listL (by rfl) (T.free 46) (by decide +kernel) (pa_cons (pv 1) (pa_nil))) rfl) (pss_cons (ps_fldC (T.cls 109) (T.noat 112) (pv 0) (pe_int) rfl) (pss_one (ps_fldC (T.cls 109) (T.noat 113) (pv 0) (pe_lst (pa_nil)) rfl))))))) pure_Road___init__
abbrev N_Shelf___init__ : List Str := ["self", "most", "term"]
theorem sc_Shelf___init__ : FnScope N_Shelf___init__ ["self", "most", "term"] (defScope s_Shelf___init__) := ⟨rfl, rfl, rfl, by decide +kernel, rfl, by decide +kernel, by decide +kernel⟩
theorem cal_Shelf___init__ {P : Program} {w : World} {K : PySem.W.Frag} {mg : Str → Option Value} {base : Heap} (T : TX fa K mg isQ) (hd : ∃ fd, FunD K d33.name d33.qual d33.params d33.body d33.scope (d33.dvs K) (d33.kws K) (He.fAd K d33.at_) fd)  :
    Cal P w K mg base 1 ("Shelf", some "__init__") ["self", "most", "term"] (sp_Shelf___init__ K) :=
  cal_of (d := d33) (N := N_Shelf___init__) (t := t_Shelf___init__ K) hd rfl rfl sc_Shelf___init__ len_Shelf___init__ (fun _ _ _ _ _ _ us hl => match us, hl with | [_, _, _], _ => rfl) (fun cdv A outer s H E hr => (pss_cons (ps_if (PW.pt (pw_or (pt_not (pt_chain op_le op_le (pe_int) (pv 1) (pe_cI (T.int 62)))) (pw_or1 (pt_not (pt_chain op_le op_le (pe_int) (pv 2) (pe_cI (T.int 63))))))) (pss_one (ps_raiseC rfl tkOf (T.exc 65) (T.glo 35))) (pss_nil)) (pss_cons (ps_fldC (T.cls 117) (T.noat 119) (pv 0) (pv 1) rfl) (pss_cons (ps_fldC (T.cls 117) (T.noat 120) (pv 0) (pv 2) rfl) (pss_one (ps_fldC (T.cls 117) (T.noat 121) (pv 0) (pe_lst (pa_nil)) rfl)))))) pure_Shelf___init__
abbrev N_look_many : List Str := ["many"]
theorem sc_look_many : FnScope N_look_many ["many"] (defScope s_look_many) := ⟨rfl, rfl, rfl, by decide +kernel, rfl, by decide +kernel, by decide +kernel⟩
theorem cal_look_many {P : Program} {w : World} {K : PySem.W.Frag} {mg : Str → Option Value} {base : Heap} (T : TX fa K mg isQ) (hd : ∃ fd, FunD K d4.name d4.qual d4.params d4.body d4.scope (d4.dvs K) (d4.kws K) (He.fAd K d4.at_) fd)  :
    Cal P w K mg base 1 ("look_many", none) ["many"] (sp_look_many K) :=
  cal_of (d := d4) (N := N_look_many) (t := t_look_many K) hd rfl rfl sc_look_many len_look_many (fun _ _ _ _ _ _ us hl => match us, hl with | [_], _ => rfl) (fun cdv A outer s H E hr => (pss_one (ps_if (pt_not (pt_chain op_le op_le (pe_int) (pv 0) (pe_cI (T.int 54)))) (pss_one (ps_raiseC rfl tkOf (T.exc 65) (T.glo 35))) (pss_nil)))) pure_look_many
abbrev N_Asker___init__ : List Str := ["self", "store", "road", "shelf", "many", "pause", "asks", "patience"]
theorem sc_Asker___init__ : FnScope N_Asker___init__ ["self", "store", "road", "shelf", "many", "pause", "asks", "patience"] (defScope s_Asker___init__) := ⟨rfl, rfl, rfl, by decide +kernel, rfl, by decide +kernel, by decide +kernel⟩
theorem cal_Asker___init__ {P : Program} {w : World} {K : PySem.W.Frag} {mg : Str → Option Value} {base : Heap} (T : TX fa K mg isQ) (hd : ∃ fd, FunD K d11.name d11.qual d11.params d11.body d11.scope (d11.dvs K) (d11.kws K) (He.fAd K d11.at_) fd) (c_look_many : Cal P w K mg base 1 ("look_many", none) ["many"] (sp_look_many K)) :
    Cal P w K mg base 2 ("Asker", some "__init__") ["self", "store", "road", "shelf", "many", "pause", "asks", "patience"] (sp_Asker___init__ K) :=
  cal_of (d := d11) (N := N_Asker___init__) (t := t_Asker___init__ K) hd rfl rfl sc_Asker___init__ len_Asker___init__ (fun _ _ _ _ _ _ us hl => match us, hl with | [_, _, _, _, _, _, _, _], _ => rfl) (fun cdv A outer s H E hr => (pss_cons (ps_expr (pe_cal c_look_many (hr.mono (by decide)) (T.glo 4) pxOf (pa_cons (pv 4) (pa_nil)))) (pss_cons (ps_if (PW.pt (pw_or (pt_not (pt_chain op_le op_le (pe_int) (pv 5) (pe_cI (T.int 55)))) (pw_or (pt_not (pt_chain op_le op_le (pe_int) (pv 6) (pe_cI (T.int 56)))) (pw_or1 (pt_not (pt_chain op_le op_le (pe_int) (pv 7) (pe_cI (T.int 57)))))))) (pss_one (ps_raiseC rfl tkOf (T.exc 65) (T.glo 35))) (pss_nil)) (pss_cons (ps_fldC (T.cls 74) (T.noat 76) (pv 0) (pv 1) rfl) (pss_cons (ps_fldC (T.cls 74) (T.noat 77) (pv 0) (pv 2) rfl) (pss_cons (ps_fldC (T.cls 74) (T.noat 78) (pv 0) (pv 3) rfl) (pss_cons (ps_fldC (T.cls 74) (T.noat 79) (pv 0) (pv 4) rfl) (pss_cons (ps_fldC (T.cls 74) (T.noat 80) (pv 0) (pv 5) rfl) (pss_cons (ps_fldC (T.cls 74) (T.noat 81) (pv 0) (pv 6) rfl) (pss_cons (ps_fldC (T.cls 74) (T.noat 82) (pv 0) (pv 7) rfl) (pss_cons (ps_fldC (T.cls 74) (T.noat 83) (pv 0) (pe_int) rfl) (pss_cons (ps_fldC (T.cls 74) (T.noat 84) (pv 0) (pe_str) rfl) (pss_cons (ps_fldC (T.cls 74) (T.noat 85) (pv 0) (pe_int) rfl) (pss_cons (ps_fldC (T.cls 74) (T.noat 86) (pv 0) (pe_bl) rfl) (pss_cons (ps_fldC (T.cls 74) (T.noat 87) (pv 0) (pe_int) rfl) (pss_cons (ps_fldC (T.cls 74) (T.noat 88) (pv 0) (pe_newI) rfl) (pss_cons (ps_fldC (T.cls 74) (T.noat 89) (pv 0) (pe_newI) rfl) (pss_cons (ps_fldC (T.cls 74) (T.noat 90) (pv 0) (pe_non) rfl) (pss_one (ps_fldC (T.cls 74) (T.noat 91) (pv 0) (pe_lst (pa_nil)) rfl)))))))))))))))))))) pure_Asker___init__
abbrev N__law_asker : List Str := ["rows", "delays", "most", "term", "rules", "many", "pause", "asks", "patience", "found"]
theorem sc__law_asker : FnScope N__law_asker ["rows", "delays", "most", "term", "rules"] (defScope s__law_asker) := ⟨rfl, rfl, rfl, by decide +kernel, rfl, by decide +kernel, by decide +kernel⟩
theorem cal__law_asker {P : Program} {w : World} {K : PySem.W.Frag} {mg : Str → Option Value} {base : Heap} (T : TX fa K mg isQ) (hd : ∃ fd, FunD K d50.name d50.qual d50.params d50.body d50.scope (d50.dvs K) (d50.kws K) (He.fAd K d50.at_) fd)  :
    Cal P w K mg base 1 ("_law_asker", none) ["rows", "delays", "most", "term", "rules"] (sp__law_asker K) :=
  cal_of (d := d50) (N := N__law_asker) (t := t__law_asker K) hd rfl rfl sc__law_asker len__law_asker (fun _ _ _ _ _ _ us hl => match us, hl with | [_, _, _, _, _], _ => rfl) (fun cdv A outer s H E hr => (pss_cons (ps_asg (pv 4) (pg_tupC rfl (pgs_cons (pg_name (i := 5) sc__law_asker.nd rfl (Or.inl rfl)) (pgs_cons (pg_name (i := 6) sc__law_asker.nd rfl (Or.inl rfl)) (pgs_cons (pg_name (i := 7) sc__law_asker.nd rfl (Or.inl rfl)) (pgs_cons (pg_name (i := 8) sc__law_asker.nd rfl (Or.inl rfl)) (pgs_nil))))))) (pss_cons (ps_set (i := 9) sc__law_asker.nd rfl (Or.inl rfl) (pe_dispS (ks := ["rows", "delays", "most", "term", "many", "pause"]) (ts := [tVar 0, tVar 1, tVar 2, tVar 3, tVar 5, tVar 6]) (pps_cons pe_str (PE_mo (pv 0)) (pps_cons pe_str (PE_mo (pv 1)) (pps_cons pe_str (PE_mo (pv 2)) (pps_cons pe_str (PE_mo (pv 3)) (pps_cons pe_str (PE_mo (pv 5)) (pps_cons pe_str (PE_mo (pv 6)) (pps_nil))))))) (by rfl) (by rfl) (fun z => by cases z) (by decide) rfl (by decide) (by decide +kernel))) (pss_cons (ps_expr (pe_bmC PySem.F.plainAttrs_dict PySem.F.slot_dict_update PySem.F.type_dict_update mtUpdS (pv 9) (pa_cons (pe_dispS (ks := ["asks", "patience", "time", "typed", "since", "due", "tries"]) (ts := [tVar 7, tVar 8, tC (.int 0), tC (.str ""), tC (.int 0), tC (.bl false), tC (.int 0)]) (pps_cons pe_str (PE_mo (pv 7)) (pps_cons pe_str (PE_mo (pv 8)) (pps_cons pe_str (PE_mo (pe_int)) (pps_cons pe_str (PE_mo (pe_str)) (pps_cons pe_str (PE_mo (pe_int)) (pps_cons pe_str (PE_mo (pe_bl)) (pps_cons pe_str (PE_mo (pe_int)) (pps_nil)))))))) (by rfl) (by rfl) (fun z => by cases z) (by decide) rfl (by decide) (by decide +kernel)) (pa_nil)))) (pss_cons (ps_expr (pe_bmC PySem.F.plainAttrs_dict PySem.F.slot_dict_update PySem.F.type_dict_update mtUpdS (pv 9) (pa_cons (pe_dispS (ks := ["sent", "coming", "asked", "flying", "kept", "shown", "log"]) (ts := [tLst (tNil), tLst (tNil), tLst (tNil), tLst (tNil), tLst (tNil), tC .non, tLst (tNil)]) (pps_cons pe_str (PE_mo (pe_lst (pa_nil))) (pps_cons pe_str (PE_mo (pe_lst (pa_nil))) (pps_cons pe_str (PE_mo (pe_lst (pa_nil))) (pps_cons pe_str (PE_mo (pe_lst (pa_nil))) (pps_cons pe_str (PE_mo (pe_lst (pa_nil))) (pps_cons pe_str (PE_mo (pe_non)) (pps_cons pe_str (PE_mo (pe_lst (pa_nil))) (pps_nil)))))))) (by rfl) (by rfl) (fun z => by cases z) (by decide) rfl (by decide) (by decide +kernel)) (pa_nil)))) (pss_one (ps_ret (pv 9)))))))) pure__law_asker
abbrev N__law_query : List Str := ["script", "town", "found", "k"]
theorem sc__law_query : FnScope N__law_query ["script", "town"] (defScope s__law_query) := ⟨rfl, rfl, rfl, by decide +kernel, rfl, by decide +kernel, by decide +kernel⟩
theorem cal__law_query {P : Program} {w : World} {K : PySem.W.Frag} {mg : Str → Option Value} {base : Heap} (T : TX fa K mg isQ) (hd : ∃ fd, FunD K d49.name d49.qual d49.params d49.body d49.scope (d49.dvs K) (d49.kws K) (He.fAd K d49.at_) fd) (c__law_draw : Cal P w K mg base 3 ("_law_draw", none) ["script", "town", "many"] (sp__law_draw K)) (c__law_pick : Cal P w K mg base 4 ("_law_pick", none) ["script", "town", "some"] (sp__law_pick K)) :
    Cal P w K mg base 5 ("_law_query", none) ["script", "town"] (sp__law_query K) :=
  cal_of (d := d49) (N := N__law_query) (t := t__law_query K) hd rfl rfl sc__law_query len__law_query (fun _ _ _ _ _ _ us hl => match us, hl with | [_, _], _ => rfl) (fun cdv A outer s H E hr => (pss_cons (ps_set (i := 2) sc__law_query.nd rfl (Or.inl rfl) (pe_str)) (pss_cons (ps_forR1 poOf rfl rfl (T.free 49) (pa_cons (pe_cal c__law_draw (hr.mono (by decide)) (T.glo 8) pxOf (pa_cons (pv 0) (pa_cons (pv 1) (pa_cons (pe_int) (pa_nil))))) (pa_nil)) (pg_name (i := 3) sc__law_query.nd rfl (Or.inl rfl)) (pss_one (ps_set (i := 2) sc__law_query.nd rfl (Or.inl rfl) (pe_op catS (pv 2) (pe_cal c__law_pick (hr.mono (by decide)) (T.glo 9) pxOf (pa_cons (pv 0) (pa_cons (pv 1) (pa_cons (pe_lst (pa_cons (pe_str) (pa_cons (pe_str) (pa_cons (pe_str) (pa_cons (pe_str) (pa_cons (pe_str) (pa_cons (pe_str) (pa_nil)))))))) (pa_nil))))))))) (pss_one (ps_ret (pv 2)))))) pure__law_query
abbrev N_Asker_drop_other : List Str := ["self", "wanted", "number"]
theorem sc_Asker_drop_other : FnScope N_Asker_drop_other ["self", "wanted"] (defScope s_Asker_drop_other) := ⟨rfl, rfl, rfl, by decide +kernel, rfl, by decide +kernel, by decide +kernel⟩
theorem cal_Asker_drop_other {P : Program} {w : World} {K : PySem.W.Frag} {mg : Str → Option Value} {base : Heap} (T : TX fa K mg isQ) (hd : ∃ fd, FunD K d17.name d17.qual d17.params d17.body d17.scope (d17.dvs K) (d17.kws K) (He.fAd K d17.at_) fd) (c_folded : Cal P w K mg base 2 ("folded", none) ["text"] (sp_folded K)) :
    Cal P w K mg base 3 ("Asker", some "drop_other") ["self", "wanted"] (sp_Asker_drop_other K) :=
  cal_of (d := d17) (N := N_Asker_drop_other) (t := t_Asker_drop_other K) hd rfl rfl sc_Asker_drop_other len_Asker_drop_other (fun _ _ _ _ _ _ us hl => match us, hl with | [_, _], _ => rfl) (fun cdv A outer s H E hr => (pss_one (ps_forL poOf rfl (pe_callTy (listK rfl) (by rfl) (T.free 46) (by decide +kernel) (pa_cons (pe_bm0C PySem.F.plainAttrs_dict PySem.F.slot_dict_keys PySem.F.type_dict_keys mtKeys (pe_fldC (T.cls 74) (T.noat 88) (pv 0) rfl)) (pa_nil))) (pg_name (i := 2) sc_Asker_drop_other.nd rfl (Or.inl rfl)) (pss_one (ps_if (pt_cmpR op_ne (pe_cal c_folded (hr.mono (by decide)) (T.glo 2) pxOf (pa_cons (pe_getI hr.units (pe_fldC (T.cls 74) (T.noat 88) (pv 0) rfl) (pv 2) (fun _ _ => rfl)) (pa_nil))) (pv 1) (nomark _)) (pss_cons (ps_expr (pe_bmC PySem.F.plainAttrs_dict PySem.F.slot_dict_pop PySem.F.type_dict_pop mtPop1 (pe_fldC (T.cls 74) (T.noat 88) (pv 0) rfl) (pa_cons (pv 2) (pa_nil)))) (pss_one (ps_expr (pe_bmC PySem.F.plainAttrs_list PySem.F.slot_list_append PySem.F.type_list_append mt_append (pe_fldC (T.cls 74) (T.noat 91) (pv 0) rfl) (pa_cons (pe_tup (pa_cons (pe_str) (pa_cons (pv 2) (pa_nil)))) (pa_nil)))))) (pss_nil)))))) pure_Asker_drop_other
abbrev N_Shelf_source : List Str := ["self", "query", "time", "key", "found", "one"]
theorem sc_Shelf_source : FnScope N_Shelf_source ["self", "query", "time"] (defScope s_Shelf_source) := ⟨rfl, rfl, rfl, by decide +kernel, rfl, by decide +kernel, by decide +kernel⟩
theorem cal_Shelf_source {P : Program} {w : World} {K : PySem.W.Frag} {mg : Str → Option Value} {base : Heap} (T : TX fa K mg isQ) (hd : ∃ fd, FunD K d36.name d36.qual d36.params d36.body d36.scope (d36.dvs K) (d36.kws K) (He.fAd K d36.at_) fd) (c_folded : Cal P w K mg base 2 ("folded", none) ["text"] (sp_folded K)) :
    Cal P w K mg base 3 ("Shelf", some "source") ["self", "query", "time"] (sp_Shelf_source K) :=
  cal_of (d := d36) (N := N_Shelf_source) (t := t_Shelf_source K) hd rfl rfl sc_Shelf_source len_Shelf_source (fun _ _ _ _ _ _ us hl => match us, hl with | [_, _, _], _ => rfl) (fun cdv A outer s H E hr => (pss_cons (ps_set (i := 3) sc_Shelf_source.nd rfl (Or.inl rfl) (pe_cal c_folded (hr.mono (by decide)) (T.glo 2) pxOf (pa_cons (pv 1) (pa_nil)))) (pss_cons (ps_set (i := 4) sc_Shelf_source.nd rfl (Or.inl rfl) (pe_non)) (pss_cons (ps_forL poOf rfl (pe_fldC (T.cls 117) (T.noat 121) (pv 0) rfl) (pg_name (i := 5) sc_Shelf_source.nd rfl (Or.inl rfl)) (pss_one (ps_if (PW.pt (pw_and (pt_cmpR op_lt (pe_op op_sub (pv 2) (pe_ix ixT (pv 5) (pe_int) (fun _ _ => rfl))) (pe_fldC (T.cls 117) (T.noat 120) (pv 0) rfl) (nomark _)) (pw_and1 (PW.pt (pw_or (pt_cmpR op_eq (pe_ix ixT (pv 5) (pe_int) (fun _ _ => rfl)) (pv 3) (nomark _)) (pw_or1 (PW.pt (pw_and (pt_val (pe_ix ixT (pv 5) (pe_int) (fun _ _ => rfl))) (pw_and1 (pt_cmpR inS (pe_ix ixT (pv 5) (pe_int) (fun _ _ => rfl)) (pv 3) (by rfl))))))))))) (pss_one (ps_if (PW.pt (pw_or (pt_cmpR op_isN1 (pv 4) (pe_non) (nomark _)) (pw_or1 (pt_cmpR op_gt (pe_callB lenS (by rfl) (T.free 45) (by decide +kernel) (pa_cons (pe_ix ixT (pv 5) (pe_int) (fun _ _ => rfl)) (pa_nil))) (pe_callB lenS (by rfl) (T.free 45) (by decide +kernel) (pa_cons (pe_ix ixT (pv 4) (pe_int) (fun _ _ => rfl)) (pa_nil))) (nomark _))))) (pss_one (ps_set (i := 4) sc_Shelf_source.nd rfl (Or.inl rfl) (pv 5))) (pss_nil))) (pss_nil)))) (pss_one (ps_ret (pv 4))))))) pure_Shelf_source
abbrev N_rank : List Str := ["row", "query", "mine", "wanted"]
theorem sc_rank : FnScope N_rank ["row", "query"] (defScope s_rank) := ⟨rfl, rfl, rfl, by decide +kernel, rfl, by decide +kernel, by decide +kernel⟩
theorem cal_rank {P : Program} {w : World} {K : PySem.W.Frag} {mg : Str → Option Value} {base : Heap} (T : TX fa K mg isQ) (hd : ∃ fd, FunD K d3.name d3.qual d3.params d3.body d3.scope (d3.dvs K) (d3.kws K) (He.fAd K d3.at_) fd) (c_look_text : Cal P w K mg base 1 ("look_text", none) ["text", "most"] (sp_look_text K)) (c_folded : Cal P w K mg base 2 ("folded", none) ["text"] (sp_folded K)) :
    Cal P w K mg base 3 ("rank", none) ["row", "query"] (sp_rank K) :=
  cal_of (d := d3) (N := N_rank) (t := t_rank K) hd rfl rfl sc_rank len_rank (fun _ _ _ _ _ _ us hl => match us, hl with | [_, _], _ => rfl) (fun cdv A outer s H E hr => (pss_cons (ps_expr (pe_cal c_look_text (hr.mono (by decide)) (T.glo 1) pxOf (pa_cons (pv 1) (pa_cons (pe_cI (T.int 51)) (pa_nil))))) (pss_cons (ps_set (i := 2) sc_rank.nd rfl (Or.inl rfl) (pe_cal c_folded (hr.mono (by decide)) (T.glo 2) pxOf (pa_cons (pv 0) (pa_nil)))) (pss_cons (ps_set (i := 3) sc_rank.nd rfl (Or.inl rfl) (pe_cal c_folded (hr.mono (by decide)) (T.glo 2) pxOf (pa_cons (pv 1) (pa_nil)))) (pss_cons (ps_if (pt_cmpR op_eq (pv 2) (pv 3) (nomark _)) (pss_one (ps_ret (pe_int))) (pss_nil)) (pss_cons (ps_if (pt_val (pe_bmC PySem.F.plainAttrs_str PySem.F.slot_str_startswith PySem.F.type_str_startswith mtStarts (pv 2) (pa_cons (pv 3) (pa_nil)))) (pss_one (ps_ret (pe_int))) (pss_nil)) (pss_cons (ps_if (pt_cmpR inS (pe_op catS (pe_str) (pv 3)) (pv 2) (by rfl)) (pss_one (ps_ret (pe_int))) (pss_nil)) (pss_one (ps_ret (pe_ifExp (pt_cmpR inS (pv 3) (pv 2) (by rfl)) (pe_int) (pe_non))))))))))) pure_rank
abbrev N_best : List Str := ["rows", "query", "many", "some", "row", "one", "fits", "small"]
theorem sc_best : FnScope N_best ["rows", "query", "many"] (defScope s_best) := ⟨rfl, rfl, rfl, by decide +kernel, rfl, by decide +kernel, by decide +kernel⟩
theorem cal_best {P : Program} {w : World} {K : PySem.W.Frag} {mg : Str → Option Value} {base : Heap} (T : TX fa K mg isQ) (hd : ∃ fd, FunD K d5.name d5.qual d5.params d5.body d5.scope (d5.dvs K) (d5.kws K) (He.fAd K d5.at_) fd) (c_rank : Cal P w K mg base 3 ("rank", none) ["row", "query"] (sp_rank K)) (c_folded : Cal P w K mg base 2 ("folded", none) ["text"] (sp_folded K)) :
    Cal P w K mg base 4 ("best", none) ["rows", "query", "many"] (sp_best K) :=
  cal_of (d := d5) (N := N_best) (t := t_best K) hd rfl rfl sc_best len_best (fun _ _ _ _ _ _ us hl => match us, hl with | [_, _, _], _ => rfl) (fun cdv A outer s H E hr => (pss_cons (ps_lcL (i := 3) (own := [("row", 4)]) (g := gName 4) (tt := tYes) (te := tTup (tCons (tCall (sp_rank K) [] E0 (tCons (tVar 4) (tCons (tVar 1) (tNil)))) (tCons (tCall (sp_folded K) [] E0 (tCons (tVar 4) (tNil))) (tCons (tVar 4) (tNil))))) rfl sc_best.nd rfl rfl (sw_true rfl rfl rfl (by decide +kernel)) (pv 0) (blkOk_by (own := [("row", 4)]) (N := N_best) (sc := defScope s_best) (by decide +kernel)) (fun _ _ _ _ _ => pg_name (i := 4) sc_best.nd rfl (Or.inl rfl)) (fun _ _ _ _ _ => pts_nil) (fun _ _ _ _ _ => pe_tup (pa_cons (pe_cal c_rank (hr.mono (by decide)) (T.glo 3) pxB (pa_cons (pv 4) (pa_cons (pv 1) (pa_nil)))) (pa_cons (pe_cal c_folded (hr.mono (by decide)) (T.glo 2) pxB (pa_cons (pv 4) (pa_nil))) (pa_cons (pv 4) (pa_nil)))))) (pss_one (ps_ret (pe_slice slL (pe_lcL (own := [("fits", 6), ("small", 7), ("row", 4)]) (g := fTup 3 (gCons (gName 6) (gCons (gName 7) (gCons (gName 4) (gNil))))) (tt := tYes) (te := tVar 4) rfl sc_best.nd (pe_callB (sortD hr.units) (by rfl) (T.free 50) (by decide +kernel) (pa_cons (pe_lcL (own := [("one", 5)]) (g := gName 5) (tt := tTest (tOp (rNotN) (tOp gIxT (tVar 5) (tC (.int 0))) (tC .non))) (te := tVar 5) rfl sc_best.nd (pv 3) (blkOk_by (own := [("one", 5)]) (N := N_best) (sc := defScope s_best) (by decide +kernel)) (fun _ _ _ _ _ => pg_name (i := 5) sc_best.nd rfl (Or.inl rfl)) (fun _ _ _ _ _ => pts_one (pt_cmpR op_notN1 (pe_ix ixT (pv 5) (pe_int) (fun _ _ => rfl)) (pe_non) (nomark _))) (fun _ _ _ _ _ => pv 5)) (pa_nil))) (blkOk_by (own := [("fits", 6), ("small", 7), ("row", 4)]) (N := N_best) (sc := defScope s_best) (by decide +kernel)) (fun _ _ _ _ _ => pg_tupC rfl (pgs_cons (pg_name (i := 6) sc_best.nd rfl (Or.inl rfl)) (pgs_cons (pg_name (i := 7) sc_best.nd rfl (Or.inl rfl)) (pgs_cons (pg_name (i := 4) sc_best.nd rfl (Or.inl rfl)) (pgs_nil))))) (fun _ _ _ _ _ => pts_nil) (fun _ _ _ _ _ => pv 4)) (po_none) (po_some (pv 2))))))) pure_best
abbrev N_Shelf_get : List Str := ["self", "query", "many", "time", "one", "other"]
theorem sc_Shelf_get : FnScope N_Shelf_get ["self", "query", "many", "time"] (defScope s_Shelf_get) := ⟨rfl, rfl, rfl, by decide +kernel, rfl, by decide +kernel, by decide +kernel⟩
theorem cal_Shelf_get {P : Program} {w : World} {K : PySem.W.Frag} {mg : Str → Option Value} {base : Heap} (T : TX fa K mg isQ) (hd : ∃ fd, FunD K d37.name d37.qual d37.params d37.body d37.scope (d37.dvs K) (d37.kws K) (He.fAd K d37.at_) fd) (c_Shelf_source : Cal P w K mg base 3 ("Shelf", some "source") ["self", "query", "time"] (sp_Shelf_source K)) (c_best : Cal P w K mg base 4 ("best", none) ["rows", "query", "many"] (sp_best K)) :
    Cal P w K mg base 5 ("Shelf", some "get") ["self", "query", "many", "time"] (sp_Shelf_get K) :=
  cal_of (d := d37) (N := N_Shelf_get) (t := t_Shelf_get K) hd rfl rfl sc_Shelf_get len_Shelf_get (fun _ _ _ _ _ _ us hl => match us, hl with | [_, _, _, _], _ => rfl) (fun cdv A outer s H E hr => (pss_cons (ps_set (i := 4) sc_Shelf_get.nd rfl (Or.inr rfl) (pe_calM c_Shelf_source (T.cls 117) (T.meth 124) (hr.mono (by decide)) pxOf (pv 0) (pa_cons (pv 1) (pa_cons (pv 3) (pa_nil))))) (pss_cons (ps_if (pt_cmpR op_isN1 (pv 4) (pe_non) (nomark _)) (pss_one (ps_ret (pe_non))) (pss_nil)) (pss_cons (ps_fldC (T.cls 117) (T.noat 121) (pv 0) (pe_op op_cat (pe_lcL (own := [("other", 5)]) (g := gName 5) (tt := tTest (tOp (rNe) (tOp gIxT (tVar 5) (tC (.int 0))) (tOp gIxT (tVar 4) (tC (.int 0))))) (te := tVar 5) rfl sc_Shelf_get.nd (pe_fldC (T.cls 117) (T.noat 121) (pv 0) rfl) (blkOk_by (own := [("other", 5)]) (N := N_Shelf_get) (sc := defScope s_Shelf_get) (by decide +kernel)) (fun _ _ _ _ _ => pg_name (i := 5) sc_Shelf_get.nd rfl (Or.inl rfl)) (fun _ _ _ _ _ => pts_one (pt_cmpR op_ne (pe_ix ixT (pv 5) (pe_int) (fun _ _ => rfl)) (pe_ix ixT (pv 4) (pe_int) (fun _ _ => rfl)) (nomark _))) (fun _ _ _ _ _ => pv 5)) (pe_lst (pa_cons (pv 4) (pa_nil)))) rfl) (pss_one (ps_ret (pe_cal c_best (hr.mono (by decide)) (T.glo 5) pxOf (pa_cons (pe_ix ixT (pv 4) (pe_int) (fun _ _ => rfl)) (pa_cons (pv 1) (pa_cons (pv 2) (pa_nil))))))))))) pure_Shelf_get
abbrev N_Asker_show : List Str := ["self", "some"]
theorem sc_Asker_show : FnScope N_Asker_show ["self", "some"] (defScope s_Asker_show) := ⟨rfl, rfl, rfl, by decide +kernel, rfl, by decide +kernel, by decide +kernel⟩
theorem cal_Asker_show {P : Program} {w : World} {K : PySem.W.Frag} {mg : Str → Option Value} {base : Heap} (T : TX fa K mg isQ) (hd : ∃ fd, FunD K d20.name d20.qual d20.params d20.body d20.scope (d20.dvs K) (d20.kws K) (He.fAd K d20.at_) fd) (c_folded : Cal P w K mg base 2 ("folded", none) ["text"] (sp_folded K)) (c_Asker_drop_other : Cal P w K mg base 3 ("Asker", some "drop_other") ["self", "wanted"] (sp_Asker_drop_other K)) :
    Cal P w K mg base 4 ("Asker", some "show") ["self", "some"] (sp_Asker_show K) :=
  cal_of (d := d20) (N := N_Asker_show) (t := t_Asker_show K) hd rfl rfl sc_Asker_show len_Asker_show (fun _ _ _ _ _ _ us hl => match us, hl with | [_, _], _ => rfl) (fun cdv A outer s H E hr => (pss_cons (ps_fldC (T.cls 74) (T.noat 90) (pv 0) (pe_tup (pa_cons (pe_cal c_folded (hr.mono (by decide)) (T.glo 2) pxOf (pa_cons (pe_fldC (T.cls 74) (T.noat 84) (pv 0) rfl) (pa_nil))) (pa_cons (pv 1) (pa_cons (pe_bl) (pa_nil))))) rfl) (pss_cons (ps_fldC (T.cls 74) (T.noat 86) (pv 0) (pe_bl) rfl) (pss_one (ps_expr (pe_calM c_Asker_drop_other (T.cls 74) (T.meth 97) (hr.mono (by decide)) pxOf (pv 0) (pa_cons (pe_non) (pa_nil)))))))) pure_Asker_show
abbrev N_Asker_is_fresh : List Str := ["self"]
theorem sc_Asker_is_fresh : FnScope N_Asker_is_fresh ["self"] (defScope s_Asker_is_fresh) := ⟨rfl, rfl, rfl, by decide +kernel, rfl, by decide +kernel, by decide +kernel⟩
theorem cal_Asker_is_fresh {P : Program} {w : World} {K : PySem.W.Frag} {mg : Str → Option Value} {base : Heap} (T : TX fa K mg isQ) (hd : ∃ fd, FunD K d19.name d19.qual d19.params d19.body d19.scope (d19.dvs K) (d19.kws K) (He.fAd K d19.at_) fd) (c_folded : Cal P w K mg base 2 ("folded", none) ["text"] (sp_folded K)) :
    Cal P w K mg base 3 ("Asker", some "is_fresh") ["self"] (sp_Asker_is_fresh K) :=
  cal_of (d := d19) (N := N_Asker_is_fresh) (t := t_Asker_is_fresh K) hd rfl rfl sc_Asker_is_fresh len_Asker_is_fresh (fun _ _ _ _ _ _ us hl => match us, hl with | [_], _ => rfl) (fun cdv A outer s H E hr => (pss_one (ps_ret (pe_and (pe_cmpR op_eq (pe_ix ixT (pe_fldC (T.cls 74) (T.noat 90) (pv 0) rfl) (pe_int) (fun _ _ => rfl)) (pe_cal c_folded (hr.mono (by decide)) (T.glo 2) pxOf (pa_cons (pe_fldC (T.cls 74) (T.noat 84) (pv 0) rfl) (pa_nil))) (nomark _)) (pe_one (pe_not (pe_ix ixT (pe_fldC (T.cls 74) (T.noat 90) (pv 0) rfl) (pe_int) (fun _ _ => rfl)))))))) pure_Asker_is_fresh
abbrev N_Asker_look_near : List Str := ["self", "found", "some"]
theorem sc_Asker_look_near : FnScope N_Asker_look_near ["self"] (defScope s_Asker_look_near) := ⟨rfl, rfl, rfl, by decide +kernel, rfl, by decide +kernel, by decide +kernel⟩
theorem cal_Asker_look_near {P : Program} {w : World} {K : PySem.W.Frag} {mg : Str → Option Value} {base : Heap} (T : TX fa K mg isQ) (hd : ∃ fd, FunD K d18.name d18.qual d18.params d18.body d18.scope (d18.dvs K) (d18.kws K) (He.fAd K d18.at_) fd) (c_folded : Cal P w K mg base 2 ("folded", none) ["text"] (sp_folded K)) (c_Shelf_get : Cal P w K mg base 5 ("Shelf", some "get") ["self", "query", "many", "time"] (sp_Shelf_get K)) (c_Asker_show : Cal P w K mg base 4 ("Asker", some "show") ["self", "some"] (sp_Asker_show K)) (c_Asker_is_fresh : Cal P w K mg base 3 ("Asker", some "is_fresh") ["self"] (sp_Asker_is_fresh K)) (c_best : Cal P w K mg base 4 ("best", none) ["rows", "query", "many"] (sp_best K)) :
    Cal P w K mg base 6 ("Asker", some "look_near") ["self"] (sp_Asker_look_near K) :=
  cal_of (d := d18) (N := N_Asker_look_near) (t := t_Asker_look_near K) hd rfl rfl sc_Asker_look_near len_Asker_look_near (fun _ _ _ _ _ _ us hl => match us, hl with | [_], _ => rfl) (fun cdv A outer s H E hr => (pss_cons (ps_if (pt_cmpR op_eq (pe_cal c_folded (hr.mono (by decide)) (T.glo 2) pxOf (pa_cons (pe_fldC (T.cls 74) (T.noat 84) (pv 0) rfl) (pa_nil))) (pe_str) (nomark _)) (pss_cons (ps_fldC (T.cls 74) (T.noat 86) (pv 0) (pe_bl) rfl) (pss_cons (ps_fldC (T.cls 74) (T.noat 90) (pv 0) (pe_non) rfl) (pss_one (ps_retN)))) (pss_nil)) (pss_cons (ps_set (i := 1) sc_Asker_look_near.nd rfl (Or.inl rfl) (pe_calM c_Shelf_get (T.cls 117) (T.meth 125) (hr.mono (by decide)) pxOf (pe_fldC (T.cls 74) (T.noat 78) (pv 0) rfl) (pa_cons (pe_fldC (T.cls 74) (T.noat 84) (pv 0) rfl) (pa_cons (pe_fldC (T.cls 74) (T.noat 79) (pv 0) rfl) (pa_cons (pe_fldC (T.cls 74) (T.noat 83) (pv 0) rfl) (pa_nil)))))) (pss_one (ps_if (pt_cmpR op_notN1 (pv 1) (pe_non) (nomark _)) (pss_one (ps_expr (pe_calM c_Asker_show (T.cls 74) (T.meth 100) (hr.mono (by decide)) pxOf (pv 0) (pa_cons (pv 1) (pa_nil))))) (pss_one (ps_if (PW.pt (pw_and (pt_cmpR op_notN1 (pe_fldC (T.cls 74) (T.noat 90) (pv 0) rfl) (pe_non) (nomark _)) (pw_and1 (pt_not (pt_val (pe_calM0 c_Asker_is_fresh (T.cls 74) (T.meth 99) (hr.mono (by decide)) pxOf (pv 0))))))) (pss_cons (ps_set (i := 2) sc_Asker_look_near.nd rfl (Or.inl rfl) (pe_cal c_best (hr.mono (by decide)) (T.glo 5) pxOf (pa_cons (pe_ix ixT (pe_fldC (T.cls 74) (T.noat 90) (pv 0) rfl) (pe_int) (fun _ _ => rfl)) (pa_cons (pe_fldC (T.cls 74) (T.noat 84) (pv 0) rfl) (pa_cons (pe_fldC (T.cls 74) (T.noat 79) (pv 0) rfl) (pa_nil)))))) (pss_one (ps_fldC (T.cls 74) (T.noat 90) (pv 0) (pe_ifExp (pt_tru (pv 2)) (pe_tup (pa_cons (pe_ix ixT (pe_fldC (T.cls 74) (T.noat 90) (pv 0) rfl) (pe_int) (fun _ _ => rfl)) (pa_cons (pv 2) (pa_cons (pe_bl) (pa_nil))))) (pe_non)) rfl))) (pss_nil)))))))) pure_Asker_look_near
abbrev N_Road_send : List Str := ["self", "query", "time", "delay"]
theorem sc_Road_send : FnScope N_Road_send ["self", "query", "time"] (defScope s_Road_send) := ⟨rfl, rfl, rfl, by decide +kernel, rfl, by decide +kernel, by decide +kernel⟩
theorem cal_Road_send {P : Program} {w : World} {K : PySem.W.Frag} {mg : Str → Option Value} {base : Heap} (T : TX fa K mg isQ) (hd : ∃ fd, FunD K d30.name d30.qual d30.params d30.body d30.scope (d30.dvs K) (d30.kws K) (He.fAd K d30.at_) fd)  :
    Cal P w K mg base 1 ("Road", some "send") ["self", "query", "time"] (sp_Road_send K) :=
  cal_of (d := d30) (N := N_Road_send) (t := t_Road_send K) hd rfl rfl sc_Road_send len_Road_send (fun _ _ _ _ _ _ us hl => match us, hl with | [_, _, _], _ => rfl) (fun cdv A outer s H E hr => (pss_cons (ps_set (i := 3) sc_Road_send.nd rfl (Or.inl rfl) (pe_ix ixL (pe_fldC (T.cls 109) (T.noat 111) (pv 0) rfl) (pe_op op_mod (pe_fldC (T.cls 109) (T.noat 112) (pv 0) rfl) (pe_callB lenL (by rfl) (T.free 45) (by decide +kernel) (pa_cons (pe_fldC (T.cls 109) (T.noat 111) (pv 0) rfl) (pa_nil)))) (fun _ _ => rfl))) (pss_cons (ps_fldC (T.cls 109) (T.noat 112) (pv 0) (pe_op op_add (pe_fldC (T.cls 109) (T.noat 112) (pv 0) rfl) (pe_int)) rfl) (pss_cons (ps_if (pt_cmpR op_notN1 (pv 3) (pe_non) (nomark _)) (pss_one (ps_expr (pe_bmC PySem.F.plainAttrs_list PySem.F.slot_list_append PySem.F.type_list_append mt_append (pe_fldC (T.cls 109) (T.noat 113) (pv 0) rfl) (pa_cons (pe_tup (pa_cons (pe_op op_add (pv 2) (pv 3)) (pa_cons (pe_fldC (T.cls 109) (T.noat 112) (pv 0) rfl) (pa_cons (pv 1) (pa_nil))))) (pa_nil))))) (pss_nil)) (pss_one (ps_ret (pe_fldC (T.cls 109) (T.noat 112) (pv 0) rfl))))))) pure_Road_send
abbrev N_Asker_ask_if_due : List Str := ["self", "is_time", "number"]
theorem sc_Asker_ask_if_due : FnScope N_Asker_ask_if_due ["self"] (defScope s_Asker_ask_if_due) := ⟨rfl, rfl, rfl, by decide +kernel, rfl, by decide +kernel, by decide +kernel⟩
theorem cal_Asker_ask_if_due {P : Program} {w : World} {K : PySem.W.Frag} {mg : Str → Option Value} {base : Heap} (T : TX fa K mg isQ) (hd : ∃ fd, FunD K d21.name d21.qual d21.params d21.body d21.scope (d21.dvs K) (d21.kws K) (He.fAd K d21.at_) fd) (c_Road_send : Cal P w K mg base 1 ("Road", some "send") ["self", "query", "time"] (sp_Road_send K)) (c_folded : Cal P w K mg base 2 ("folded", none) ["text"] (sp_folded K)) :
    Cal P w K mg base 3 ("Asker", some "ask_if_due") ["self"] (sp_Asker_ask_if_due K) :=
  cal_of (d := d21) (N := N_Asker_ask_if_due) (t := t_Asker_ask_if_due K) hd rfl rfl sc_Asker_ask_if_due len_Asker_ask_if_due (fun _ _ _ _ _ _ us hl => match us, hl with | [_], _ => rfl) (fun cdv A outer s H E hr => (pss_cons (ps_set (i := 1) sc_Asker_ask_if_due.nd rfl (Or.inl rfl) (pe_cmpR op_ge (pe_op op_sub (pe_fldC (T.cls 74) (T.noat 83) (pv 0) rfl) (pe_fldC (T.cls 74) (T.noat 85) (pv 0) rfl)) (pe_fldC (T.cls 74) (T.noat 80) (pv 0) rfl) (nomark _))) (pss_one (ps_if (PW.pt (pw_and (pt_val (pe_fldC (T.cls 74) (T.noat 86) (pv 0) rfl)) (pw_and (pt_val (pv 1)) (pw_and1 (pt_cmpR op_lt (pe_callB lenI (by rfl) (T.free 45) (by decide +kernel) (pa_cons (pe_fldC (T.cls 74) (T.noat 89) (pv 0) rfl) (pa_nil))) (pe_fldC (T.cls 74) (T.noat 81) (pv 0) rfl) (nomark _)))))) (pss_cons (ps_fldC (T.cls 74) (T.noat 86) (pv 0) (pe_bl) rfl) (pss_cons (ps_fldC (T.cls 74) (T.noat 87) (pv 0) (pe_op op_add (pe_fldC (T.cls 74) (T.noat 87) (pv 0) rfl) (pe_int)) rfl) (pss_cons (ps_set (i := 2) sc_Asker_ask_if_due.nd rfl (Or.inl rfl) (pe_calM c_Road_send (T.cls 109) (T.meth 114) (hr.mono (by decide)) pxOf (pe_fldC (T.cls 74) (T.noat 77) (pv 0) rfl) (pa_cons (pe_fldC (T.cls 74) (T.noat 84) (pv 0) rfl) (pa_cons (pe_fldC (T.cls 74) (T.noat 83) (pv 0) rfl) (pa_nil))))) (pss_cons (ps_putI hr.units (pe_fldC (T.cls 74) (T.noat 88) (pv 0) rfl) (pv 2) (pe_fldC (T.cls 74) (T.noat 84) (pv 0) rfl) rfl) (pss_cons (ps_putI hr.units (pe_fldC (T.cls 74) (T.noat 89) (pv 0) rfl) (pv 2) (pe_fldC (T.cls 74) (T.noat 83) (pv 0) rfl) rfl) (pss_one (ps_expr (pe_bmC PySem.F.plainAttrs_list PySem.F.slot_list_append PySem.F.type_list_append mt_append (pe_fldC (T.cls 74) (T.noat 91) (pv 0) rfl) (pa_cons (pe_tup (pa_cons (pe_str) (pa_cons (pv 2) (pa_cons (pe_cal c_folded (hr.mono (by decide)) (T.glo 2) pxOf (pa_cons (pe_fldC (T.cls 74) (T.noat 84) (pv 0) rfl) (pa_nil))) (pa_nil))))) (pa_nil)))))))))) (pss_nil))))) pure_Asker_ask_if_due
abbrev N_Asker_put : List Str := ["self", "text"]
theorem sc_Asker_put : FnScope N_Asker_put ["self", "text"] (defScope s_Asker_put) := ⟨rfl, rfl, rfl, by decide +kernel, rfl, by decide +kernel, by decide +kernel⟩
theorem cal_Asker_put {P : Program} {w : World} {K : PySem.W.Frag} {mg : Str → Option Value} {base : Heap} (T : TX fa K mg isQ) (hd : ∃ fd, FunD K d14.name d14.qual d14.params d14.body d14.scope (d14.dvs K) (d14.kws K) (He.fAd K d14.at_) fd) (c_look_text : Cal P w K mg base 1 ("look_text", none) ["text", "most"] (sp_look_text K)) (c_folded : Cal P w K mg base 2 ("folded", none) ["text"] (sp_folded K)) (c_Asker_drop_other : Cal P w K mg base 3 ("Asker", some "drop_other") ["self", "wanted"] (sp_Asker_drop_other K)) (c_Asker_look_near : Cal P w K mg base 6 ("Asker", some "look_near") ["self"] (sp_Asker_look_near K)) (c_Asker_ask_if_due : Cal P w K mg base 3 ("Asker", some "ask_if_due") ["self"] (sp_Asker_ask_if_due K)) :
    Cal P w K mg base 7 ("Asker", some "put") ["self", "text"] (sp_Asker_put K) :=
  cal_of (d := d14) (N := N_Asker_put) (t := t_Asker_put K) hd rfl rfl sc_Asker_put len_Asker_put (fun _ _ _ _ _ _ us hl => match us, hl with | [_, _], _ => rfl) (fun cdv A outer s H E hr => (pss_cons (ps_expr (pe_cal c_look_text (hr.mono (by decide)) (T.glo 1) pxOf (pa_cons (pv 1) (pa_cons (pe_cI (T.int 51)) (pa_nil))))) (pss_cons (ps_if (pt_cmpR op_ne (pe_cal c_folded (hr.mono (by decide)) (T.glo 2) pxOf (pa_cons (pv 1) (pa_nil))) (pe_cal c_folded (hr.mono (by decide)) (T.glo 2) pxOf (pa_cons (pe_fldC (T.cls 74) (T.noat 84) (pv 0) rfl) (pa_nil))) (nomark _)) (pss_cons (ps_expr (pe_calM c_Asker_drop_other (T.cls 74) (T.meth 97) (hr.mono (by decide)) pxOf (pv 0) (pa_cons (pe_cal c_folded (hr.mono (by decide)) (T.glo 2) pxOf (pa_cons (pv 1) (pa_nil))) (pa_nil)))) (pss_cons (ps_fldC (T.cls 74) (T.noat 85) (pv 0) (pe_fldC (T.cls 74) (T.noat 83) (pv 0) rfl) rfl) (pss_cons (ps_fldC (T.cls 74) (T.noat 86) (pv 0) (pe_cmpR op_ne (pe_cal c_folded (hr.mono (by decide)) (T.glo 2) pxOf (pa_cons (pv 1) (pa_nil))) (pe_str) (nomark _)) rfl) (pss_one (ps_fldC (T.cls 74) (T.noat 87) (pv 0) (pe_int) rfl))))) (pss_nil)) (pss_cons (ps_fldC (T.cls 74) (T.noat 84) (pv 0) (pv 1) rfl) (pss_cons (ps_expr (pe_calM0 c_Asker_look_near (T.cls 74) (T.meth 98) (hr.mono (by decide)) pxOf (pv 0))) (pss_one (ps_expr (pe_calM0 c_Asker_ask_if_due (T.cls 74) (T.meth 101) (hr.mono (by decide)) pxOf (pv 0))))))))) pure_Asker_put
abbrev N_Asker_key : List Str := ["self", "sign"]
theorem sc_Asker_key : FnScope N_Asker_key ["self", "sign"] (defScope s_Asker_key) := ⟨rfl, rfl, rfl, by decide +kernel, rfl, by decide +kernel, by decide +kernel⟩
theorem cal_Asker_key {P : Program} {w : World} {K : PySem.W.Frag} {mg : Str → Option Value} {base : Heap} (T : TX fa K mg isQ) (hd : ∃ fd, FunD K d15.name d15.qual d15.params d15.body d15.scope (d15.dvs K) (d15.kws K) (He.fAd K d15.at_) fd) (c_Asker_put : Cal P w K mg base 7 ("Asker", some "put") ["self", "text"] (sp_Asker_put K)) :
    Cal P w K mg base 8 ("Asker", some "key") ["self", "sign"] (sp_Asker_key K) :=
  cal_of (d := d15) (N := N_Asker_key) (t := t_Asker_key K) hd rfl rfl sc_Asker_key len_Asker_key (fun _ _ _ _ _ _ us hl => match us, hl with | [_, _], _ => rfl) (fun cdv A outer s H E hr => (pss_one (ps_expr (pe_calM c_Asker_put (T.cls 74) (T.meth 94) (hr.mono (by decide)) pxOf (pv 0) (pa_cons (pe_op catS (pe_fldC (T.cls 74) (T.noat 84) (pv 0) rfl) (pv 1)) (pa_nil)))))) pure_Asker_key
abbrev N_Road_due : List Str := ["self", "time", "found", "one", "when", "number", "query"]
theorem sc_Road_due : FnScope N_Road_due ["self", "time"] (defScope s_Road_due) := ⟨rfl, rfl, rfl, by decide +kernel, rfl, by decide +kernel, by decide +kernel⟩
theorem cal_Road_due {P : Program} {w : World} {K : PySem.W.Frag} {mg : Str → Option Value} {base : Heap} (T : TX fa K mg isQ) (hd : ∃ fd, FunD K d31.name d31.qual d31.params d31.body d31.scope (d31.dvs K) (d31.kws K) (He.fAd K d31.at_) fd)  :
    Cal P w K mg base 1 ("Road", some "due") ["self", "time"] (sp_Road_due K) :=
  cal_of (d := d31) (N := N_Road_due) (t := t_Road_due K) hd rfl rfl sc_Road_due len_Road_due (fun _ _ _ _ _ _ us hl => match us, hl with | [_, _], _ => rfl) (fun cdv A outer s H E hr => (pss_cons (ps_set (i := 2) sc_Road_due.nd rfl (Or.inl rfl) (pe_callB (sortD hr.units) (by rfl) (T.free 50) (by decide +kernel) (pa_cons (pe_lcL (own := [("one", 3)]) (g := gName 3) (tt := tTest (tOp (rI0 fun i j => .bl (decide (i ≤ j))) (tOp gIxT (tVar 3) (tC (.int 0))) (tVar 1))) (te := tVar 3) rfl sc_Road_due.nd (pe_fldC (T.cls 109) (T.noat 113) (pv 0) rfl) (blkOk_by (own := [("one", 3)]) (N := N_Road_due) (sc := defScope s_Road_due) (by decide +kernel)) (fun _ _ _ _ _ => pg_name (i := 3) sc_Road_due.nd rfl (Or.inl rfl)) (fun _ _ _ _ _ => pts_one (pt_cmpR op_le (pe_ix ixT (pv 3) (pe_int) (fun _ _ => rfl)) (pv 1) (nomark _))) (fun _ _ _ _ _ => pv 3)) (pa_nil)))) (pss_cons (ps_fldC (T.cls 109) (T.noat 113) (pv 0) (pe_lcL (own := [("one", 3)]) (g := gName 3) (tt := tTest (tOp (rI0 fun i j => .bl (decide (j < i))) (tOp gIxT (tVar 3) (tC (.int 0))) (tVar 1))) (te := tVar 3) rfl sc_Road_due.nd (pe_fldC (T.cls 109) (T.noat 113) (pv 0) rfl) (blkOk_by (own := [("one", 3)]) (N := N_Road_due) (sc := defScope s_Road_due) (by decide +kernel)) (fun _ _ _ _ _ => pg_name (i := 3) sc_Road_due.nd rfl (Or.inl rfl)) (fun _ _ _ _ _ => pts_one (pt_cmpR op_gt (pe_ix ixT (pv 3) (pe_int) (fun _ _ => rfl)) (pv 1) (nomark _))) (fun _ _ _ _ _ => pv 3)) rfl) (pss_one (ps_ret (pe_lcL (own := [("when", 4), ("number", 5), ("query", 6)]) (g := fTup 3 (gCons (gName 4) (gCons (gName 5) (gCons (gName 6) (gNil))))) (tt := tYes) (te := tTup (tCons (tVar 5) (tCons (tVar 6) (tNil)))) rfl sc_Road_due.nd (pv 2) (blkOk_by (own := [("when", 4), ("number", 5), ("query", 6)]) (N := N_Road_due) (sc := defScope s_Road_due) (by decide +kernel)) (fun _ _ _ _ _ => pg_tupC rfl (pgs_cons (pg_name (i := 4) sc_Road_due.nd rfl (Or.inl rfl)) (pgs_cons (pg_name (i := 5) sc_Road_due.nd rfl (Or.inl rfl)) (pgs_cons (pg_name (i := 6) sc_Road_due.nd rfl (Or.inl rfl)) (pgs_nil))))) (fun _ _ _ _ _ => pts_nil) (fun _ _ _ _ _ => pe_tup (pa_cons (pv 5) (pa_cons (pv 6) (pa_nil)))))))))) pure_Road_due
abbrev N_Store_answer : List Str := ["self", "query", "many", "some"]
theorem sc_Store_answer : FnScope N_Store_answer ["self", "query", "many"] (defScope s_Store_answer) := ⟨rfl, rfl, rfl, by decide +kernel, rfl, by decide +kernel, by decide +kernel⟩
theorem cal_Store_answer {P : Program} {w : World} {K : PySem.W.Frag} {mg : Str → Option Value} {base : Heap} (T : TX fa K mg isQ) (hd : ∃ fd, FunD K d10.name d10.qual d10.params d10.body d10.scope (d10.dvs K) (d10.kws K) (He.fAd K d10.at_) fd) (c_look_many : Cal P w K mg base 1 ("look_many", none) ["many"] (sp_look_many K)) (c_look_text : Cal P w K mg base 1 ("look_text", none) ["text", "most"] (sp_look_text K)) (c_best : Cal P w K mg base 4 ("best", none) ["rows", "query", "many"] (sp_best K)) :
    Cal P w K mg base 5 ("Store", some "answer") ["self", "query", "many"] (sp_Store_answer K) :=
  cal_of (d := d10) (N := N_Store_answer) (t := t_Store_answer K) hd rfl rfl sc_Store_answer len_Store_answer (fun _ _ _ _ _ _ us hl => match us, hl with | [_, _, _], _ => rfl) (fun cdv A outer s H E hr => (pss_cons (ps_expr (pe_cal c_look_many (hr.mono (by decide)) (T.glo 4) pxOf (pa_cons (pv 2) (pa_nil)))) (pss_cons (ps_expr (pe_cal c_look_text (hr.mono (by decide)) (T.glo 1) pxOf (pa_cons (pv 1) (pa_cons (pe_cI (T.int 51)) (pa_nil))))) (pss_cons (ps_set (i := 3) sc_Store_answer.nd rfl (Or.inl rfl) (pe_cal c_best (hr.mono (by decide)) (T.glo 5) pxOf (pa_cons (pe_fldC (T.cls 67) (T.noat 69) (pv 0) rfl) (pa_cons (pv 1) (pa_cons (pe_callB lenL (by rfl) (T.free 45) (by decide +kernel) (pa_cons (pe_fldC (T.cls 67) (T.noat 69) (pv 0) rfl) (pa_nil))) (pa_nil)))))) (pss_one (ps_ret (pe_tup (pa_cons (pe_slice slL (pv 3) (po_none) (po_some (pv 2))) (pa_cons (pe_cmpR op_le (pe_callB lenL (by rfl) (T.free 45) (by decide +kernel) (pa_cons (pv 3) (pa_nil))) (pv 2) (nomark _)) (pa_nil)))))))))) pure_Store_answer
abbrev N_Shelf_put : List Str := ["self", "query", "rows", "is_all", "time", "key", "one"]
theorem sc_Shelf_put : FnScope N_Shelf_put ["self", "query", "rows", "is_all", "time"] (defScope s_Shelf_put) := ⟨rfl, rfl, rfl, by decide +kernel, rfl, by decide +kernel, by decide +kernel⟩
theorem cal_Shelf_put {P : Program} {w : World} {K : PySem.W.Frag} {mg : Str → Option Value} {base : Heap} (T : TX fa K mg isQ) (hd : ∃ fd, FunD K d34.name d34.qual d34.params d34.body d34.scope (d34.dvs K) (d34.kws K) (He.fAd K d34.at_) fd) (c_folded : Cal P w K mg base 2 ("folded", none) ["text"] (sp_folded K)) :
    Cal P w K mg base 3 ("Shelf", some "put") ["self", "query", "rows", "is_all", "time"] (sp_Shelf_put K) :=
  cal_of (d := d34) (N := N_Shelf_put) (t := t_Shelf_put K) hd rfl rfl sc_Shelf_put len_Shelf_put (fun _ _ _ _ _ _ us hl => match us, hl with | [_, _, _, _, _], _ => rfl) (fun cdv A outer s H E hr => (pss_cons (ps_set (i := 5) sc_Shelf_put.nd rfl (Or.inr rfl) (pe_cal c_folded (hr.mono (by decide)) (T.glo 2) pxOf (pa_cons (pv 1) (pa_nil)))) (pss_cons (ps_fldC (T.cls 117) (T.noat 121) (pv 0) (pe_op op_cat (pe_lcL (own := [("one", 6)]) (g := gName 6) (tt := tTest (tOp (rNe) (tOp gIxT (tVar 6) (tC (.int 0))) (tVar 5))) (te := tVar 6) rfl sc_Shelf_put.nd (pe_fldC (T.cls 117) (T.noat 121) (pv 0) rfl) (blkOk_by (own := [("one", 6)]) (N := N_Shelf_put) (sc := defScope s_Shelf_put) (by decide +kernel)) (fun _ _ _ _ _ => pg_name (i := 6) sc_Shelf_put.nd rfl (Or.inl rfl)) (fun _ _ _ _ _ => pts_one (pt_cmpR op_ne (pe_ix ixT (pv 6) (pe_int) (fun _ _ => rfl)) (pv 5) (nomark _))) (fun _ _ _ _ _ => pv 6)) (pe_lst (pa_cons (pe_tup (pa_cons (pv 5) (pa_cons (pe_callTy listL (by rfl) (T.free 46) (by decide +kernel) (pa_cons (pv 2) (pa_nil))) (pa_cons (pv 3) (pa_cons (pv 4) (pa_nil)))))) (pa_nil)))) rfl) (pss_one (ps_fldC (T.cls 117) (T.noat 121) (pv 0) (pe_slice slL (pe_fldC (T.cls 117) (T.noat 121) (pv 0) rfl) (po_some (pe_callB (max2 rfl) (by rfl) (T.free 47) (by decide +kernel) (pa_cons (pe_int) (pa_cons (pe_op op_sub (pe_callB lenL (by rfl) (T.free 45) (by decide +kernel) (pa_cons (pe_fldC (T.cls 117) (T.noat 121) (pv 0) rfl) (pa_nil))) (pe_fldC (T.cls 117) (T.noat 119) (pv 0) rfl)) (pa_nil))))) (po_none)) rfl))))) pure_Shelf_put
abbrev N_Asker_try_again : List Str := ["self", "number"]
theorem sc_Asker_try_again : FnScope N_Asker_try_again ["self"] (defScope s_Asker_try_again) := ⟨rfl, rfl, rfl, by decide +kernel, rfl, by decide +kernel, by decide +kernel⟩
theorem cal_Asker_try_again {P : Program} {w : World} {K : PySem.W.Frag} {mg : Str → Option Value} {base : Heap} (T : TX fa K mg isQ) (hd : ∃ fd, FunD K d23.name d23.qual d23.params d23.body d23.scope (d23.dvs K) (d23.kws K) (He.fAd K d23.at_) fd)  :
    Cal P w K mg base 1 ("Asker", some "try_again") ["self"] (sp_Asker_try_again K) :=
  cal_of (d := d23) (N := N_Asker_try_again) (t := t_Asker_try_again K) hd rfl rfl sc_Asker_try_again len_Asker_try_again (fun _ _ _ _ _ _ us hl => match us, hl with | [_], _ => rfl) (fun cdv A outer s H E hr => (pss_one (ps_forL poOf rfl (pe_callB (sortK rfl hr.units) (by rfl) (T.free 50) (by decide +kernel) (pa_cons (pe_bm0C PySem.F.plainAttrs_dict PySem.F.slot_dict_keys PySem.F.type_dict_keys mtKeys (pe_fldC (T.cls 74) (T.noat 89) (pv 0) rfl)) (pa_nil))) (pg_name (i := 1) sc_Asker_try_again.nd rfl (Or.inl rfl)) (pss_one (ps_if (pt_cmpR op_ge (pe_op op_sub (pe_fldC (T.cls 74) (T.noat 83) (pv 0) rfl) (pe_getI hr.units (pe_fldC (T.cls 74) (T.noat 89) (pv 0) rfl) (pv 1) (fun _ _ => rfl))) (pe_fldC (T.cls 74) (T.noat 82) (pv 0) rfl) (nomark _)) (pss_cons (ps_expr (pe_bmC PySem.F.plainAttrs_dict PySem.F.slot_dict_pop PySem.F.type_dict_pop mtPop1 (pe_fldC (T.cls 74) (T.noat 89) (pv 0) rfl) (pa_cons (pv 1) (pa_nil)))) (pss_one (ps_if (pt_cmpR (inI hr.units) (pv 1) (pe_fldC (T.cls 74) (T.noat 88) (pv 0) rfl) (by rfl)) (pss_cons (ps_expr (pe_bmC PySem.F.plainAttrs_dict PySem.F.slot_dict_pop PySem.F.type_dict_pop mtPop1 (pe_fldC (T.cls 74) (T.noat 88) (pv 0) rfl) (pa_cons (pv 1) (pa_nil)))) (pss_cons (ps_expr (pe_bmC PySem.F.plainAttrs_list PySem.F.slot_list_append PySem.F.type_list_append mt_append (pe_fldC (T.cls 74) (T.noat 91) (pv 0) rfl) (pa_cons (pe_tup (pa_cons (pe_str) (pa_cons (pv 1) (pa_nil)))) (pa_nil)))) (pss_one (ps_fldC (T.cls 74) (T.noat 86) (pv 0) (pe_cmpR op_lt (pe_fldC (T.cls 74) (T.noat 87) (pv 0) rfl) (pe_cI (T.int 59)) (nomark _)) rfl)))) (pss_nil)))) (pss_nil)))))) pure_Asker_try_again
abbrev N_Asker_step : List Str := ["self", "number", "query", "some", "is_all"]
theorem sc_Asker_step : FnScope N_Asker_step ["self"] (defScope s_Asker_step) := ⟨rfl, rfl, rfl, by decide +kernel, rfl, by decide +kernel, by decide +kernel⟩
theorem cal_Asker_step {P : Program} {w : World} {K : PySem.W.Frag} {mg : Str → Option Value} {base : Heap} (T : TX fa K mg isQ) (hd : ∃ fd, FunD K d22.name d22.qual d22.params d22.body d22.scope (d22.dvs K) (d22.kws K) (He.fAd K d22.at_) fd) (c_Road_due : Cal P w K mg base 1 ("Road", some "due") ["self", "time"] (sp_Road_due K)) (c_Store_answer : Cal P w K mg base 5 ("Store", some "answer") ["self", "query", "many"] (sp_Store_answer K)) (c_Shelf_put : Cal P w K mg base 3 ("Shelf", some "put") ["self", "query", "rows", "is_all", "time"] (sp_Shelf_put K)) (c_Asker_show : Cal P w K mg base 4 ("Asker", some "show") ["self", "some"] (sp_Asker_show K)) (c_Asker_look_near : Cal P w K mg base 6 ("Asker", some "look_near") ["self"] (sp_Asker_look_near K)) (c_Asker_try_again : Cal P w K mg base 1 ("Asker", some "try_again") ["self"] (sp_Asker_try_again K)) (c_Asker_ask_if_due : Cal P w K mg base 3 ("Asker", some "ask_if_due") ["self"] (sp_Asker_ask_if_due K)) :
    Cal P w K mg base 7 ("Asker", some "step") ["self"] (sp_Asker_step K) :=
  cal_of (d := d22) (N := N_Asker_step) (t := t_Asker_step K) hd rfl rfl sc_Asker_step len_Asker_step (fun _ _ _ _ _ _ us hl => match us, hl with | [_], _ => rfl) (fun cdv A outer s H E hr => (pss_cons (ps_fldC (T.cls 74) (T.noat 83) (pv 0) (pe_op op_add (pe_fldC (T.cls 74) (T.noat 83) (pv 0) rfl) (pe_int)) rfl) (pss_cons (ps_forL poOf rfl (pe_calM c_Road_due (T.cls 109) (T.meth 115) (hr.mono (by decide)) pxOf (pe_fldC (T.cls 74) (T.noat 77) (pv 0) rfl) (pa_cons (pe_fldC (T.cls 74) (T.noat 83) (pv 0) rfl) (pa_nil))) (pg_tupC rfl (pgs_cons (pg_name (i := 1) sc_Asker_step.nd rfl (Or.inl rfl)) (pgs_cons (pg_name (i := 2) sc_Asker_step.nd rfl (Or.inl rfl)) (pgs_nil)))) (pss_cons (ps_asg (pe_calM c_Store_answer (T.cls 67) (T.meth 73) (hr.mono (by decide)) pxOf (pe_fldC (T.cls 74) (T.noat 76) (pv 0) rfl) (pa_cons (pv 2) (pa_cons (pe_fldC (T.cls 74) (T.noat 79) (pv 0) rfl) (pa_nil)))) (pg_tupC rfl (pgs_cons (pg_name (i := 3) sc_Asker_step.nd rfl (Or.inl rfl)) (pgs_cons (pg_name (i := 4) sc_Asker_step.nd rfl (Or.inl rfl)) (pgs_nil))))) (pss_cons (ps_expr (pe_bmC PySem.F.plainAttrs_dict PySem.F.slot_dict_pop PySem.F.type_dict_pop mtPop2 (pe_fldC (T.cls 74) (T.noat 89) (pv 0) rfl) (pa_cons (pv 1) (pa_cons (pe_non) (pa_nil))))) (pss_cons (ps_expr (pe_calM c_Shelf_put (T.cls 117) (T.meth 122) (hr.mono (by decide)) pxOf (pe_fldC (T.cls 74) (T.noat 78) (pv 0) rfl) (pa_cons (pv 2) (pa_cons (pv 3) (pa_cons (pv 4) (pa_cons (pe_fldC (T.cls 74) (T.noat 83) (pv 0) rfl) (pa_nil))))))) (pss_one (ps_if (pt_cmpR (inI hr.units) (pv 1) (pe_fldC (T.cls 74) (T.noat 88) (pv 0) rfl) (by rfl)) (pss_cons (ps_expr (pe_bmC PySem.F.plainAttrs_dict PySem.F.slot_dict_pop PySem.F.type_dict_pop mtPop1 (pe_fldC (T.cls 74) (T.noat 88) (pv 0) rfl) (pa_cons (pv 1) (pa_nil)))) (pss_cons (ps_expr (pe_bmC PySem.F.plainAttrs_list PySem.F.slot_list_append PySem.F.type_list_append mt_append (pe_fldC (T.cls 74) (T.noat 91) (pv 0) rfl) (pa_cons (pe_tup (pa_cons (pe_str) (pa_cons (pv 1) (pa_nil)))) (pa_nil)))) (pss_one (ps_expr (pe_calM c_Asker_show (T.cls 74) (T.meth 100) (hr.mono (by decide)) pxOf (pv 0) (pa_cons (pv 3) (pa_nil))))))) (pss_cons (ps_expr (pe_bmC PySem.F.plainAttrs_list PySem.F.slot_list_append PySem.F.type_list_append mt_append (pe_fldC (T.cls 74) (T.noat 91) (pv 0) rfl) (pa_cons (pe_tup (pa_cons (pe_str) (pa_cons (pv 1) (pa_nil)))) (pa_nil)))) (pss_one (ps_expr (pe_calM0 c_Asker_look_near (T.cls 74) (T.meth 98) (hr.mono (by decide)) pxOf (pv 0))))))))))) (pss_cons (ps_expr (pe_calM0 c_Asker_try_again (T.cls 74) (T.meth 103) (hr.mono (by decide)) pxOf (pv 0))) (pss_one (ps_expr (pe_calM0 c_Asker_ask_if_due (T.cls 74) (T.meth 101) (hr.mono (by decide)) pxOf (pv 0)))))))) pure_Asker_step
abbrev N_Asker_tick : List Str := ["self", "many", "k"]
theorem sc_Asker_tick : FnScope N_Asker_tick ["self", "many"] (defScope s_Asker_tick) := ⟨rfl, rfl, rfl, by decide +kernel, rfl, by decide +kernel, by decide +kernel⟩
theorem cal_Asker_tick {P : Program} {w : World} {K : PySem.W.Frag} {mg : Str → Option Value} {base : Heap} (T : TX fa K mg isQ) (hd : ∃ fd, FunD K d24.name d24.qual d24.params d24.body d24.scope (d24.dvs K) (d24.kws K) (He.fAd K d24.at_) fd) (c_Asker_step : Cal P w K mg base 7 ("Asker", some "step") ["self"] (sp_Asker_step K)) :
    Cal P w K mg base 8 ("Asker", some "tick") ["self", "many"] (sp_Asker_tick K) :=
  cal_of (d := d24) (N := N_Asker_tick) (t := t_Asker_tick K) hd rfl rfl sc_Asker_tick len_Asker_tick (fun _ _ _ _ _ _ us hl => match us, hl with | [_, _], _ => rfl) (fun cdv A outer s H E hr => (pss_cons (ps_if (pt_not (pt_chain op_le op_le (pe_int) (pv 1) (pe_cI (T.int 58)))) (pss_one (ps_raiseC rfl tkOf (T.exc 65) (T.glo 35))) (pss_nil)) (pss_one (ps_forR1 poOf rfl rfl (T.free 49) (pa_cons (pv 1) (pa_nil)) (pg_name (i := 2) sc_Asker_tick.nd rfl (Or.inl rfl)) (pss_one (ps_expr (pe_calM0 c_Asker_step (T.cls 74) (T.meth 102) (hr.mono (by decide)) pxOf (pv 0)))))))) pure_Asker_tick
abbrev N_Asker_rub : List Str := ["self"]
theorem sc_Asker_rub : FnScope N_Asker_rub ["self"] (defScope s_Asker_rub) := ⟨rfl, rfl, rfl, by decide +kernel, rfl, by decide +kernel, by decide +kernel⟩
theorem cal_Asker_rub {P : Program} {w : World} {K : PySem.W.Frag} {mg : Str → Option Value} {base : Heap} (T : TX fa K mg isQ) (hd : ∃ fd, FunD K d16.name d16.qual d16.params d16.body d16.scope (d16.dvs K) (d16.kws K) (He.fAd K d16.at_) fd) (c_Asker_put : Cal P w K mg base 7 ("Asker", some "put") ["self", "text"] (sp_Asker_put K)) :
    Cal P w K mg base 8 ("Asker", some "rub") ["self"] (sp_Asker_rub K) :=
  cal_of (d := d16) (N := N_Asker_rub) (t := t_Asker_rub K) hd rfl rfl sc_Asker_rub len_Asker_rub (fun _ _ _ _ _ _ us hl => match us, hl with | [_], _ => rfl) (fun cdv A outer s H E hr => (pss_one (ps_expr (pe_calM c_Asker_put (T.cls 74) (T.meth 94) (hr.mono (by decide)) pxOf (pv 0) (pa_cons (pe_slice sl_str (pe_fldC (T.cls 74) (T.noat 84) (pv 0) rfl) (po_none) (po_some (pe_un un_neg (pe_int)))) (pa_nil)))))) pure_Asker_rub
abbrev N_Shelf_clear : List Str := ["self"]
theorem sc_Shelf_clear : FnScope N_Shelf_clear ["self"] (defScope s_Shelf_clear) := ⟨rfl, rfl, rfl, by decide +kernel, rfl, by decide +kernel, by decide +kernel⟩
theorem cal_Shelf_clear {P : Program} {w : World} {K : PySem.W.Frag} {mg : Str → Option Value} {base : Heap} (T : TX fa K mg isQ) (hd : ∃ fd, FunD K d38.name d38.qual d38.params d38.body d38.scope (d38.dvs K) (d38.kws K) (He.fAd K d38.at_) fd)  :
    Cal P w K mg base 1 ("Shelf", some "clear") ["self"] (sp_Shelf_clear K) :=
  cal_of (d := d38) (N := N_Shelf_clear) (t := t_Shelf_clear K) hd rfl rfl sc_Shelf_clear len_Shelf_clear (fun _ _ _ _ _ _ us hl => match us, hl with | [_], _ => rfl) (fun cdv A outer s H E hr => (pss_one (ps_fldC (T.cls 117) (T.noat 121) (pv 0) (pe_lst (pa_nil)) rfl))) pure_Shelf_clear
abbrev N_Asker_again : List Str := ["self"]
theorem sc_Asker_again : FnScope N_Asker_again ["self"] (defScope s_Asker_again) := ⟨rfl, rfl, rfl, by decide +kernel, rfl, by decide +kernel, by decide +kernel⟩
theorem cal_Asker_again {P : Program} {w : World} {K : PySem.W.Frag} {mg : Str → Option Value} {base : Heap} (T : TX fa K mg isQ) (hd : ∃ fd, FunD K d25.name d25.qual d25.params d25.body d25.scope (d25.dvs K) (d25.kws K) (He.fAd K d25.at_) fd) (c_folded : Cal P w K mg base 2 ("folded", none) ["text"] (sp_folded K)) (c_Shelf_clear : Cal P w K mg base 1 ("Shelf", some "clear") ["self"] (sp_Shelf_clear K)) (c_Asker_ask_if_due : Cal P w K mg base 3 ("Asker", some "ask_if_due") ["self"] (sp_Asker_ask_if_due K)) :
    Cal P w K mg base 4 ("Asker", some "again") ["self"] (sp_Asker_again K) :=
  cal_of (d := d25) (N := N_Asker_again) (t := t_Asker_again K) hd rfl rfl sc_Asker_again len_Asker_again (fun _ _ _ _ _ _ us hl => match us, hl with | [_], _ => rfl) (fun cdv A outer s H E hr => (pss_cons (ps_if (PW.pt (pw_or (pt_cmpR op_eq (pe_cal c_folded (hr.mono (by decide)) (T.glo 2) pxOf (pa_cons (pe_fldC (T.cls 74) (T.noat 84) (pv 0) rfl) (pa_nil))) (pe_str) (nomark _)) (pw_or1 (pt_tru (pe_fldC (T.cls 74) (T.noat 88) (pv 0) rfl))))) (pss_one (ps_raiseC rfl tkOf (T.exc 66) (T.glo 36))) (pss_nil)) (pss_cons (ps_expr (pe_calM0 c_Shelf_clear (T.cls 117) (T.meth 126) (hr.mono (by decide)) pxOf (pe_fldC (T.cls 74) (T.noat 78) (pv 0) rfl))) (pss_cons (ps_fldC (T.cls 74) (T.noat 86) (pv 0) (pe_bl) rfl) (pss_cons (ps_fldC (T.cls 74) (T.noat 87) (pv 0) (pe_int) rfl) (pss_cons (ps_fldC (T.cls 74) (T.noat 85) (pv 0) (pe_op op_sub (pe_fldC (T.cls 74) (T.noat 83) (pv 0) rfl) (pe_fldC (T.cls 74) (T.noat 80) (pv 0) rfl)) rfl) (pss_one (ps_expr (pe_calM0 c_Asker_ask_if_due (T.cls 74) (T.meth 101) (hr.mono (by decide)) pxOf (pv 0)))))))))) pure_Asker_again
abbrev N__law_refusal : List Str := ["held", "kinds"]
theorem sc__law_refusal : FnScope N__law_refusal ["held"] (defScope s__law_refusal) := ⟨rfl, rfl, rfl, by decide +kernel, rfl, by decide +kernel, by decide +kernel⟩
theorem cal__law_refusal {P : Program} {w : World} {K : PySem.W.Frag} {mg : Str → Option Value} {base : Heap} (T : TX fa K mg isQ) (hd : ∃ fd, FunD K d43.name d43.qual d43.params d43.body d43.scope (d43.dvs K) (d43.kws K) (He.fAd K d43.at_) fd)  :
    Cal P w K mg base 1 ("_law_refusal", none) ["held"] (sp__law_refusal K) :=
  cal_of (d := d43) (N := N__law_refusal) (t := t__law_refusal K) hd rfl rfl sc__law_refusal len__law_refusal (fun _ _ _ _ _ _ us hl => match us, hl with | [_], _ => rfl) (fun cdv A outer s H E hr => (pss_cons (ps_if (pt_cmpR op_isN1 (pv 0) (pe_non) (nomark _)) (pss_one (ps_ret (pe_tup (pa_cons (pe_str) (pa_nil))))) (pss_nil)) (pss_cons (ps_set (i := 1) sc__law_refusal.nd rfl (Or.inl rfl) (pe_lst (pa_cons (pe_is T.is (by decide) (T.free 44) (T.glo 34) (pv 0)) (pa_cons (pe_is T.is (by decide) (T.free 44) (T.glo 35) (pv 0)) (pa_cons (pe_is T.is (by decide) (T.free 44) (T.glo 36) (pv 0)) (pa_nil)))))) (pss_cons (ps_if (PW.pt (pw_or (pt_cmpR op_ne (pe_bmC PySem.F.plainAttrs_list PySem.F.slot_list_count PySem.F.type_list_count mtCnt (pv 1) (pa_cons (pe_bl) (pa_nil))) (pe_int) (nomark _)) (pw_or1 (pt_not (pt_val (pe_isV T.is (T.free 44) (T.free 41) (pv 0))))))) (pss_one (ps_ret (pe_tup (pa_cons (pe_str) (pa_nil))))) (pss_nil)) (pss_one (ps_ret (pe_tup (pa_cons (pe_str) (pa_cons (pe_ix ixL (pe_lst (pa_cons (pe_str) (pa_cons (pe_str) (pa_cons (pe_str) (pa_nil))))) (pe_bmC PySem.F.plainAttrs_list PySem.F.slot_list_index PySem.F.type_list_index mtIdx (pv 1) (pa_cons (pe_bl) (pa_nil))) (fun _ _ => rfl)) (pa_nil)))))))))) pure__law_refusal
abbrev N__law_told : List Str := ["asker", "word", "one", "held", "found", "e"]
theorem sc__law_told : FnScope N__law_told ["asker", "word", "one"] (defScope s__law_told) := ⟨rfl, rfl, rfl, by decide +kernel, rfl, by decide +kernel, by decide +kernel⟩
theorem cal__law_told {P : Program} {w : World} {K : PySem.W.Frag} {mg : Str → Option Value} {base : Heap} (T : TX fa K mg isQ) (hd : ∃ fd, FunD K d62.name d62.qual d62.params d62.body d62.scope (d62.dvs K) (d62.kws K) (He.fAd K d62.at_) fd) (c_Asker_put : Cal P w K mg base 7 ("Asker", some "put") ["self", "text"] (sp_Asker_put K)) (c_Asker_key : Cal P w K mg base 8 ("Asker", some "key") ["self", "sign"] (sp_Asker_key K)) (c_Asker_tick : Cal P w K mg base 8 ("Asker", some "tick") ["self", "many"] (sp_Asker_tick K)) (c_Asker_rub : Cal P w K mg base 8 ("Asker", some "rub") ["self"] (sp_Asker_rub K)) (c_Asker_again : Cal P w K mg base 4 ("Asker", some "again") ["self"] (sp_Asker_again K)) (c__law_refusal : Cal P w K mg base 1 ("_law_refusal", none) ["held"] (sp__law_refusal K)) :
    Cal P w K mg base 9 ("_law_told", none) ["asker", "word", "one"] (sp__law_told K) :=
  cal_of (d := d62) (N := N__law_told) (t := t__law_told K) hd rfl rfl sc__law_told len__law_told (fun _ _ _ _ _ _ us hl => match us, hl with | [_, _, _], _ => rfl) (fun cdv A outer s H E hr => (pss_cons (ps_set (i := 3) sc__law_told.nd rfl (Or.inl rfl) (pe_non)) (pss_cons (ps_set (i := 4) sc__law_told.nd rfl (Or.inl rfl) (pe_non)) (pss_cons (ps_hold (cs := errV K) (i := 5) (j := 3) (tb := fun W => tIfS (tTest (tOp (rEq) (tVar 1) (tC (.str "put")))) (tAsg (fMethS (He.ga K "Asker") "put" (sp_Asker_put K) W (tVar 0) (tCons (tVar 2) (tNil))) (gName 4)) (tIfS (tTest (tOp (rEq) (tVar 1) (tC (.str "key")))) (tAsg (fMethS (He.ga K "Asker") "key" (sp_Asker_key K) W (tVar 0) (tCons (tVar 2) (tNil))) (gName 4)) (tIfS (tTest (tOp (rEq) (tVar 1) (tC (.str "tick")))) (tAsg (fMethS (He.ga K "Asker") "tick" (sp_Asker_tick K) W (tVar 0) (tCons (tVar 2) (tNil))) (gName 4)) (tAsg (tIf (tTest (tOp (rEq) (tVar 1) (tC (.str "rub")))) (fMethS (He.ga K "Asker") "rub" (sp_Asker_rub K) W (tVar 0) (tNil)) (fMethS (He.ga K "Asker") "again" (sp_Asker_again K) W (tVar 0) (tNil))) (gName 4))))) rfl rfl rfl sc__law_told.nd rfl rfl rfl rfl ⟨rfl, by decide, Or.inl (T.glo 33)⟩ (by exact errV_ok T.is) (fun W pn xe tk _ => pss_one (ps_if (pt_cmpR op_eq (pv 1) (pe_str) (nomark _)) (pss_one (ps_set (i := 4) sc__law_told.nd rfl (Or.inl rfl) (pe_calMS c_Asker_put (T.cls 74) (T.meth 94) (hr.mono (by decide)) tk (pv 0) (pa_cons (pv 2) (pa_nil))))) (pss_one (ps_if (pt_cmpR op_eq (pv 1) (pe_str) (nomark _)) (pss_one (ps_set (i := 4) sc__law_told.nd rfl (Or.inl rfl) (pe_calMS c_Asker_key (T.cls 74) (T.meth 95) (hr.mono (by decide)) tk (pv 0) (pa_cons (pv 2) (pa_nil))))) (pss_one (ps_if (pt_cmpR op_eq (pv 1) (pe_str) (nomark _)) (pss_one (ps_set (i := 4) sc__law_told.nd rfl (Or.inl rfl) (pe_calMS c_Asker_tick (T.cls 74) (T.meth 104) (hr.mono (by decide)) tk (pv 0) (pa_cons (pv 2) (pa_nil))))) (pss_one (ps_set (i := 4) sc__law_told.nd rfl (Or.inl rfl) (pe_ifExp (pt_cmpR op_eq (pv 1) (pe_str) (nomark _)) (pe_calMS0 c_Asker_rub (T.cls 74) (T.meth 96) (hr.mono (by decide)) tk (pv 0)) (pe_calMS0 c_Asker_again (T.cls 74) (T.meth 105) (hr.mono (by decide)) tk (pv 0)))))))))))) (pss_one (ps_ret (pe_ifExp (pt_cmpR op_isN1 (pv 3) (pe_non) (nomark _)) (pv 4) (pe_cal c__law_refusal (hr.mono (by decide)) (T.glo 10) pxOf (pa_cons (pv 3) (pa_nil)))))))))) pure__law_told
abbrev N__law_off : List Str := ["own", "number"]
theorem sc__law_off : FnScope N__law_off ["own"] (defScope s__law_off) := ⟨rfl, rfl, rfl, by decide +kernel, rfl, by decide +kernel, by decide +kernel⟩
theorem cal__law_off {P : Program} {w : World} {K : PySem.W.Frag} {mg : Str → Option Value} {base : Heap} (T : TX fa K mg isQ) (hd : ∃ fd, FunD K d53.name d53.qual d53.params d53.body d53.scope (d53.dvs K) (d53.kws K) (He.fAd K d53.at_) fd)  :
    Cal P w K mg base 1 ("_law_off", none) ["own"] (sp__law_off K) :=
  cal_of (d := d53) (N := N__law_off) (t := t__law_off K) hd rfl rfl sc__law_off len__law_off (fun _ _ _ _ _ _ us hl => match us, hl with | [_], _ => rfl) (fun cdv A outer s H E hr => (pss_cons (ps_putS hr.units (pv 0) (pe_op op_cat (pe_getS hr.units (pv 0)) (pe_lcL (own := [("number", 1)]) (g := gName 1) (tt := tYes) (te := tTup (tCons (tC (.str "off")) (tCons (tVar 1) (tNil)))) rfl sc__law_off.nd (pe_getS hr.units (pv 0)) (blkOk_by (own := [("number", 1)]) (N := N__law_off) (sc := defScope s__law_off) (by decide +kernel)) (fun _ _ _ _ _ => pg_name (i := 1) sc__law_off.nd rfl (Or.inl rfl)) (fun _ _ _ _ _ => pts_nil) (fun _ _ _ _ _ => pe_tup (pa_cons (pe_str) (pa_cons (pv 1) (pa_nil)))))) rfl) (pss_one (ps_putS hr.units (pv 0) (pe_lst (pa_nil)) rfl)))) pure__law_off
abbrev N__law_rank : List Str := ["row", "query", "mine", "wanted", "spots", "k"]
theorem sc__law_rank : FnScope N__law_rank ["row", "query"] (defScope s__law_rank) := ⟨rfl, rfl, rfl, by decide +kernel, rfl, by decide +kernel, by decide +kernel⟩
theorem cal__law_rank {P : Program} {w : World} {K : PySem.W.Frag} {mg : Str → Option Value} {base : Heap} (T : TX fa K mg isQ) (hd : ∃ fd, FunD K d45.name d45.qual d45.params d45.body d45.scope (d45.dvs K) (d45.kws K) (He.fAd K d45.at_) fd) (c__law_folded : Cal P w K mg base 1 ("_law_folded", none) ["text"] (sp__law_folded K)) :
    Cal P w K mg base 2 ("_law_rank", none) ["row", "query"] (sp__law_rank K) :=
  cal_of (d := d45) (N := N__law_rank) (t := t__law_rank K) hd rfl rfl sc__law_rank len__law_rank (fun _ _ _ _ _ _ us hl => match us, hl with | [_, _], _ => rfl) (fun cdv A outer s H E hr => (pss_cons (ps_set (i := 2) sc__law_rank.nd rfl (Or.inr rfl) (pe_cal c__law_folded (hr.mono (by decide)) (T.glo 11) pxOf (pa_cons (pv 0) (pa_nil)))) (pss_cons (ps_set (i := 3) sc__law_rank.nd rfl (Or.inr rfl) (pe_cal c__law_folded (hr.mono (by decide)) (T.glo 11) pxOf (pa_cons (pv 1) (pa_nil)))) (pss_cons (ps_lcR1 (i := 4) (own := [("k", 5)]) (g := gName 5) (tt := tTest (tOp (rEq) (tSl rSlS (tVar 2) (tPart (tVar 5)) (tPart (tOp (rI0 fun i j => .int (i + j)) (tVar 5) (tCB (gLenS) (tCons (tVar 3) (tNil)))))) (tVar 3))) (te := tVar 5) rfl sc__law_rank.nd rfl rfl (sw_true rfl rfl rfl (by decide +kernel)) rfl (T.free 49) (pa_cons (pe_op op_add (pe_callB lenS (by rfl) (T.free 45) (by decide +kernel) (pa_cons (pv 2) (pa_nil))) (pe_int)) (pa_nil)) (blkOk_by (own := [("k", 5)]) (N := N__law_rank) (sc := defScope s__law_rank) (by decide +kernel)) (fun _ _ _ _ _ => pg_name (i := 5) sc__law_rank.nd rfl (Or.inl rfl)) (fun _ _ _ _ _ => pts_one (pt_cmpR op_eq (pe_slice sl_str (pv 2) (po_some (pv 5)) (po_some (pe_op op_add (pv 5) (pe_callB lenS (by rfl) (T.free 45) (by decide +kernel) (pa_cons (pv 3) (pa_nil)))))) (pv 3) (nomark _))) (fun _ _ _ _ _ => pv 5)) (pss_cons (ps_if (pt_cmpR (eqD hr.units) (pv 4) (pe_lst (pa_nil)) (nomark _)) (pss_one (ps_ret (pe_non))) (pss_nil)) (pss_cons (ps_if (pt_cmpR op_eq (pe_ix ixL (pv 4) (pe_int) (fun _ _ => rfl)) (pe_int) (nomark _)) (pss_one (ps_ret (pe_ifExp (pt_cmpR op_eq (pe_callB lenS (by rfl) (T.free 45) (by decide +kernel) (pa_cons (pv 2) (pa_nil))) (pe_callB lenS (by rfl) (T.free 45) (by decide +kernel) (pa_cons (pv 3) (pa_nil))) (nomark _)) (pe_int) (pe_int)))) (pss_nil)) (pss_one (ps_ret (pe_ifExp (pt_cmpR (neD hr.units) (pe_lcL (own := [("k", 5)]) (g := gName 5) (tt := tTest (tOp (rEq) (tOp rIxS (tVar 2) (tOp (rI0 fun i j => .int (i - j)) (tVar 5) (tC (.int 1)))) (tC (.str " ")))) (te := tVar 5) rfl sc__law_rank.nd (pv 4) (blkOk_by (own := [("k", 5)]) (N := N__law_rank) (sc := defScope s__law_rank) (by decide +kernel)) (fun _ _ _ _ _ => pg_name (i := 5) sc__law_rank.nd rfl (Or.inl rfl)) (fun _ _ _ _ _ => pts_one (pt_cmpR op_eq (pe_ix ix_str (pv 2) (pe_op op_sub (pv 5) (pe_int)) (fun _ _ => rfl)) (pe_str) (nomark _))) (fun _ _ _ _ _ => pv 5)) (pe_lst (pa_nil)) (nomark _)) (pe_int) (pe_int)))))))))) pure__law_rank
abbrev N__law_best : List Str := ["rows", "query", "many", "found", "row", "fits", "small"]
theorem sc__law_best : FnScope N__law_best ["rows", "query", "many"] (defScope s__law_best) := ⟨rfl, rfl, rfl, by decide +kernel, rfl, by decide +kernel, by decide +kernel⟩
theorem cal__law_best {P : Program} {w : World} {K : PySem.W.Frag} {mg : Str → Option Value} {base : Heap} (T : TX fa K mg isQ) (hd : ∃ fd, FunD K d46.name d46.qual d46.params d46.body d46.scope (d46.dvs K) (d46.kws K) (He.fAd K d46.at_) fd) (c__law_rank : Cal P w K mg base 2 ("_law_rank", none) ["row", "query"] (sp__law_rank K)) (c__law_folded : Cal P w K mg base 1 ("_law_folded", none) ["text"] (sp__law_folded K)) :
    Cal P w K mg base 3 ("_law_best", none) ["rows", "query", "many"] (sp__law_best K) :=
  cal_of (d := d46) (N := N__law_best) (t := t__law_best K) hd rfl rfl sc__law_best len__law_best (fun _ _ _ _ _ _ us hl => match us, hl with | [_, _, _], _ => rfl) (fun cdv A outer s H E hr => (pss_cons (ps_set (i := 3) sc__law_best.nd rfl (Or.inl rfl) (pe_lst (pa_nil))) (pss_cons (ps_forL poOf rfl (pv 0) (pg_name (i := 4) sc__law_best.nd rfl (Or.inl rfl)) (pss_cons (ps_set (i := 5) sc__law_best.nd rfl (Or.inl rfl) (pe_cal c__law_rank (hr.mono (by decide)) (T.glo 12) pxOf (pa_cons (pv 4) (pa_cons (pv 1) (pa_nil))))) (pss_one (ps_if (pt_cmpR op_notN1 (pv 5) (pe_non) (nomark _)) (pss_one (ps_expr (pe_bmC PySem.F.plainAttrs_list PySem.F.slot_list_append PySem.F.type_list_append mt_append (pv 3) (pa_cons (pe_tup (pa_cons (pv 5) (pa_cons (pe_cal c__law_folded (hr.mono (by decide)) (T.glo 11) pxOf (pa_cons (pv 4) (pa_nil))) (pa_cons (pv 4) (pa_nil))))) (pa_nil))))) (pss_nil))))) (pss_one (ps_ret (pe_slice slL (pe_lcL (own := [("fits", 5), ("small", 6), ("row", 4)]) (g := fTup 3 (gCons (gName 5) (gCons (gName 6) (gCons (gName 4) (gNil))))) (tt := tYes) (te := tVar 4) rfl sc__law_best.nd (pe_callB (sortD hr.units) (by rfl) (T.free 50) (by decide +kernel) (pa_cons (pv 3) (pa_nil))) (blkOk_by (own := [("fits", 5), ("small", 6), ("row", 4)]) (N := N__law_best) (sc := defScope s__law_best) (by decide +kernel)) (fun _ _ _ _ _ => pg_tupC rfl (pgs_cons (pg_name (i := 5) sc__law_best.nd rfl (Or.inl rfl)) (pgs_cons (pg_name (i := 6) sc__law_best.nd rfl (Or.inl rfl)) (pgs_cons (pg_name (i := 4) sc__law_best.nd rfl (Or.inl rfl)) (pgs_nil))))) (fun _ _ _ _ _ => pts_nil) (fun _ _ _ _ _ => pv 4)) (po_none) (po_some (pv 2)))))))) pure__law_best
abbrev N__law_show : List Str := ["own", "rows"]
theorem sc__law_show : FnScope N__law_show ["own", "rows"] (defScope s__law_show) := ⟨rfl, rfl, rfl, by decide +kernel, rfl, by decide +kernel, by decide +kernel⟩
theorem cal__law_show {P : Program} {w : World} {K : PySem.W.Frag} {mg : Str → Option Value} {base : Heap} (T : TX fa K mg isQ) (hd : ∃ fd, FunD K d52.name d52.qual d52.params d52.body d52.scope (d52.dvs K) (d52.kws K) (He.fAd K d52.at_) fd) (c__law_folded : Cal P w K mg base 1 ("_law_folded", none) ["text"] (sp__law_folded K)) (c__law_off : Cal P w K mg base 1 ("_law_off", none) ["own"] (sp__law_off K)) :
    Cal P w K mg base 2 ("_law_show", none) ["own", "rows"] (sp__law_show K) :=
  cal_of (d := d52) (N := N__law_show) (t := t__law_show K) hd rfl rfl sc__law_show len__law_show (fun _ _ _ _ _ _ us hl => match us, hl with | [_, _], _ => rfl) (fun cdv A outer s H E hr => (pss_cons (ps_putS hr.units (pv 0) (pe_tup (pa_cons (pe_cal c__law_folded (hr.mono (by decide)) (T.glo 11) pxOf (pa_cons (pe_getS hr.units (pv 0)) (pa_nil))) (pa_cons (pv 1) (pa_cons (pe_bl) (pa_nil))))) rfl) (pss_cons (ps_putS hr.units (pv 0) (pe_bl) rfl) (pss_one (ps_expr (pe_cal c__law_off (hr.mono (by decide)) (T.glo 20) pxOf (pa_cons (pv 0) (pa_nil)))))))) pure__law_show
abbrev N__law_near : List Str := ["own", "key", "some", "k", "name", "rows", "is_all", "when", "used", "left"]
theorem sc__law_near : FnScope N__law_near ["own"] (defScope s__law_near) := ⟨rfl, rfl, rfl, by decide +kernel, rfl, by decide +kernel, by decide +kernel⟩
theorem cal__law_near {P : Program} {w : World} {K : PySem.W.Frag} {mg : Str → Option Value} {base : Heap} (T : TX fa K mg isQ) (hd : ∃ fd, FunD K d51.name d51.qual d51.params d51.body d51.scope (d51.dvs K) (d51.kws K) (He.fAd K d51.at_) fd) (c__law_folded : Cal P w K mg base 1 ("_law_folded", none) ["text"] (sp__law_folded K)) (c__law_best : Cal P w K mg base 3 ("_law_best", none) ["rows", "query", "many"] (sp__law_best K)) (c__law_show : Cal P w K mg base 2 ("_law_show", none) ["own", "rows"] (sp__law_show K)) :
    Cal P w K mg base 4 ("_law_near", none) ["own"] (sp__law_near K) :=
  cal_of (d := d51) (N := N__law_near) (t := t__law_near K) hd rfl rfl sc__law_near len__law_near (fun _ _ _ _ _ _ us hl => match us, hl with | [_], _ => rfl) (fun cdv A outer s H E hr => (pss_cons (ps_set (i := 1) sc__law_near.nd rfl (Or.inl rfl) (pe_cal c__law_folded (hr.mono (by decide)) (T.glo 11) pxOf (pa_cons (pe_getS hr.units (pv 0)) (pa_nil)))) (pss_cons (ps_if (pt_cmpR op_eq (pv 1) (pe_str) (nomark _)) (pss_cons (ps_putS hr.units (pv 0) (pe_bl) rfl) (pss_cons (ps_putS hr.units (pv 0) (pe_non) rfl) (pss_one (ps_retN)))) (pss_nil)) (pss_cons (ps_set (i := 2) sc__law_near.nd rfl (Or.inl rfl) (pe_lst (pa_nil))) (pss_cons (ps_forR1 poOf rfl rfl (T.free 49) (pa_cons (pe_callB lenL (by rfl) (T.free 45) (by decide +kernel) (pa_cons (pe_getS hr.units (pv 0)) (pa_nil))) (pa_nil)) (pg_name (i := 3) sc__law_near.nd rfl (Or.inl rfl)) (pss_cons (ps_asg (pe_ix ixL (pe_getS hr.units (pv 0)) (pv 3) (fun _ _ => rfl)) (pg_tupC rfl (pgs_cons (pg_name (i := 4) sc__law_near.nd rfl (Or.inl rfl)) (pgs_cons (pg_name (i := 5) sc__law_near.nd rfl (Or.inl rfl)) (pgs_cons (pg_name (i := 6) sc__law_near.nd rfl (Or.inl rfl)) (pgs_cons (pg_name (i := 7) sc__law_near.nd rfl (Or.inl rfl)) (pgs_nil))))))) (pss_one (ps_if (PW.pt (pw_and (pt_cmpR op_lt (pe_op op_sub (pe_getS hr.units (pv 0)) (pv 7)) (pe_getS hr.units (pv 0)) (nomark _)) (pw_and1 (PW.pt (pw_or (pt_cmpR op_eq (pv 4) (pv 1) (nomark _)) (pw_or1 (PW.pt (pw_and (pt_val (pv 6)) (pw_and1 (pt_cmpR op_ge (pe_bmC PySem.F.plainAttrs_str PySem.F.slot_str_find PySem.F.type_str_find mtFind (pv 1) (pa_cons (pv 4) (pa_nil))) (pe_int) (nomark _))))))))))) (pss_one (ps_expr (pe_bmC PySem.F.plainAttrs_list PySem.F.slot_list_append PySem.F.type_list_append mt_append (pv 2) (pa_cons (pe_tup (pa_cons (pe_callB lenS (by rfl) (T.free 45) (by decide +kernel) (pa_cons (pv 4) (pa_nil))) (pa_cons (pe_op op_sub (pe_int) (pv 3)) (pa_cons (pv 3) (pa_nil))))) (pa_nil))))) (pss_nil))))) (pss_one (ps_if (pt_cmpR (neD hr.units) (pv 2) (pe_lst (pa_nil)) (nomark _)) (pss_cons (ps_set (i := 8) sc__law_near.nd rfl (Or.inl rfl) (pe_bmC PySem.F.plainAttrs_list PySem.F.slot_list_pop PySem.F.type_list_pop mtPopAt (pe_getS hr.units (pv 0)) (pa_cons (pe_ix ixT (pe_callB (maxDl rfl hr.units) (by rfl) (T.free 47) (by decide +kernel) (pa_cons (pv 2) (pa_nil))) (pe_int) (fun _ _ => rfl)) (pa_nil)))) (pss_cons (ps_expr (pe_bmC PySem.F.plainAttrs_list PySem.F.slot_list_append PySem.F.type_list_append mt_append (pe_getS hr.units (pv 0)) (pa_cons (pv 8) (pa_nil)))) (pss_one (ps_expr (pe_cal c__law_show (hr.mono (by decide)) (T.glo 19) pxOf (pa_cons (pv 0) (pa_cons (pe_cal c__law_best (hr.mono (by decide)) (T.glo 13) pxOf (pa_cons (pe_ix ixT (pv 8) (pe_int) (fun _ _ => rfl)) (pa_cons (pe_getS hr.units (pv 0)) (pa_cons (pe_getS hr.units (pv 0)) (pa_nil))))) (pa_nil)))))))) (pss_one (ps_if (PW.pt (pw_and (pt_cmpR op_notN1 (pe_getS hr.units (pv 0)) (pe_non) (nomark _)) (pw_and1 (PW.pt (pw_or (pt_cmpR op_ne (pe_ix ixT (pe_getS hr.units (pv 0)) (pe_int) (fun _ _ => rfl)) (pv 1) (nomark _)) (pw_or1 (pt_val (pe_ix ixT (pe_getS hr.units (pv 0)) (pe_int) (fun _ _ => rfl))))))))) (pss_cons (ps_set (i := 9) sc__law_near.nd rfl (Or.inl rfl) (pe_cal c__law_best (hr.mono (by decide)) (T.glo 13) pxOf (pa_cons (pe_ix ixT (pe_getS hr.units (pv 0)) (pe_int) (fun _ _ => rfl)) (pa_cons (pe_getS hr.units (pv 0)) (pa_cons (pe_getS hr.units (pv 0)) (pa_nil)))))) (pss_one (ps_putS hr.units (pv 0) (pe_ifExp (pt_cmpR (neD hr.units) (pv 9) (pe_lst (pa_nil)) (nomark _)) (pe_tup (pa_cons (pe_ix ixT (pe_getS hr.units (pv 0)) (pe_int) (fun _ _ => rfl)) (pa_cons (pv 9) (pa_cons (pe_bl) (pa_nil))))) (pe_non)) rfl))) (pss_nil)))))))))) pure__law_near
abbrev N__law_ask : List Str := ["own", "is_time", "number", "delay"]
theorem sc__law_ask : FnScope N__law_ask ["own"] (defScope s__law_ask) := ⟨rfl, rfl, rfl, by decide +kernel, rfl, by decide +kernel, by decide +kernel⟩
theorem cal__law_ask {P : Program} {w : World} {K : PySem.W.Frag} {mg : Str → Option Value} {base : Heap} (T : TX fa K mg isQ) (hd : ∃ fd, FunD K d54.name d54.qual d54.params d54.body d54.scope (d54.dvs K) (d54.kws K) (He.fAd K d54.at_) fd) (c__law_folded : Cal P w K mg base 1 ("_law_folded", none) ["text"] (sp__law_folded K)) :
    Cal P w K mg base 2 ("_law_ask", none) ["own"] (sp__law_ask K) :=
  cal_of (d := d54) (N := N__law_ask) (t := t__law_ask K) hd rfl rfl sc__law_ask len__law_ask (fun _ _ _ _ _ _ us hl => match us, hl with | [_], _ => rfl) (fun cdv A outer s H E hr => (pss_cons (ps_set (i := 1) sc__law_ask.nd rfl (Or.inl rfl) (pe_cmpR op_ge (pe_op op_sub (pe_getS hr.units (pv 0)) (pe_getS hr.units (pv 0))) (pe_getS hr.units (pv 0)) (nomark _))) (pss_one (ps_if (PW.pt (pw_and (pt_val (pe_getS hr.units (pv 0))) (pw_and (pt_val (pv 1)) (pw_and1 (pt_cmpR op_lt (pe_callB lenL (by rfl) (T.free 45) (by decide +kernel) (pa_cons (pe_getS hr.units (pv 0)) (pa_nil))) (pe_getS hr.units (pv 0)) (nomark _)))))) (pss_cons (ps_putS hr.units (pv 0) (pe_bl) rfl) (pss_cons (ps_putS hr.units (pv 0) (pe_op op_add (pe_getS hr.units (pv 0)) (pe_int)) rfl) (pss_cons (ps_set (i := 2) sc__law_ask.nd rfl (Or.inl rfl) (pe_op op_add (pe_callB lenL (by rfl) (T.free 45) (by decide +kernel) (pa_cons (pe_getS hr.units (pv 0)) (pa_nil))) (pe_int))) (pss_cons (ps_set (i := 3) sc__law_ask.nd rfl (Or.inl rfl) (pe_ix ixL (pe_getS hr.units (pv 0)) (pe_op op_mod (pe_callB lenL (by rfl) (T.free 45) (by decide +kernel) (pa_cons (pe_getS hr.units (pv 0)) (pa_nil))) (pe_callB lenL (by rfl) (T.free 45) (by decide +kernel) (pa_cons (pe_getS hr.units (pv 0)) (pa_nil)))) (fun _ _ => rfl))) (pss_cons (ps_expr (pe_bmC PySem.F.plainAttrs_list PySem.F.slot_list_append PySem.F.type_list_append mt_append (pe_getS hr.units (pv 0)) (pa_cons (pe_tup (pa_cons (pe_getS hr.units (pv 0)) (pa_cons (pe_getS hr.units (pv 0)) (pa_nil)))) (pa_nil)))) (pss_cons (ps_if (pt_cmpR op_notN1 (pv 3) (pe_non) (nomark _)) (pss_one (ps_expr (pe_bmC PySem.F.plainAttrs_list PySem.F.slot_list_append PySem.F.type_list_append mt_append (pe_getS hr.units (pv 0)) (pa_cons (pe_tup (pa_cons (pe_op op_add (pe_getS hr.units (pv 0)) (pv 3)) (pa_cons (pv 2) (pa_nil)))) (pa_nil))))) (pss_nil)) (pss_cons (ps_expr (pe_bmC PySem.F.plainAttrs_list PySem.F.slot_list_append PySem.F.type_list_append mt_append (pe_getS hr.units (pv 0)) (pa_cons (pv 2) (pa_nil)))) (pss_cons (ps_expr (pe_bmC PySem.F.plainAttrs_list PySem.F.slot_list_append PySem.F.type_list_append mt_append (pe_getS hr.units (pv 0)) (pa_cons (pv 2) (pa_nil)))) (pss_one (ps_expr (pe_bmC PySem.F.plainAttrs_list PySem.F.slot_list_append PySem.F.type_list_append mt_append (pe_getS hr.units (pv 0)) (pa_cons (pe_tup (pa_cons (pe_str) (pa_cons (pv 2) (pa_cons (pe_cal c__law_folded (hr.mono (by decide)) (T.glo 11) pxOf (pa_cons (pe_getS hr.units (pv 0)) (pa_nil))) (pa_nil))))) (pa_nil))))))))))))) (pss_nil))))) pure__law_ask
abbrev N__law_put : List Str := ["own", "text"]
theorem sc__law_put : FnScope N__law_put ["own", "text"] (defScope s__law_put) := ⟨rfl, rfl, rfl, by decide +kernel, rfl, by decide +kernel, by decide +kernel⟩
theorem cal__law_put {P : Program} {w : World} {K : PySem.W.Frag} {mg : Str → Option Value} {base : Heap} (T : TX fa K mg isQ) (hd : ∃ fd, FunD K d55.name d55.qual d55.params d55.body d55.scope (d55.dvs K) (d55.kws K) (He.fAd K d55.at_) fd) (c__law_folded : Cal P w K mg base 1 ("_law_folded", none) ["text"] (sp__law_folded K)) (c__law_off : Cal P w K mg base 1 ("_law_off", none) ["own"] (sp__law_off K)) (c__law_near : Cal P w K mg base 4 ("_law_near", none) ["own"] (sp__law_near K)) (c__law_ask : Cal P w K mg base 2 ("_law_ask", none) ["own"] (sp__law_ask K)) :
    Cal P w K mg base 5 ("_law_put", none) ["own", "text"] (sp__law_put K) :=
  cal_of (d := d55) (N := N__law_put) (t := t__law_put K) hd rfl rfl sc__law_put len__law_put (fun _ _ _ _ _ _ us hl => match us, hl with | [_, _], _ => rfl) (fun cdv A outer s H E hr => (pss_cons (ps_if (pt_cmpR op_ne (pe_cal c__law_folded (hr.mono (by decide)) (T.glo 11) pxOf (pa_cons (pv 1) (pa_nil))) (pe_cal c__law_folded (hr.mono (by decide)) (T.glo 11) pxOf (pa_cons (pe_getS hr.units (pv 0)) (pa_nil))) (nomark _)) (pss_cons (ps_expr (pe_cal c__law_off (hr.mono (by decide)) (T.glo 20) pxOf (pa_cons (pv 0) (pa_nil)))) (pss_cons (ps_putS hr.units (pv 0) (pe_getS hr.units (pv 0)) rfl) (pss_cons (ps_putS hr.units (pv 0) (pe_cmpR op_ne (pe_cal c__law_folded (hr.mono (by decide)) (T.glo 11) pxOf (pa_cons (pv 1) (pa_nil))) (pe_str) (nomark _)) rfl) (pss_one (ps_putS hr.units (pv 0) (pe_int) rfl))))) (pss_nil)) (pss_cons (ps_putS hr.units (pv 0) (pv 1) rfl) (pss_cons (ps_expr (pe_cal c__law_near (hr.mono (by decide)) (T.glo 18) pxOf (pa_cons (pv 0) (pa_nil)))) (pss_one (ps_expr (pe_cal c__law_ask (hr.mono (by decide)) (T.glo 21) pxOf (pa_cons (pv 0) (pa_nil))))))))) pure__law_put
abbrev N__law_typed : List Str := ["script", "town", "asker", "own", "way", "word", "text", "sign"]
theorem sc__law_typed : FnScope N__law_typed ["script", "town", "asker", "own"] (defScope s__law_typed) := ⟨rfl, rfl, rfl, by decide +kernel, rfl, by decide +kernel, by decide +kernel⟩
theorem cal__law_typed {P : Program} {w : World} {K : PySem.W.Frag} {mg : Str → Option Value} {base : Heap} (T : TX fa K mg isQ) (hd : ∃ fd, FunD K d63.name d63.qual d63.params d63.body d63.scope (d63.dvs K) (d63.kws K) (He.fAd K d63.at_) fd) (c__law_draw : Cal P w K mg base 3 ("_law_draw", none) ["script", "town", "many"] (sp__law_draw K)) (c__law_query : Cal P w K mg base 5 ("_law_query", none) ["script", "town"] (sp__law_query K)) (c__law_pick : Cal P w K mg base 4 ("_law_pick", none) ["script", "town", "some"] (sp__law_pick K)) (c__law_told : Cal P w K mg base 9 ("_law_told", none) ["asker", "word", "one"] (sp__law_told K)) (c__law_put : Cal P w K mg base 5 ("_law_put", none) ["own", "text"] (sp__law_put K)) :
    Cal P w K mg base 10 ("_law_typed", none) ["script", "town", "asker", "own"] (sp__law_typed K) :=
  cal_of (d := d63) (N := N__law_typed) (t := t__law_typed K) hd rfl rfl sc__law_typed len__law_typed (fun _ _ _ _ _ _ us hl => match us, hl with | [_, _, _, _], _ => rfl) (fun cdv A outer s H E hr => (pss_cons (ps_set (i := 4) sc__law_typed.nd rfl (Or.inl rfl) (pe_cal c__law_draw (hr.mono (by decide)) (T.glo 8) pxOf (pa_cons (pv 0) (pa_cons (pv 1) (pa_cons (pe_int) (pa_nil)))))) (pss_cons (ps_par3 (i := 5) (j := 6) (l := 7) rfl sc__law_typed.nd rfl rfl rfl (by decide) (by decide) (by decide) rfl rfl rfl (pa_cons (pe_str) (pa_cons (pe_cal c__law_query (hr.mono (by decide)) (T.glo 16) pxOf (pa_cons (pv 0) (pa_cons (pv 1) (pa_nil)))) (pa_cons (pe_str) (pa_nil)))) rfl) (pss_cons (ps_if (pt_cmpR op_lt (pv 4) (pe_int) (nomark _)) (pss_cons (ps_set (i := 7) sc__law_typed.nd rfl (Or.inl rfl) (pe_cal c__law_pick (hr.mono (by decide)) (T.glo 9) pxOf (pa_cons (pv 0) (pa_cons (pv 1) (pa_cons (pe_lst (pa_cons (pe_str) (pa_cons (pe_str) (pa_cons (pe_str) (pa_cons (pe_str) (pa_cons (pe_str) (pa_nil))))))) (pa_nil)))))) (pss_one (ps_par (i := 5) (j := 6) rfl sc__law_typed.nd rfl rfl (by decide) rfl rfl (pa_cons (pe_str) (pa_cons (pe_op catS (pe_getS hr.units (pv 3)) (pv 7)) (pa_nil))) rfl))) (pss_nil)) (pss_cons (ps_if (pt_cmpR op_eq (pv 4) (pe_int) (nomark _)) (pss_one (ps_par (i := 5) (j := 6) rfl sc__law_typed.nd rfl rfl (by decide) rfl rfl (pa_cons (pe_str) (pa_cons (pe_slice sl_str (pe_getS hr.units (pv 3)) (po_none) (po_some (pe_un un_neg (pe_int)))) (pa_nil))) rfl)) (pss_nil)) (pss_cons (ps_if (pt_cmpR op_eq (pv 4) (pe_int) (nomark _)) (pss_one (ps_set (i := 6) sc__law_typed.nd rfl (Or.inl rfl) (pe_cal c__law_pick (hr.mono (by decide)) (T.glo 9) pxOf (pa_cons (pv 0) (pa_cons (pv 1) (pa_cons (pe_lst (pa_cons (pe_str) (pa_cons (pe_op repS (pe_str) (pe_int)) (pa_cons (pe_str) (pa_cons (pe_getS hr.units (pv 3)) (pa_nil)))))) (pa_nil))))))) (pss_nil)) (pss_cons (ps_if (PW.pt (pw_or (pt_cmpR op_gt (pe_callB lenS (by rfl) (T.free 45) (by decide +kernel) (pa_cons (pv 6) (pa_nil))) (pe_int) (nomark _)) (pw_or1 (pt_cmpR op_eq (pv 6) (pe_str) (nomark _))))) (pss_one (ps_ret (pe_cmpR (eqD hr.units) (pe_cal c__law_told (hr.mono (by decide)) (T.glo 29) pxOf (pa_cons (pv 2) (pa_cons (pv 5) (pa_cons (pe_ifExp (pt_cmpR op_eq (pv 5) (pe_str) (nomark _)) (pv 7) (pv 6)) (pa_nil))))) (pe_tup (pa_cons (pe_str) (pa_cons (pe_str) (pa_nil)))) (nomark _)))) (pss_nil)) (pss_cons (ps_expr (pe_cal c__law_put (hr.mono (by decide)) (T.glo 22) pxOf (pa_cons (pv 3) (pa_cons (pv 6) (pa_nil))))) (pss_one (ps_ret (pe_cmpR op_isN1 (pe_cal c__law_told (hr.mono (by decide)) (T.glo 29) pxOf (pa_cons (pv 2) (pa_cons (pv 5) (pa_cons (pe_ifExp (pt_cmpR op_eq (pv 5) (pe_str) (nomark _)) (pv 7) (pv 6)) (pa_nil))))) (pe_non) (nomark _)))))))))))) pure__law_typed
abbrev N_Store_remove : List Str := ["self", "row"]
theorem sc_Store_remove : FnScope N_Store_remove ["self", "row"] (defScope s_Store_remove) := ⟨rfl, rfl, rfl, by decide +kernel, rfl, by decide +kernel, by decide +kernel⟩
theorem cal_Store_remove {P : Program} {w : World} {K : PySem.W.Frag} {mg : Str → Option Value} {base : Heap} (T : TX fa K mg isQ) (hd : ∃ fd, FunD K d8.name d8.qual d8.params d8.body d8.scope (d8.dvs K) (d8.kws K) (He.fAd K d8.at_) fd)  :
    Cal P w K mg base 1 ("Store", some "remove") ["self", "row"] (sp_Store_remove K) :=
  cal_of (d := d8) (N := N_Store_remove) (t := t_Store_remove K) hd rfl rfl sc_Store_remove len_Store_remove (fun _ _ _ _ _ _ us hl => match us, hl with | [_, _], _ => rfl) (fun cdv A outer s H E hr => (pss_cons (ps_if (pt_cmpR ninL (pv 1) (pe_fldC (T.cls 67) (T.noat 69) (pv 0) rfl) (by rfl)) (pss_one (ps_raiseC rfl tkOf (T.exc 64) (T.glo 34))) (pss_nil)) (pss_one (ps_expr (pe_bmC PySem.F.plainAttrs_list PySem.F.slot_list_remove PySem.F.type_list_remove mtRemS (pe_fldC (T.cls 67) (T.noat 69) (pv 0) rfl) (pa_cons (pv 1) (pa_nil))))))) pure_Store_remove
abbrev N__law_come : List Str := ["own", "number", "query", "some", "one"]
theorem sc__law_come : FnScope N__law_come ["own", "number"] (defScope s__law_come) := ⟨rfl, rfl, rfl, by decide +kernel, rfl, by decide +kernel, by decide +kernel⟩
theorem cal__law_come {P : Program} {w : World} {K : PySem.W.Frag} {mg : Str → Option Value} {base : Heap} (T : TX fa K mg isQ) (hd : ∃ fd, FunD K d56.name d56.qual d56.params d56.body d56.scope (d56.dvs K) (d56.kws K) (He.fAd K d56.at_) fd) (c__law_best : Cal P w K mg base 3 ("_law_best", none) ["rows", "query", "many"] (sp__law_best K)) (c__law_folded : Cal P w K mg base 1 ("_law_folded", none) ["text"] (sp__law_folded K)) (c__law_show : Cal P w K mg base 2 ("_law_show", none) ["own", "rows"] (sp__law_show K)) (c__law_near : Cal P w K mg base 4 ("_law_near", none) ["own"] (sp__law_near K)) :
    Cal P w K mg base 5 ("_law_come", none) ["own", "number"] (sp__law_come K) :=
  cal_of (d := d56) (N := N__law_come) (t := t__law_come K) hd rfl rfl sc__law_come len__law_come (fun _ _ _ _ _ _ us hl => match us, hl with | [_, _], _ => rfl) (fun cdv A outer s H E hr => (pss_cons (ps_set (i := 2) sc__law_come.nd rfl (Or.inr rfl) (pe_ix ixT (pe_ix ixL (pe_getS hr.units (pv 0)) (pe_op op_sub (pv 1) (pe_int)) (fun _ _ => rfl)) (pe_int) (fun _ _ => rfl))) (pss_cons (ps_set (i := 3) sc__law_come.nd rfl (Or.inl rfl) (pe_cal c__law_best (hr.mono (by decide)) (T.glo 13) pxOf (pa_cons (pe_getS hr.units (pv 0)) (pa_cons (pv 2) (pa_cons (pe_int) (pa_nil)))))) (pss_cons (ps_putS hr.units (pv 0) (pe_lcL (own := [("one", 4)]) (g := gName 4) (tt := tTest (tOp (rNe) (tVar 4) (tVar 1))) (te := tVar 4) rfl sc__law_come.nd (pe_getS hr.units (pv 0)) (blkOk_by (own := [("one", 4)]) (N := N__law_come) (sc := defScope s__law_come) (by decide +kernel)) (fun _ _ _ _ _ => pg_name (i := 4) sc__law_come.nd rfl (Or.inl rfl)) (fun _ _ _ _ _ => pts_one (pt_cmpR op_ne (pv 4) (pv 1) (nomark _))) (fun _ _ _ _ _ => pv 4)) rfl) (pss_cons (ps_putS hr.units (pv 0) (pe_lcL (own := [("one", 4)]) (g := gName 4) (tt := tTest (tOp (rNe) (tOp gIxT (tVar 4) (tC (.int 0))) (tCall (sp__law_folded K) [] E0 (tCons (tVar 2) (tNil))))) (te := tVar 4) rfl sc__law_come.nd (pe_getS hr.units (pv 0)) (blkOk_by (own := [("one", 4)]) (N := N__law_come) (sc := defScope s__law_come) (by decide +kernel)) (fun _ _ _ _ _ => pg_name (i := 4) sc__law_come.nd rfl (Or.inl rfl)) (fun _ _ _ _ _ => pts_one (pt_cmpR op_ne (pe_ix ixT (pv 4) (pe_int) (fun _ _ => rfl)) (pe_cal c__law_folded (hr.mono (by decide)) (T.glo 11) pxB (pa_cons (pv 2) (pa_nil))) (nomark _))) (fun _ _ _ _ _ => pv 4)) rfl) (pss_cons (ps_expr (pe_bmC PySem.F.plainAttrs_list PySem.F.slot_list_append PySem.F.type_list_append mt_append (pe_getS hr.units (pv 0)) (pa_cons (pe_tup (pa_cons (pe_cal c__law_folded (hr.mono (by decide)) (T.glo 11) pxOf (pa_cons (pv 2) (pa_nil))) (pa_cons (pe_slice slL (pv 3) (po_none) (po_some (pe_getS hr.units (pv 0)))) (pa_cons (pe_cmpR op_le (pe_callB lenL (by rfl) (T.free 45) (by decide +kernel) (pa_cons (pv 3) (pa_nil))) (pe_getS hr.units (pv 0)) (nomark _)) (pa_cons (pe_getS hr.units (pv 0)) (pa_nil)))))) (pa_nil)))) (pss_cons (ps_putS hr.units (pv 0) (pe_ifExp (pt_cmpR op_gt (pe_getS hr.units (pv 0)) (pe_int) (nomark _)) (pe_slice slL (pe_getS hr.units (pv 0)) (po_some (pe_un un_neg (pe_getS hr.units (pv 0)))) (po_none)) (pe_lst (pa_nil))) rfl) (pss_one (ps_if (pt_cmpR inL (pv 1) (pe_getS hr.units (pv 0)) (by rfl)) (pss_cons (ps_putS hr.units (pv 0) (pe_lcL (own := [("one", 4)]) (g := gName 4) (tt := tTest (tOp (rNe) (tVar 4) (tVar 1))) (te := tVar 4) rfl sc__law_come.nd (pe_getS hr.units (pv 0)) (blkOk_by (own := [("one", 4)]) (N := N__law_come) (sc := defScope s__law_come) (by decide +kernel)) (fun _ _ _ _ _ => pg_name (i := 4) sc__law_come.nd rfl (Or.inl rfl)) (fun _ _ _ _ _ => pts_one (pt_cmpR op_ne (pv 4) (pv 1) (nomark _))) (fun _ _ _ _ _ => pv 4)) rfl) (pss_cons (ps_expr (pe_bmC PySem.F.plainAttrs_list PySem.F.slot_list_append PySem.F.type_list_append mt_append (pe_getS hr.units (pv 0)) (pa_cons (pe_tup (pa_cons (pe_str) (pa_cons (pv 1) (pa_nil)))) (pa_nil)))) (pss_one (ps_expr (pe_cal c__law_show (hr.mono (by decide)) (T.glo 19) pxOf (pa_cons (pv 0) (pa_cons (pe_slice slL (pv 3) (po_none) (po_some (pe_getS hr.units (pv 0)))) (pa_nil)))))))) (pss_cons (ps_expr (pe_bmC PySem.F.plainAttrs_list PySem.F.slot_list_append PySem.F.type_list_append mt_append (pe_getS hr.units (pv 0)) (pa_cons (pe_tup (pa_cons (pe_str) (pa_cons (pv 1) (pa_nil)))) (pa_nil)))) (pss_one (ps_expr (pe_cal c__law_near (hr.mono (by decide)) (T.glo 18) pxOf (pa_cons (pv 0) (pa_nil))))))))))))))) pure__law_come
abbrev N__law_step : List Str := ["own", "when", "number", "one"]
theorem sc__law_step : FnScope N__law_step ["own"] (defScope s__law_step) := ⟨rfl, rfl, rfl, by decide +kernel, rfl, by decide +kernel, by decide +kernel⟩
theorem cal__law_step {P : Program} {w : World} {K : PySem.W.Frag} {mg : Str → Option Value} {base : Heap} (T : TX fa K mg isQ) (hd : ∃ fd, FunD K d57.name d57.qual d57.params d57.body d57.scope (d57.dvs K) (d57.kws K) (He.fAd K d57.at_) fd) (c__law_come : Cal P w K mg base 5 ("_law_come", none) ["own", "number"] (sp__law_come K)) (c__law_ask : Cal P w K mg base 2 ("_law_ask", none) ["own"] (sp__law_ask K)) :
    Cal P w K mg base 6 ("_law_step", none) ["own"] (sp__law_step K) :=
  cal_of (d := d57) (N := N__law_step) (t := t__law_step K) hd rfl rfl sc__law_step len__law_step (fun _ _ _ _ _ _ us hl => match us, hl with | [_], _ => rfl) (fun cdv A outer s H E hr => (pss_cons (ps_putS hr.units (pv 0) (pe_op op_add (pe_getS hr.units (pv 0)) (pe_int)) rfl) (pss_cons (ps_forL poOf rfl (pe_callB (sortD hr.units) (by rfl) (T.free 50) (by decide +kernel) (pa_cons (pe_lcL (own := [("one", 3)]) (g := gName 3) (tt := tTest (tOp (rI0 fun i j => .bl (decide (i ≤ j))) (tOp gIxT (tVar 3) (tC (.int 0))) (fGetS (tVar 0) "time"))) (te := tVar 3) rfl sc__law_step.nd (pe_getS hr.units (pv 0)) (blkOk_by (own := [("one", 3)]) (N := N__law_step) (sc := defScope s__law_step) (by decide +kernel)) (fun _ _ _ _ _ => pg_name (i := 3) sc__law_step.nd rfl (Or.inl rfl)) (fun _ _ _ _ _ => pts_one (pt_cmpR op_le (pe_ix ixT (pv 3) (pe_int) (fun _ _ => rfl)) (pe_getS hr.units (pv 0)) (nomark _))) (fun _ _ _ _ _ => pv 3)) (pa_nil))) (pg_tupC rfl (pgs_cons (pg_name (i := 1) sc__law_step.nd rfl (Or.inl rfl)) (pgs_cons (pg_name (i := 2) sc__law_step.nd rfl (Or.inr rfl)) (pgs_nil)))) (pss_cons (ps_putS hr.units (pv 0) (pe_lcL (own := [("one", 3)]) (g := gName 3) (tt := tTest (tOp (rNe) (tOp gIxT (tVar 3) (tC (.int 1))) (tVar 2))) (te := tVar 3) rfl sc__law_step.nd (pe_getS hr.units (pv 0)) (blkOk_by (own := [("one", 3)]) (N := N__law_step) (sc := defScope s__law_step) (by decide +kernel)) (fun _ _ _ _ _ => pg_name (i := 3) sc__law_step.nd rfl (Or.inl rfl)) (fun _ _ _ _ _ => pts_one (pt_cmpR op_ne (pe_ix ixT (pv 3) (pe_int) (fun _ _ => rfl)) (pv 2) (nomark _))) (fun _ _ _ _ _ => pv 3)) rfl) (pss_one (ps_expr (pe_cal c__law_come (hr.mono (by decide)) (T.glo 23) pxOf (pa_cons (pv 0) (pa_cons (pv 2) (pa_nil)))))))) (pss_cons (ps_forL poOf rfl (pe_callTy listL (by rfl) (T.free 46) (by decide +kernel) (pa_cons (pe_getS hr.units (pv 0)) (pa_nil))) (pg_name (i := 2) sc__law_step.nd rfl (Or.inr rfl)) (pss_one (ps_if (pt_cmpR op_ge (pe_op op_sub (pe_getS hr.units (pv 0)) (pe_ix ixT (pe_ix ixL (pe_getS hr.units (pv 0)) (pe_op op_sub (pv 2) (pe_int)) (fun _ _ => rfl)) (pe_int) (fun _ _ => rfl))) (pe_getS hr.units (pv 0)) (nomark _)) (pss_cons (ps_putS hr.units (pv 0) (pe_lcL (own := [("one", 3)]) (g := gName 3) (tt := tTest (tOp (rNe) (tVar 3) (tVar 2))) (te := tVar 3) rfl sc__law_step.nd (pe_getS hr.units (pv 0)) (blkOk_by (own := [("one", 3)]) (N := N__law_step) (sc := defScope s__law_step) (by decide +kernel)) (fun _ _ _ _ _ => pg_name (i := 3) sc__law_step.nd rfl (Or.inl rfl)) (fun _ _ _ _ _ => pts_one (pt_cmpR op_ne (pv 3) (pv 2) (nomark _))) (fun _ _ _ _ _ => pv 3)) rfl) (pss_one (ps_if (pt_cmpR inL (pv 2) (pe_getS hr.units (pv 0)) (by rfl)) (pss_cons (ps_putS hr.units (pv 0) (pe_lcL (own := [("one", 3)]) (g := gName 3) (tt := tTest (tOp (rNe) (tVar 3) (tVar 2))) (te := tVar 3) rfl sc__law_step.nd (pe_getS hr.units (pv 0)) (blkOk_by (own := [("one", 3)]) (N := N__law_step) (sc := defScope s__law_step) (by decide +kernel)) (fun _ _ _ _ _ => pg_name (i := 3) sc__law_step.nd rfl (Or.inl rfl)) (fun _ _ _ _ _ => pts_one (pt_cmpR op_ne (pv 3) (pv 2) (nomark _))) (fun _ _ _ _ _ => pv 3)) rfl) (pss_cons (ps_expr (pe_bmC PySem.F.plainAttrs_list PySem.F.slot_list_append PySem.F.type_list_append mt_append (pe_getS hr.units (pv 0)) (pa_cons (pe_tup (pa_cons (pe_str) (pa_cons (pv 2) (pa_nil)))) (pa_nil)))) (pss_one (ps_putS hr.units (pv 0) (pe_cmpR op_lt (pe_getS hr.units (pv 0)) (pe_int) (nomark _)) rfl)))) (pss_nil)))) (pss_nil)))) (pss_one (ps_expr (pe_cal c__law_ask (hr.mono (by decide)) (T.glo 21) pxOf (pa_cons (pv 0) (pa_nil))))))))) pure__law_step
abbrev N__law_call : List Str := ["script", "town", "asker", "own", "store", "way", "due", "row", "many", "k"]
theorem sc__law_call : FnScope N__law_call ["script", "town", "asker", "own", "store"] (defScope s__law_call) := ⟨rfl, rfl, rfl, by decide +kernel, rfl, by decide +kernel, by decide +kernel⟩
theorem cal__law_call {P : Program} {w : World} {K : PySem.W.Frag} {mg : Str → Option Value} {base : Heap} (T : TX fa K mg isQ) (hd : ∃ fd, FunD K d64.name d64.qual d64.params d64.body d64.scope (d64.dvs K) (d64.kws K) (He.fAd K d64.at_) fd) (c__law_draw : Cal P w K mg base 3 ("_law_draw", none) ["script", "town", "many"] (sp__law_draw K)) (c__law_typed : Cal P w K mg base 10 ("_law_typed", none) ["script", "town", "asker", "own"] (sp__law_typed K)) (c__law_folded : Cal P w K mg base 1 ("_law_folded", none) ["text"] (sp__law_folded K)) (c__law_ask : Cal P w K mg base 2 ("_law_ask", none) ["own"] (sp__law_ask K)) (c__law_told : Cal P w K mg base 9 ("_law_told", none) ["asker", "word", "one"] (sp__law_told K)) (c__law_row : Cal P w K mg base 5 ("_law_row", none) ["script", "town"] (sp__law_row K)) (c_Store_remove : Cal P w K mg base 1 ("Store", some "remove") ["self", "row"] (sp_Store_remove K)) (c_Store_add : Cal P w K mg base 3 ("Store", some "add") ["self", "row"] (sp_Store_add K)) (c__law_pick : Cal P w K mg base 4 ("_law_pick", none) ["script", "town", "some"] (sp__law_pick K)) (c__law_step : Cal P w K mg base 6 ("_law_step", none) ["own"] (sp__law_step K)) :
    Cal P w K mg base 11 ("_law_call", none) ["script", "town", "asker", "own", "store"] (sp__law_call K) :=
  cal_of (d := d64) (N := N__law_call) (t := t__law_call K) hd rfl rfl sc__law_call len__law_call (fun _ _ _ _ _ _ us hl => match us, hl with | [_, _, _, _, _], _ => rfl) (fun cdv A outer s H E hr => (pss_cons (ps_set (i := 5) sc__law_call.nd rfl (Or.inl rfl) (pe_cal c__law_draw (hr.mono (by decide)) (T.glo 8) pxOf (pa_cons (pv 0) (pa_cons (pv 1) (pa_cons (pe_int) (pa_nil)))))) (pss_cons (ps_if (pt_cmpR op_lt (pv 5) (pe_int) (nomark _)) (pss_one (ps_ret (pe_cal c__law_typed (hr.mono (by decide)) (T.glo 30) pxOf (pa_cons (pv 0) (pa_cons (pv 1) (pa_cons (pv 2) (pa_cons (pv 3) (pa_nil)))))))) (pss_nil)) (pss_cons (ps_if (pt_cmpR op_eq (pv 5) (pe_int) (nomark _)) (pss_cons (ps_set (i := 6) sc__law_call.nd rfl (Or.inl rfl) (pe_tup (pa_cons (pe_str) (pa_cons (pe_str) (pa_nil))))) (pss_cons (ps_if (PW.pt (pw_and (pt_cmpR op_ne (pe_cal c__law_folded (hr.mono (by decide)) (T.glo 11) pxOf (pa_cons (pe_getS hr.units (pv 3)) (pa_nil))) (pe_str) (nomark _)) (pw_and1 (pt_cmpR (eqD hr.units) (pe_getS hr.units (pv 3)) (pe_lst (pa_nil)) (nomark _))))) (pss_cons (ps_set (i := 6) sc__law_call.nd rfl (Or.inl rfl) (pe_non)) (pss_cons (ps_putS hr.units (pv 3) (pe_lst (pa_nil)) rfl) (pss_cons (ps_putS hr.units (pv 3) (pe_bl) rfl) (pss_cons (ps_putS hr.units (pv 3) (pe_int) rfl) (pss_cons (ps_putS hr.units (pv 3) (pe_op op_sub (pe_getS hr.units (pv 3)) (pe_getS hr.units (pv 3))) rfl) (pss_one (ps_expr (pe_cal c__law_ask (hr.mono (by decide)) (T.glo 21) pxOf (pa_cons (pv 3) (pa_nil)))))))))) (pss_nil)) (pss_one (ps_ret (pe_cmpR (eqD hr.units) (pe_cal c__law_told (hr.mono (by decide)) (T.glo 29) pxOf (pa_cons (pv 2) (pa_cons (pe_str) (pa_cons (pe_str) (pa_nil))))) (pv 6) (nomark _)))))) (pss_nil)) (pss_cons (ps_if (pt_cmpR op_eq (pv 5) (pe_int) (nomark _)) (pss_cons (ps_set (i := 7) sc__law_call.nd rfl (Or.inl rfl) (pe_cal c__law_row (hr.mono (by decide)) (T.glo 14) pxOf (pa_cons (pv 0) (pa_cons (pv 1) (pa_nil))))) (pss_cons (ps_if (pt_cmpR inL (pv 7) (pe_getS hr.units (pv 3)) (by rfl)) (pss_cons (ps_expr (pe_bmC PySem.F.plainAttrs_list PySem.F.slot_list_remove PySem.F.type_list_remove mtRemS (pe_getS hr.units (pv 3)) (pa_cons (pv 7) (pa_nil)))) (pss_one (ps_expr (pe_calM c_Store_remove (T.cls 67) (T.meth 71) (hr.mono (by decide)) pxOf (pv 4) (pa_cons (pv 7) (pa_nil)))))) (pss_one (ps_if (PW.pt (pw_and (pt_cmpR op_lt (pe_callB lenL (by rfl) (T.free 45) (by decide +kernel) (pa_cons (pe_getS hr.units (pv 3)) (pa_nil))) (pe_int) (nomark _)) (pw_and1 (pt_cmpR op_ne (pe_cal c__law_folded (hr.mono (by decide)) (T.glo 11) pxOf (pa_cons (pv 7) (pa_nil))) (pe_str) (nomark _))))) (pss_cons (ps_expr (pe_bmC PySem.F.plainAttrs_list PySem.F.slot_list_append PySem.F.type_list_append mt_append (pe_getS hr.units (pv 3)) (pa_cons (pv 7) (pa_nil)))) (pss_one (ps_expr (pe_calM c_Store_add (T.cls 67) (T.meth 70) (hr.mono (by decide)) pxOf (pv 4) (pa_cons (pv 7) (pa_nil)))))) (pss_nil)))) (pss_one (ps_ret (pe_cmpR (eqD hr.units) (pe_cal c__law_told (hr.mono (by decide)) (T.glo 29) pxOf (pa_cons (pv 2) (pa_cons (pe_str) (pa_cons (pe_cal c__law_pick (hr.mono (by decide)) (T.glo 9) pxOf (pa_cons (pv 0) (pa_cons (pv 1) (pa_cons (pe_lst (pa_cons (pe_un un_neg (pe_int)) (pa_cons (pe_int) (pa_nil)))) (pa_nil))))) (pa_nil))))) (pe_tup (pa_cons (pe_str) (pa_cons (pe_str) (pa_nil)))) (nomark _)))))) (pss_nil)) (pss_cons (ps_set (i := 8) sc__law_call.nd rfl (Or.inl rfl) (pe_cal c__law_pick (hr.mono (by decide)) (T.glo 9) pxOf (pa_cons (pv 0) (pa_cons (pv 1) (pa_cons (pe_lst (pa_cons (pe_int) (pa_cons (pe_int) (pa_cons (pe_int) (pa_cons (pe_int) (pa_cons (pe_int) (pa_cons (pe_cal c__law_draw (hr.mono (by decide)) (T.glo 8) pxOf (pa_cons (pv 0) (pa_cons (pv 1) (pa_cons (pe_int) (pa_nil))))) (pa_nil)))))))) (pa_nil)))))) (pss_cons (ps_forR1 poOf rfl rfl (T.free 49) (pa_cons (pv 8) (pa_nil)) (pg_name (i := 9) sc__law_call.nd rfl (Or.inl rfl)) (pss_one (ps_expr (pe_cal c__law_step (hr.mono (by decide)) (T.glo 24) pxOf (pa_cons (pv 3) (pa_nil)))))) (pss_one (ps_ret (pe_cmpR op_isN1 (pe_cal c__law_told (hr.mono (by decide)) (T.glo 29) pxOf (pa_cons (pv 2) (pa_cons (pe_str) (pa_cons (pv 8) (pa_nil))))) (pe_non) (nomark _))))))))))) pure__law_call
abbrev N_Asker_view : List Str := ["self", "word"]
theorem sc_Asker_view : FnScope N_Asker_view ["self"] (defScope s_Asker_view) := ⟨rfl, rfl, rfl, by decide +kernel, rfl, by decide +kernel, by decide +kernel⟩
theorem cal_Asker_view {P : Program} {w : World} {K : PySem.W.Frag} {mg : Str → Option Value} {base : Heap} (T : TX fa K mg isQ) (hd : ∃ fd, FunD K d26.name d26.qual d26.params d26.body d26.scope (d26.dvs K) (d26.kws K) (He.fAd K d26.at_) fd) (c_Asker_is_fresh : Cal P w K mg base 3 ("Asker", some "is_fresh") ["self"] (sp_Asker_is_fresh K)) :
    Cal P w K mg base 4 ("Asker", some "view") ["self"] (sp_Asker_view K) :=
  cal_of (d := d26) (N := N_Asker_view) (t := t_Asker_view K) hd rfl rfl sc_Asker_view len_Asker_view (fun _ _ _ _ _ _ us hl => match us, hl with | [_], _ => rfl) (fun cdv A outer s H E hr => (pss_cons (ps_if (pt_cmpR op_isN1 (pe_fldC (T.cls 74) (T.noat 90) (pv 0) rfl) (pe_non) (nomark _)) (pss_one (ps_ret (pe_tup (pa_cons (pe_str) (pa_cons (pe_str) (pa_cons (pe_lst (pa_nil)) (pa_nil))))))) (pss_nil)) (pss_cons (ps_set (i := 1) sc_Asker_view.nd rfl (Or.inl rfl) (pe_ifExp (pt_val (pe_calM0 c_Asker_is_fresh (T.cls 74) (T.meth 99) (hr.mono (by decide)) pxOf (pv 0))) (pe_str) (pe_str))) (pss_one (ps_ret (pe_tup (pa_cons (pv 1) (pa_cons (pe_ix ixT (pe_fldC (T.cls 74) (T.noat 90) (pv 0) rfl) (pe_int) (fun _ _ => rfl)) (pa_cons (pe_callTy listL (by rfl) (T.free 46) (by decide +kernel) (pa_cons (pe_ix ixT (pe_fldC (T.cls 74) (T.noat 90) (pv 0) rfl) (pe_int) (fun _ _ => rfl)) (pa_nil))) (pa_nil)))))))))) pure_Asker_view
abbrev N__law_view : List Str := ["own", "is_fresh"]
theorem sc__law_view : FnScope N__law_view ["own"] (defScope s__law_view) := ⟨rfl, rfl, rfl, by decide +kernel, rfl, by decide +kernel, by decide +kernel⟩
theorem cal__law_view {P : Program} {w : World} {K : PySem.W.Frag} {mg : Str → Option Value} {base : Heap} (T : TX fa K mg isQ) (hd : ∃ fd, FunD K d58.name d58.qual d58.params d58.body d58.scope (d58.dvs K) (d58.kws K) (He.fAd K d58.at_) fd) (c__law_folded : Cal P w K mg base 1 ("_law_folded", none) ["text"] (sp__law_folded K)) :
    Cal P w K mg base 2 ("_law_view", none) ["own"] (sp__law_view K) :=
  cal_of (d := d58) (N := N__law_view) (t := t__law_view K) hd rfl rfl sc__law_view len__law_view (fun _ _ _ _ _ _ us hl => match us, hl with | [_], _ => rfl) (fun cdv A outer s H E hr => (pss_cons (ps_if (pt_cmpR op_isN1 (pe_getS hr.units (pv 0)) (pe_non) (nomark _)) (pss_one (ps_ret (pe_tup (pa_cons (pe_str) (pa_cons (pe_str) (pa_cons (pe_lst (pa_nil)) (pa_nil))))))) (pss_nil)) (pss_cons (ps_set (i := 1) sc__law_view.nd rfl (Or.inl rfl) (pe_and (pe_cmpR op_eq (pe_ix ixT (pe_getS hr.units (pv 0)) (pe_int) (fun _ _ => rfl)) (pe_cal c__law_folded (hr.mono (by decide)) (T.glo 11) pxOf (pa_cons (pe_getS hr.units (pv 0)) (pa_nil))) (nomark _)) (pe_one (pe_not (pe_ix ixT (pe_getS hr.units (pv 0)) (pe_int) (fun _ _ => rfl)))))) (pss_one (ps_ret (pe_tup (pa_cons (pe_ix ixL (pe_lst (pa_cons (pe_str) (pa_cons (pe_str) (pa_nil)))) (pe_callTy intB (by rfl) (T.free 43) (by decide +kernel) (pa_cons (pv 1) (pa_nil))) (fun _ _ => rfl)) (pa_cons (pe_ix ixT (pe_getS hr.units (pv 0)) (pe_int) (fun _ _ => rfl)) (pa_cons (pe_ix ixT (pe_getS hr.units (pv 0)) (pe_int) (fun _ _ => rfl)) (pa_nil)))))))))) pure__law_view
abbrev N_Asker_is_waiting : List Str := ["self"]
theorem sc_Asker_is_waiting : FnScope N_Asker_is_waiting ["self"] (defScope s_Asker_is_waiting) := ⟨rfl, rfl, rfl, by decide +kernel, rfl, by decide +kernel, by decide +kernel⟩
theorem cal_Asker_is_waiting {P : Program} {w : World} {K : PySem.W.Frag} {mg : Str → Option Value} {base : Heap} (T : TX fa K mg isQ) (hd : ∃ fd, FunD K d27.name d27.qual d27.params d27.body d27.scope (d27.dvs K) (d27.kws K) (He.fAd K d27.at_) fd)  :
    Cal P w K mg base 1 ("Asker", some "is_waiting") ["self"] (sp_Asker_is_waiting K) :=
  cal_of (d := d27) (N := N_Asker_is_waiting) (t := t_Asker_is_waiting K) hd rfl rfl sc_Asker_is_waiting len_Asker_is_waiting (fun _ _ _ _ _ _ us hl => match us, hl with | [_], _ => rfl) (fun cdv A outer s H E hr => (pss_one (ps_ret (pe_or (pe_fldC (T.cls 74) (T.noat 86) (pv 0) rfl) (pe_one (pe_cmpR op_gt (pe_callB lenI (by rfl) (T.free 45) (by decide +kernel) (pa_cons (pe_fldC (T.cls 74) (T.noat 88) (pv 0) rfl) (pa_nil))) (pe_int) (nomark _))))))) pure_Asker_is_waiting
abbrev N_Asker_log : List Str := ["self"]
theorem sc_Asker_log : FnScope N_Asker_log ["self"] (defScope s_Asker_log) := ⟨rfl, rfl, rfl, by decide +kernel, rfl, by decide +kernel, by decide +kernel⟩
theorem cal_Asker_log {P : Program} {w : World} {K : PySem.W.Frag} {mg : Str → Option Value} {base : Heap} (T : TX fa K mg isQ) (hd : ∃ fd, FunD K d28.name d28.qual d28.params d28.body d28.scope (d28.dvs K) (d28.kws K) (He.fAd K d28.at_) fd)  :
    Cal P w K mg base 1 ("Asker", some "log") ["self"] (sp_Asker_log K) :=
  cal_of (d := d28) (N := N_Asker_log) (t := t_Asker_log K) hd rfl rfl sc_Asker_log len_Asker_log (fun _ _ _ _ _ _ us hl => match us, hl with | [_], _ => rfl) (fun cdv A outer s H E hr => (pss_one (ps_ret (pe_callTy listL (by rfl) (T.free 46) (by decide +kernel) (pa_cons (pe_fldC (T.cls 74) (T.noat 91) (pv 0) rfl) (pa_nil)))))) pure_Asker_log
abbrev N_Asker_typed : List Str := ["self"]
theorem sc_Asker_typed : FnScope N_Asker_typed ["self"] (defScope s_Asker_typed) := ⟨rfl, rfl, rfl, by decide +kernel, rfl, by decide +kernel, by decide +kernel⟩
theorem cal_Asker_typed {P : Program} {w : World} {K : PySem.W.Frag} {mg : Str → Option Value} {base : Heap} (T : TX fa K mg isQ) (hd : ∃ fd, FunD K d13.name d13.qual d13.params d13.body d13.scope (d13.dvs K) (d13.kws K) (He.fAd K d13.at_) fd)  :
    Cal P w K mg base 1 ("Asker", some "typed") ["self"] (sp_Asker_typed K) :=
  cal_of (d := d13) (N := N_Asker_typed) (t := t_Asker_typed K) hd rfl rfl sc_Asker_typed len_Asker_typed (fun _ _ _ _ _ _ us hl => match us, hl with | [_], _ => rfl) (fun cdv A outer s H E hr => (pss_one (ps_ret (pe_fldC (T.cls 74) (T.noat 84) (pv 0) rfl)))) pure_Asker_typed
abbrev N_Asker_clock : List Str := ["self"]
theorem sc_Asker_clock : FnScope N_Asker_clock ["self"] (defScope s_Asker_clock) := ⟨rfl, rfl, rfl, by decide +kernel, rfl, by decide +kernel, by decide +kernel⟩
theorem cal_Asker_clock {P : Program} {w : World} {K : PySem.W.Frag} {mg : Str → Option Value} {base : Heap} (T : TX fa K mg isQ) (hd : ∃ fd, FunD K d12.name d12.qual d12.params d12.body d12.scope (d12.dvs K) (d12.kws K) (He.fAd K d12.at_) fd)  :
    Cal P w K mg base 1 ("Asker", some "clock") ["self"] (sp_Asker_clock K) :=
  cal_of (d := d12) (N := N_Asker_clock) (t := t_Asker_clock K) hd rfl rfl sc_Asker_clock len_Asker_clock (fun _ _ _ _ _ _ us hl => match us, hl with | [_], _ => rfl) (fun cdv A outer s H E hr => (pss_one (ps_ret (pe_fldC (T.cls 74) (T.noat 83) (pv 0) rfl)))) pure_Asker_clock
abbrev N_law : List Str := ["script", "town", "rows", "delays", "most", "term", "rules", "store", "asker", "own", "k"]
theorem sc_law : FnScope N_law ["script"] (defScope s_law) := ⟨rfl, rfl, rfl, by decide +kernel, rfl, by decide +kernel, by decide +kernel⟩
theorem hE_law {K : PySem.W.Frag} : ∀ vs H Q E E', sp_law K vs H Q E → sp_law K vs H Q E' := fun _ _ _ _ _ h => h
theorem facts {P : Program} {w : World} {K : PySem.W.Frag} {h : Heap} {mg : Str → Option Value} {f : Addr} (X : K.In h) (G : h.Ns mainGlobals mg) (hfa : mg ("law" : Str) = some (.ref f)) (c : He.SaysX fa fn [] [] isQ w h K) :
    ∃ fd : FuncData, (∀ (s : Shared) (v : Value), BindsTo s fd ⟨[v], []⟩ [("script", v)]) ∧ ∀ base : Heap, K.In base → base.Ns mainGlobals mg → FnOk P w K mg base CX0 12 f fd ["script"] (sp_law K) := by
  have T : TX fa K mg isQ := tx_of X G c
  obtain ⟨fd, F⟩ := He.SaysD.def_ c.t.d 65 (d := d65) rfl
  have e := hfa.symm.trans (T.glo 32)
  cases e
  have b := FunD.bindsA (ps := ["script"]) F fun _ _ _ _ _ _ us hl => match us, hl with | [_], _ => rfl
  refine ⟨fd, fun s v => b s [v] rfl, fun base _ _ => ?_⟩
  have c__law_cell := cal__law_cell (P := P) (w := w) (K := K) (mg := mg) (base := base) T (He.SaysD.def_ c.t.d 39 (d := d39) rfl) 
  have c__law_mix := cal__law_mix (P := P) (w := w) (K := K) (mg := mg) (base := base) T (He.SaysD.def_ c.t.d 40 (d := d40) rfl) c__law_cell
  have c__law_draw := cal__law_draw (P := P) (w := w) (K := K) (mg := mg) (base := base) T (He.SaysD.def_ c.t.d 41 (d := d41) rfl) c__law_mix
  have c__law_pick := cal__law_pick (P := P) (w := w) (K := K) (mg := mg) (base := base) T (He.SaysD.def_ c.t.d 42 (d := d42) rfl) c__law_draw
  have c__law_row := cal__law_row (P := P) (w := w) (K := K) (mg := mg) (base := base) T (He.SaysD.def_ c.t.d 47 (d := d47) rfl) c__law_draw c__law_pick
  have c__law_folded := cal__law_folded (P := P) (w := w) (K := K) (mg := mg) (base := base) T (He.SaysD.def_ c.t.d 44 (d := d44) rfl) 
  have c__law_rows := cal__law_rows (P := P) (w := w) (K := K) (mg := mg) (base := base) T (He.SaysD.def_ c.t.d 48 (d := d48) rfl) c__law_draw c__law_row c__law_folded
  have c__law_delays := cal__law_delays (P := P) (w := w) (K := K) (mg := mg) (base := base) T (He.SaysD.def_ c.t.d 60 (d := d60) rfl) c__law_draw c__law_pick
  have c__law_rules := cal__law_rules (P := P) (w := w) (K := K) (mg := mg) (base := base) T (He.SaysD.def_ c.t.d 59 (d := d59) rfl) c__law_draw c__law_pick
  have c_Store___init__ := cal_Store___init__ (P := P) (w := w) (K := K) (mg := mg) (base := base) T (He.SaysD.def_ c.t.d 6 (d := d6) rfl) 
  have c_look_text := cal_look_text (P := P) (w := w) (K := K) (mg := mg) (base := base) T (He.SaysD.def_ c.t.d 1 (d := d1) rfl) 
  have c_folded := cal_folded (P := P) (w := w) (K := K) (mg := mg) (base := base) T (He.SaysD.def_ c.t.d 2 (d := d2) rfl) c_look_text
  have c_Store_add := cal_Store_add (P := P) (w := w) (K := K) (mg := mg) (base := base) T (He.SaysD.def_ c.t.d 7 (d := d7) rfl) c_look_text c_folded
  have c__law_store := cal__law_store (P := P) (w := w) (K := K) (mg := mg) (base := base) T (He.SaysD.def_ c.t.d 61 (d := d61) rfl) c_Store___init__ c_Store_add
  have c_Road___init__ := cal_Road___init__ (P := P) (w := w) (K := K) (mg := mg) (base := base) T (He.SaysD.def_ c.t.d 29 (d := d29) rfl) 
  have c_Shelf___init__ := cal_Shelf___init__ (P := P) (w := w) (K := K) (mg := mg) (base := base) T (He.SaysD.def_ c.t.d 33 (d := d33) rfl) 
  have c_look_many := cal_look_many (P := P) (w := w) (K := K) (mg := mg) (base := base) T (He.SaysD.def_ c.t.d 4 (d := d4) rfl) 
  have c_Asker___init__ := cal_Asker___init__ (P := P) (w := w) (K := K) (mg := mg) (base := base) T (He.SaysD.def_ c.t.d 11 (d := d11) rfl) c_look_many
  have c__law_asker := cal__law_asker (P := P) (w := w) (K := K) (mg := mg) (base := base) T (He.SaysD.def_ c.t.d 50 (d := d50) rfl) 
  have c__law_query := cal__law_query (P := P) (w := w) (K := K) (mg := mg) (base := base) T (He.SaysD.def_ c.t.d 49 (d := d49) rfl) c__law_draw c__law_pick
  have c_Asker_drop_other := cal_Asker_drop_other (P := P) (w := w) (K := K) (mg := mg) (base := base) T (He.SaysD.def_ c.t.d 17 (d := d17) rfl) c_folded
  have c_Shelf_source := cal_Shelf_source (P := P) (w := w) (K := K) (mg := mg) (base := base) T (He.SaysD.def_ c.t.d 36 (d := d36) rfl) c_folded
  have c_rank := cal_rank (P := P) (w := w) (K := K) (mg := mg) (base := base) T (He.SaysD.def_ c.t.d 3 (d := d3) rfl) c_look_text c_folded
  have c_best := cal_best (P := P) (w := w) (K := K) (mg := mg) (base := base) T (He.SaysD.def_ c.t.d 5 (d := d5) rfl) c_rank c_folded
  have c_Shelf_get := cal_Shelf_get (P := P) (w := w) (K := K) (mg := mg) (base := base) T (He.SaysD.def_ c.t.d 37 (d := d37) rfl) c_Shelf_source c_best
  have c_Asker_show := cal_Asker_show (P := P) (w := w) (K := K) (mg := mg) (base := base) T (He.SaysD.def_ c.t.d 20 (d := d20) rfl) c_folded c_Asker_drop_other
  have c_Asker_is_fresh := cal_Asker_is_fresh (P := P) (w := w) (K := K) (mg := mg) (base := base) T (He.SaysD.def_ c.t.d 19 (d := d19) rfl) c_folded
  have c_Asker_look_near := cal_Asker_look_near (P := P) (w := w) (K := K) (mg := mg) (base := base) T (He.SaysD.def_ c.t.d 18 (d := d18) rfl) c_folded c_Shelf_get c_Asker_show c_Asker_is_fresh c_best
  have c_Road_send := cal_Road_send (P := P) (w := w) (K := K) (mg := mg) (base := base) T (He.SaysD.def_ c.t.d 30 (d := d30) rfl) 
  have c_Asker_ask_if_due := cal_Asker_ask_if_due (P := P) (w := w) (K := K) (mg := mg) (base := base) T (He.SaysD.def_ c.t.d 21 (d := d21) rfl) c_Road_send c_folded
  have c_Asker_put := cal_Asker_put (P := P) (w := w) (K := K) (mg := mg) (base := base) T (He.SaysD.def_ c.t.d 14 (d := d14) rfl) c_look_text c_folded c_Asker_drop_other c_Asker_look_near c_Asker_ask_if_due
  have c_Asker_key := cal_Asker_key (P := P) (w := w) (K := K) (mg := mg) (base := base) T (He.SaysD.def_ c.t.d 15 (d := d15) rfl) c_Asker_put
  have c_Road_due := cal_Road_due (P := P) (w := w) (K := K) (mg := mg) (base := base) T (He.SaysD.def_ c.t.d 31 (d := d31) rfl) 
  have c_Store_answer := cal_Store_answer (P := P) (w := w) (K := K) (mg := mg) (base := base) T (He.SaysD.def_ c.t.d 10 (d := d10) rfl) c_look_many c_look_text c_best
  have c_Shelf_put := cal_Shelf_put (P := P) (w := w) (K := K) (mg := mg) (base := base) T (He.SaysD.def_ c.t.d 34 (d := d34) rfl) c_folded
  have c_Asker_try_again := cal_Asker_try_again (P := P) (w := w) (K := K) (mg := mg) (base := base) T (He.SaysD.def_ c.t.d 23 (d := d23) rfl) 
  have c_Asker_step := cal_Asker_step (P := P) (w := w) (K := K) (mg := mg) (base := base) T (He.SaysD.def_ c.t.d 22 (d := d22) rfl) c_Road_due c_Store_answer c_Shelf_put c_Asker_show c_Asker_look_near c_Asker_try_again c_Asker_ask_if_due
  have c_Asker_tick := cal_Asker_tick (P := P) (w := w) (K := K) (mg := mg) (base := base) T (He.SaysD.def_ c.t.d 24 (d := d24) rfl) c_Asker_step
  have c_Asker_rub := cal_Asker_rub (P := P) (w := w) (K := K) (mg := mg) (base := base) T (He.SaysD.def_ c.t.d 16 (d := d16) rfl) c_Asker_put
  have c_Shelf_clear := cal_Shelf_clear (P := P) (w := w) (K := K) (mg := mg) (base := base) T (He.SaysD.def_ c.t.d 38 (d := d38) rfl) 
  have c_Asker_again := cal_Asker_again (P := P) (w := w) (K := K) (mg := mg) (base := base) T (He.SaysD.def_ c.t.d 25 (d := d25) rfl) c_folded c_Shelf_clear c_Asker_ask_if_due
  have c__law_refusal := cal__law_refusal (P := P) (w := w) (K := K) (mg := mg) (base := base) T (He.SaysD.def_ c.t.d 43 (d := d43) rfl) 
  have c__law_told := cal__law_told (P := P) (w := w) (K := K) (mg := mg) (base := base) T (He.SaysD.def_ c.t.d 62 (d := d62) rfl) c_Asker_put c_Asker_key c_Asker_tick c_Asker_rub c_Asker_again c__law_refusal
  have c__law_off := cal__law_off (P := P) (w := w) (K := K) (mg := mg) (base := base) T (He.SaysD.def_ c.t.d 53 (d := d53) rfl) 
  have c__law_rank := cal__law_rank (P := P) (w := w) (K := K) (mg := mg) (base := base) T (He.SaysD.def_ c.t.d 45 (d := d45) rfl) c__law_folded
  have c__law_best := cal__law_best (P := P) (w := w) (K := K) (mg := mg) (base := base) T (He.SaysD.def_ c.t.d 46 (d := d46) rfl) c__law_rank c__law_folded
  have c__law_show := cal__law_show (P := P) (w := w) (K := K) (mg := mg) (base := base) T (He.SaysD.def_ c.t.d 52 (d := d52) rfl) c__law_folded c__law_off
  have c__law_near := cal__law_near (P := P) (w := w) (K := K) (mg := mg) (base := base) T (He.SaysD.def_ c.t.d 51 (d := d51) rfl) c__law_folded c__law_best c__law_show
  have c__law_ask := cal__law_ask (P := P) (w := w) (K := K) (mg := mg) (base := base) T (He.SaysD.def_ c.t.d 54 (d := d54) rfl) c__law_folded
  have c__law_put := cal__law_put (P := P) (w := w) (K := K) (mg := mg) (base := base) T (He.SaysD.def_ c.t.d 55 (d := d55) rfl) c__law_folded c__law_off c__law_near c__law_ask
  have c__law_typed := cal__law_typed (P := P) (w := w) (K := K) (mg := mg) (base := base) T (He.SaysD.def_ c.t.d 63 (d := d63) rfl) c__law_draw c__law_query c__law_pick c__law_told c__law_put
  have c_Store_remove := cal_Store_remove (P := P) (w := w) (K := K) (mg := mg) (base := base) T (He.SaysD.def_ c.t.d 8 (d := d8) rfl) 
  have c__law_come := cal__law_come (P := P) (w := w) (K := K) (mg := mg) (base := base) T (He.SaysD.def_ c.t.d 56 (d := d56) rfl) c__law_best c__law_folded c__law_show c__law_near
  have c__law_step := cal__law_step (P := P) (w := w) (K := K) (mg := mg) (base := base) T (He.SaysD.def_ c.t.d 57 (d := d57) rfl) c__law_come c__law_ask
  have c__law_call := cal__law_call (P := P) (w := w) (K := K) (mg := mg) (base := base) T (He.SaysD.def_ c.t.d 64 (d := d64) rfl) c__law_draw c__law_typed c__law_folded c__law_ask c__law_told c__law_row c_Store_remove c_Store_add c__law_pick c__law_step
  have c_Asker_view := cal_Asker_view (P := P) (w := w) (K := K) (mg := mg) (base := base) T (He.SaysD.def_ c.t.d 26 (d := d26) rfl) c_Asker_is_fresh
  have c__law_view := cal__law_view (P := P) (w := w) (K := K) (mg := mg) (base := base) T (He.SaysD.def_ c.t.d 58 (d := d58) rfl) c__law_folded
  have c_Asker_is_waiting := cal_Asker_is_waiting (P := P) (w := w) (K := K) (mg := mg) (base := base) T (He.SaysD.def_ c.t.d 27 (d := d27) rfl) 
  have c_Asker_log := cal_Asker_log (P := P) (w := w) (K := K) (mg := mg) (base := base) T (He.SaysD.def_ c.t.d 28 (d := d28) rfl) 
  have c_Asker_typed := cal_Asker_typed (P := P) (w := w) (K := K) (mg := mg) (base := base) T (He.SaysD.def_ c.t.d 13 (d := d13) rfl) 
  have c_Asker_clock := cal_Asker_clock (P := P) (w := w) (K := K) (mg := mg) (base := base) T (He.SaysD.def_ c.t.d 12 (d := d12) rfl) 
  exact law_of (d := d65) (N := N_law) (t := t_law K) F sc_law len_law hE_law (fun cdv A outer s H E hr => (pss_cons (ps_set (i := 1) sc_law.nd rfl (Or.inl rfl) (pe_lst (pa_nil))) (pss_cons (ps_set (i := 2) sc_law.nd rfl (Or.inl rfl) (pe_cal c__law_rows (hr.mono (by decide)) (T.glo 15) pxOf (pa_cons (pv 0) (pa_cons (pv 1) (pa_cons (pe_int) (pa_nil)))))) (pss_cons (ps_set (i := 3) sc_law.nd rfl (Or.inl rfl) (pe_cal c__law_delays (hr.mono (by decide)) (T.glo 27) pxOf (pa_cons (pv 0) (pa_cons (pv 1) (pa_cons (pe_bl) (pa_nil)))))) (pss_cons (ps_set (i := 4) sc_law.nd rfl (Or.inl rfl) (pe_cal c__law_draw (hr.mono (by decide)) (T.glo 8) pxOf (pa_cons (pv 0) (pa_cons (pv 1) (pa_cons (pe_int) (pa_nil)))))) (pss_cons (ps_set (i := 5) sc_law.nd rfl (Or.inl rfl) (pe_op op_add (pe_int) (pe_cal c__law_draw (hr.mono (by decide)) (T.glo 8) pxOf (pa_cons (pv 0) (pa_cons (pv 1) (pa_cons (pe_int) (pa_nil))))))) (pss_cons (ps_set (i := 6) sc_law.nd rfl (Or.inl rfl) (pe_cal c__law_rules (hr.mono (by decide)) (T.glo 26) pxOf (pa_cons (pv 0) (pa_cons (pv 1) (pa_nil))))) (pss_cons (ps_set (i := 7) sc_law.nd rfl (Or.inl rfl) (pe_cal c__law_store (hr.mono (by decide)) (T.glo 28) pxOf (pa_cons (pv 2) (pa_nil)))) (pss_cons (ps_set (i := 8) sc_law.nd rfl (Or.inl rfl) (pe_calC c_Asker___init__ (T.mkr 75) (hr.mono (by decide)) (T.glo 38) pxOf (pa_cons (pv 7) (pa_cons (pe_calC c_Road___init__ (T.mkr 110) (hr.mono (by decide)) (T.glo 39) pxOf (pa_cons (pv 3) (pa_nil))) (pa_cons (pe_calC c_Shelf___init__ (T.mkr 118) (hr.mono (by decide)) (T.glo 40) pxOf (pa_cons (pv 4) (pa_cons (pv 5) (pa_nil)))) (pa_cons (pe_ix ixT (pv 6) (pe_int) (fun _ _ => rfl)) (pa_cons (pe_ix ixT (pv 6) (pe_int) (fun _ _ => rfl)) (pa_cons (pe_ix ixT (pv 6) (pe_int) (fun _ _ => rfl)) (pa_cons (pe_ix ixT (pv 6) (pe_int) (fun _ _ => rfl)) (pa_nil)))))))))) (pss_cons (ps_set (i := 9) sc_law.nd rfl (Or.inl rfl) (pe_cal c__law_asker (hr.mono (by decide)) (T.glo 17) pxOf (pa_cons (pv 2) (pa_cons (pv 3) (pa_cons (pv 4) (pa_cons (pv 5) (pa_cons (pv 6) (pa_nil)))))))) (pss_cons (ps_forR1 poOf rfl rfl (T.free 49) (pa_cons (pe_cal c__law_draw (hr.mono (by decide)) (T.glo 8) pxOf (pa_cons (pv 0) (pa_cons (pv 1) (pa_cons (pe_int) (pa_nil))))) (pa_nil)) (pg_name (i := 10) sc_law.nd rfl (Or.inl rfl)) (pss_cons (ps_if (pt_not (pt_val (pe_cal c__law_call (hr.mono (by decide)) (T.glo 31) pxOf (pa_cons (pv 0) (pa_cons (pv 1) (pa_cons (pv 8) (pa_cons (pv 9) (pa_cons (pv 7) (pa_nil))))))))) (pss_one (ps_ret (pe_bl))) (pss_nil)) (pss_cons (ps_if (PW.pt (pw_or (pt_cmpR (neD hr.units) (pe_calM0 c_Asker_view (T.cls 74) (T.meth 106) (hr.mono (by decide)) pxOf (pv 8)) (pe_cal c__law_view (hr.mono (by decide)) (T.glo 25) pxOf (pa_cons (pv 9) (pa_nil))) (nomark _)) (pw_or1 (pt_cmpR op_ne (pe_calM0 c_Asker_is_waiting (T.cls 74) (T.meth 107) (hr.mono (by decide)) pxOf (pv 8)) (pe_or (pe_getS hr.units (pv 9)) (pe_one (pe_cmpR (neD hr.units) (pe_getS hr.units (pv 9)) (pe_lst (pa_nil)) (nomark _)))) (nomark _))))) (pss_one (ps_ret (pe_bl))) (pss_nil)) (pss_cons (ps_if (PW.pt (pw_or (pt_cmpR (neD hr.units) (pe_calM0 c_Asker_log (T.cls 74) (T.meth 108) (hr.mono (by decide)) pxOf (pv 8)) (pe_getS hr.units (pv 9)) (nomark _)) (pw_or (pt_cmpR op_ne (pe_calM0 c_Asker_typed (T.cls 74) (T.meth 93) (hr.mono (by decide)) pxOf (pv 8)) (pe_getS hr.units (pv 9)) (nomark _)) (pw_or1 (pt_cmpR op_ne (pe_calM0 c_Asker_clock (T.cls 74) (T.meth 92) (hr.mono (by decide)) pxOf (pv 8)) (pe_getS hr.units (pv 9)) (nomark _)))))) (pss_one (ps_ret (pe_bl))) (pss_nil)) (pss_cons (ps_expr (pe_bmC PySem.F.plainAttrs_list PySem.F.slot_list_append PySem.F.type_list_append mt_append (pe_calM0 c_Asker_log (T.cls 74) (T.meth 108) (hr.mono (by decide)) pxOf (pv 8)) (pa_cons (pe_str) (pa_nil)))) (pss_one (ps_expr (pe_bmC PySem.F.plainAttrs_list PySem.F.slot_list_append PySem.F.type_list_append mt_append (pe_ix ixT (pe_calM0 c_Asker_view (T.cls 74) (T.meth 106) (hr.mono (by decide)) pxOf (pv 8)) (pe_int) (fun _ _ => rfl)) (pa_cons (pe_str) (pa_nil)))))))))) (pss_one (ps_ret (pe_cmpR (eqD hr.units) (pe_calM0 c_Asker_view (T.cls 74) (T.meth 106) (hr.mono (by decide)) pxOf (pv 8)) (pe_cal c__law_view (hr.mono (by decide)) (T.glo 25) pxOf (pa_cons (pv 9) (pa_nil))) (nomark _))))))))))))))) pure_law

abbrev R : PySem.W.OpenRow := PySem.W.OpenLaw.row PySem.Challenge.rw_typeasks_k30_whole_askers
abbrev hk : PySem.W.Hook := He.hookX 5 fa fn [] [] isQ
def ob (s : PySem.W.SharedT) : He.AlX := He.obsX 5 fa fn [] [] isQ (HandSHeadRun.getT s)
theorem ob_eq (s : PySem.W.SharedT) : ob s = hk.obs s.abs := He.obsX_eq (HandSHeadRun.getT_eq s)
theorem run (w : World) : HandSHeadRun.RunEq R (PySem.W.view R.prog [60]) hk ob 20000 loose w := by
  intro os
  kernel_rfl
end TA
open PySem PySem.W PySem.Calls PyProof.Rows
theorem PySem.Challenge.cw_typeasks_k30_whole_askers_holds : PySem.Challenge.rw_typeasks_k30_whole_askers.Holds := by
  w_on; o_law
  refine HandSHeadRun.head_any (r := OpenLaw.row PySem.Challenge.rw_typeasks_k30_whole_askers) (q := view (OpenLaw.row PySem.Challenge.rw_typeasks_k30_whole_askers).prog [60]) (H := TA.hk) (ob := TA.ob) (M := 20000) (loose := TA.loose) (d := HandSHeadRun.topDef (OpenLaw.row PySem.Challenge.rw_typeasks_k30_whole_askers).prog 60) (kwd := []) TA.ob_eq
    (by kernel_rfl) (fun s => by kernel_rfl) TA.run (by kernel_rfl) (by kernel_rfl) (by kernel_rfl) (by rfl) (by first | assumption | decide +kernel) (by decide +kernel) ⟨rfl, rfl, rfl, rfl, rfl, by decide +kernel⟩ ?hw ?hc
  case hw => w_witness2
  case hc =>
    refine L2.walk_ofE (l := PySem.Challenge.rw_typeasks_k30_whole_askers) (n := 63) (k := 12) (x := "script") (CX := L2.CX0) rfl (by decide) (by kernel_rfl) ⟨rfl, by decide, by decide⟩ ?F (fun _ _ _ _ z => z)
    intro w mg fa h Y G hmg0
    obtain ⟨K, KX, c⟩ := Y
    have hmg : mg ("law" : PySem.Str) = some (.ref fa) := by
      have e : (HandSHeadRun.topDef (OpenLaw.row PySem.Challenge.rw_typeasks_k30_whole_askers).prog 60).name = ("law" : PySem.Str) := by kernel_rfl
      rw [← e]
      exact hmg0
    obtain ⟨fd, hb, hF⟩ := TA.facts (P := (PySem.Challenge.rw_typeasks_k30_whole_askers).prog) (w := w) KX G hmg c
    exact ⟨K, fd, TA.sp_law K, KX, hb, fun H a ns hl _ hS => ⟨a, rfl, ⟨ns, hS⟩, fun _ => rfl⟩, hF⟩
