import PyProof.Rows.All
import Wide.All
import OpenK.AllK
import Wide.FinOn
import HandS.ForMost
import HandS.Conv
import HandS.More
import HandS.SortInts
import HandS.Wide
import HandS.Walk
import HandS.Style
import HandS.Flow
import HandS.Deep
import HandS.TupAny
import KE.GoesMore
import KE.KSortedM
import HandS.Strs
import HandS.SetFor
import HandS.TupSets
import HandS.IsInst
import HandS.NoneIn
import KE.DataMinMax
import PySem.Challenge.RW_catchup_k06_whole_the_lightest
set_option Elab.async false
set_option linter.all false
set_option autoImplicit false
set_option maxRecDepth 100000
set_option maxHeartbeats 4000000
/-! Part 0: what stays, what changes; data as they lie; calls by name -/
namespace Cu
open PySem PySem.Spec PyProof.Rows L2

/-- what never changes -/
def Imm : HO → Prop
  | .tup _ => True
  | .frz _ _ => True
  | _ => False
theorem nl {xs : List V} : ¬ Imm (.lst xs) := fun h => h
theorem ndk {xs : List (Key × V)} : ¬ Imm (.dK xs) := fun h => h
def Mono (H H' : Hp) : Prop := ∀ b o, H b = some o → Imm o → H' b = some o
theorem Mono.refl (H : Hp) : Mono H H := fun _ _ h _ => h
theorem Mono.trans {H H1 H2 : Hp} (a : Mono H H1) (b : Mono H1 H2) : Mono H H2 := fun c o h i => b c o (a c o h i) i
theorem Mono.new {H : Hp} {p : Addr} {o : HO} (h : H p = none) : Mono H (upd H p o) := fun b u e _ => by
  rw [upd_ne (ne_of_none e h)]
  exact e
theorem Mono.put {H : Hp} {a : Addr} {o o' : HO} (h : H a = some o) (n : ¬ Imm o) : Mono H (upd H a o') := fun b u e i => by
  by_cases hb : b = a
  · subst hb
    rw [h] at e
    cases e
    exact absurd i n
  · rw [upd_ne hb]
    exact e

/-- the changing objects one owns -/
abbrev Lg := List (Addr × HO)
structure Has (H : Hp) (l : Lg) : Prop where
  nd : (l.map Prod.fst).Nodup
  at_ : ∀ p ∈ l, H p.1 = some p.2 ∧ ¬ Imm p.2
section
variable {H H' : Hp} {l l' : Lg} {a p : Addr} {o o' : HO}
theorem Has.nil : Has H [] := ⟨List.nodup_nil, fun _ h => (nomatch h)⟩
theorem Has.mem (h : Has H l) (m : (a, o) ∈ l) : H a = some o := (h.at_ _ m).1
theorem Has.head (h : Has H ((a, o) :: l)) : H a = some o := (h.at_ _ List.mem_cons_self).1
theorem Has.tail (h : Has H ((a, o) :: l)) : Has H l := ⟨(List.nodup_cons.mp h.nd).2, fun p m => h.at_ p (List.mem_cons_of_mem _ m)⟩
theorem Has.notin (h : Has H l) (f : H p = none) : p ∉ l.map Prod.fst := fun m => by
  obtain ⟨q, hq, e⟩ := List.mem_map.mp m
  have := (h.at_ q hq).1
  rw [e, f] at this
  cases this
theorem Has.ne (h : Has H l) (f : H p = none) {q : Addr × HO} (m : q ∈ l) : q.1 ≠ p := fun e => h.notin f (by rw [← e]; exact List.mem_map_of_mem m)
/-- an object that is not ours is made or written -/
theorem Has.off (h : Has H l) (n : p ∉ l.map Prod.fst) : Has (upd H p o) l := ⟨h.nd, fun q m => ⟨by
  rw [upd_ne (fun e => n (by rw [← e]; exact List.mem_map_of_mem m))]
  exact (h.at_ q m).1, (h.at_ q m).2⟩⟩
theorem Has.old (h : Has H l) (f : H p = none) : Has (upd H p o) l := h.off (h.notin f)
theorem Has.new (h : Has H l) (f : H p = none) (n : ¬ Imm o) : Has (upd H p o) ((p, o) :: l) :=
  ⟨List.nodup_cons.mpr ⟨h.notin f, h.nd⟩, fun q m => by
    rcases List.mem_cons.mp m with e | m
    · subst e
      exact ⟨upd_same, n⟩
    · exact (h.old f).at_ q m⟩
theorem Has.put (h : Has H ((a, o) :: l)) (n : ¬ Imm o') : Has (upd H a o') ((a, o') :: l) :=
  ⟨h.nd, fun q m => by
    rcases List.mem_cons.mp m with e | m
    · subst e
      exact ⟨upd_same, n⟩
    · exact (h.tail.off (List.nodup_cons.mp h.nd).1).at_ q m⟩
theorem Has.perm (h : Has H l) (e : l.Perm l') : Has H l' := ⟨(e.map Prod.fst).nodup_iff.mp h.nd, fun q m => h.at_ q (e.mem_iff.mpr m)⟩
theorem Has.sub (h : Has H l) (e : l'.Sublist l) : Has H l' := ⟨h.nd.sublist (e.map Prod.fst), fun q m => h.at_ q (e.subset m)⟩
theorem Has.mono_put (h : Has H ((a, o) :: l)) : Mono H (upd H a o') := Mono.put h.head (h.at_ _ List.mem_cons_self).2
theorem Has.right {l2 : Lg} (h : Has H (l ++ l2)) : Has H l2 := h.sub (List.sublist_append_right _ _)
theorem Has.left {l2 : Lg} (h : Has H (l ++ l2)) : Has H l := h.sub (List.sublist_append_left _ _)
theorem Has.comm {l2 : Lg} (h : Has H (l ++ l2)) : Has H (l2 ++ l) := h.perm List.perm_append_comm
/-- the first part goes behind the second -/
theorem Has.swap {l2 l3 : Lg} (h : Has H (l ++ (l2 ++ l3))) : Has H (l2 ++ (l ++ l3)) := h.perm (by
  rw [← List.append_assoc, ← List.append_assoc]
  exact List.Perm.append_right _ List.perm_append_comm)
theorem Has.swap1 {q : Addr × HO} {l3 : Lg} (h : Has H (q :: (l ++ l3))) : Has H (l ++ (q :: l3)) := h.perm List.perm_middle.symm
theorem Has.unswap1 {q : Addr × HO} {l3 : Lg} (h : Has H (l ++ (q :: l3))) : Has H (q :: (l ++ l3)) := h.perm List.perm_middle
theorem Has.swap2 {q r : Addr × HO} (h : Has H (q :: r :: l)) : Has H (r :: q :: l) := h.perm (List.Perm.swap _ _ _)
end

section
variable {K : PySem.W.Frag} {H H' : Hp} {a : Addr} {xs : List V}
/-- a list that stays -/
def FzL (K : PySem.W.Frag) (H : Hp) (a : Addr) (xs : List V) : Prop := ∀ H', Mono H H' → SqL K H' a xs
theorem FzL.mono (h : FzL K H a xs) (m : Mono H H') : FzL K H' a xs := fun H2 m2 => h H2 (m.trans m2)
theorem FzL.sq (h : FzL K H a xs) : SqL K H a xs := h H (Mono.refl H)
theorem FzL.of {o : Obj} (h : H a = some (.frz o (.lst xs))) : FzL K H a xs := fun H' m => Or.inl (Or.inr ⟨o, m _ _ h trivial⟩)
theorem FzL.only (h : Only H) (s : SqL K H a xs) : FzL K H a xs := by
  rcases s with (s | ⟨o, s⟩) | s
  · rcases h a with e | ⟨o, ys, e⟩
    · rw [e] at s
      cases s
    · rw [e] at s
      cases s
  · exact FzL.of s
  · exact fun _ _ => Or.inr s
theorem FzL.frz {o : Obj} : FzL K (upd H a (.frz o (.lst xs))) a xs := FzL.of upd_same
end

/-- a reading that is opened by its own lemma alone -/
@[irreducible] def tI (t : TE) : TE := t
theorem rd_I {t : TE} {σ : L2.St} {H : Hp} {Q : VK} (h : t σ H Q) : tI t σ H Q := by
  unfold tI
  exact h
theorem pe_I {X : Cx} {e : Expr} {t : TE} (h : PE X e t) : PE X e (tI t) := by
  unfold tI
  exact h
/-- e, a new list, from now on never changed -/
@[irreducible] def tFz (t : TE) : TE := fun σ H Q => t σ H fun v H1 => ∃ a xs, v = .ref a ∧ H1 a = some (.lst xs) ∧ ∀ o, Q (.ref a) (upd H1 a (.frz o (.lst xs)))
theorem rd_fz {t : TE} {σ : L2.St} {H : Hp} {Q : VK} (h : t σ H fun v H1 => ∃ a xs, v = .ref a ∧ H1 a = some (.lst xs) ∧ ∀ o, Q (.ref a) (upd H1 a (.frz o (.lst xs)))) : tFz t σ H Q := by
  unfold tFz
  exact h
theorem pe_fz {X : Cx} {e : Expr} {t : TE} (h : PE X e t) : PE X e (tFz t) := ⟨fun pins s σ H Q I hw => by
  unfold tFz at hw
  exact thn (h.run pins s σ H _ I hw) fun u s1 ⟨v, H1, I1, r, a, xs, ev, ha, q⟩ => by
    subst ev
    obtain ⟨od, I2⟩ := I1.lock ha trivial
    exact ⟨_, _, I2, r, q od⟩⟩

/-! ### data -/
mutual
def Rp (K : PySem.W.Frag) (H : Hp) : PyData → V → Prop
  | .none, v => v = .non
  | .bool b, v => v = .bl b
  | .int i, v => v = .int i
  | .str s, v => v = .str s
  | .list ds, v => ∃ a xs, v = .ref a ∧ FzL K H a xs ∧ RpL K H ds xs
  | .tuple ds, v => ∃ a xs, v = .ref a ∧ H a = some (.tup xs) ∧ RpL K H ds xs
  | .dict _, _ => False
def RpL (K : PySem.W.Frag) (H : Hp) : List PyData → List V → Prop
  | [], vs => vs = []
  | d :: ds, vs => ∃ v r, vs = v :: r ∧ Rp K H d v ∧ RpL K H ds r
end
section
variable {K : PySem.W.Frag} {H H' : Hp}
mutual
theorem Rp.mono (m : Mono H H') : ∀ {d : PyData} {v : V}, Rp K H d v → Rp K H' d v
  | .none, _, h => by rw [Rp] at h ⊢; exact h
  | .bool _, _, h => by rw [Rp] at h ⊢; exact h
  | .int _, _, h => by rw [Rp] at h ⊢; exact h
  | .str _, _, h => by rw [Rp] at h ⊢; exact h
  | .list ds, _, h => by
    rw [Rp] at h ⊢
    obtain ⟨a, xs, e, f, r⟩ := h
    exact ⟨a, xs, e, f.mono m, RpL.mono m r⟩
  | .tuple ds, _, h => by
    rw [Rp] at h ⊢
    obtain ⟨a, xs, e, f, r⟩ := h
    exact ⟨a, xs, e, m _ _ f trivial, RpL.mono m r⟩
  | .dict _, _, h => by rw [Rp] at h; exact h.elim
theorem RpL.mono (m : Mono H H') : ∀ {ds : List PyData} {vs : List V}, RpL K H ds vs → RpL K H' ds vs
  | [], _, h => by rw [RpL] at h ⊢; exact h
  | d :: ds, _, h => by
    rw [RpL] at h ⊢
    obtain ⟨v, r, e, h1, h2⟩ := h
    exact ⟨v, r, e, Rp.mono m h1, RpL.mono m h2⟩
end
mutual
theorem Rp.dp : ∀ {d : PyData} {v : V}, Rp K H d v → Dp K H v d
  | .none, _, h => by rw [Rp] at h; subst h; exact .non
  | .bool _, _, h => by rw [Rp] at h; subst h; exact .bl _
  | .int _, _, h => by rw [Rp] at h; subst h; exact .int _
  | .str _, _, h => by rw [Rp] at h; subst h; exact .str _
  | .list ds, _, h => by
    rw [Rp] at h
    obtain ⟨a, xs, e, f, r⟩ := h
    subst e
    exact .lst f.sq (RpL.dp r)
  | .tuple ds, _, h => by
    rw [Rp] at h
    obtain ⟨a, xs, e, f, r⟩ := h
    subst e
    exact .tup (SqT.of f) (RpL.dp r)
  | .dict _, _, h => by rw [Rp] at h; exact h.elim
theorem RpL.dp : ∀ {ds : List PyData} {vs : List V}, RpL K H ds vs → DpAll K H vs ds
  | [], _, h => by rw [RpL] at h; subst h; exact .nil
  | d :: ds, _, h => by
    rw [RpL] at h
    obtain ⟨v, r, e, h1, h2⟩ := h
    subst e
    exact .cons (Rp.dp h1) (RpL.dp h2)
end
theorem RpL.length : ∀ {ds : List PyData} {vs : List V}, RpL K H ds vs → vs.length = ds.length
  | [], _, h => by rw [RpL] at h; subst h; rfl
  | d :: ds, _, h => by
    rw [RpL] at h
    obtain ⟨v, r, e, _, h2⟩ := h
    subst e
    rw [List.length_cons, List.length_cons, h2.length]
theorem RpL.get : ∀ {ds : List PyData} {vs : List V} {i : Nat} {d : PyData}, RpL K H ds vs → ds[i]? = some d → ∃ v, vs[i]? = some v ∧ Rp K H d v
  | [], _, _, _, _, e => by simp at e
  | d :: ds, _, i, d', h, e => by
    rw [RpL] at h
    obtain ⟨v, r, e1, h1, h2⟩ := h
    subst e1
    cases i with
    | zero =>
      have e2 : d = d' := by simpa using e
      subst e2
      exact ⟨v, rfl, h1⟩
    | succ i => exact h2.get (by simpa using e)
theorem RpL.nil : RpL K H [] [] := by rw [RpL]
theorem RpL.cons {d : PyData} {ds : List PyData} {v : V} {vs : List V} (h : Rp K H d v) (r : RpL K H ds vs) : RpL K H (d :: ds) (v :: vs) := by
  rw [RpL]
  exact ⟨v, vs, rfl, h, r⟩
theorem RpL.append : ∀ {ds es : List PyData} {vs us : List V}, RpL K H ds vs → RpL K H es us → RpL K H (ds ++ es) (vs ++ us)
  | [], _, _, _, h, g => by rw [RpL] at h; subst h; exact g
  | d :: ds, _, _, _, h, g => by
    rw [RpL] at h
    obtain ⟨v, r, e1, h1, h2⟩ := h
    subst e1
    exact .cons h1 (h2.append g)
theorem RpL.snoc {ds : List PyData} {vs : List V} {d : PyData} {v : V} (h : RpL K H ds vs) (g : Rp K H d v) : RpL K H (ds ++ [d]) (vs ++ [v]) := h.append (.cons g .nil)
theorem RpL.take : ∀ {ds : List PyData} {vs : List V} (n : Nat), RpL K H ds vs → RpL K H (ds.take n) (vs.take n)
  | [], _, n, h => by rw [RpL] at h; subst h; simpa using RpL.nil
  | d :: ds, _, n, h => by
    rw [RpL] at h
    obtain ⟨v, r, e1, h1, h2⟩ := h
    subst e1
    cases n with
    | zero => exact .nil
    | succ n => exact .cons h1 (h2.take n)
theorem RpL.drop : ∀ {ds : List PyData} {vs : List V} (n : Nat), RpL K H ds vs → RpL K H (ds.drop n) (vs.drop n)
  | [], _, n, h => by rw [RpL] at h; subst h; simpa using RpL.nil
  | d :: ds, _, n, h => by
    rw [RpL] at h
    obtain ⟨v, r, e1, h1, h2⟩ := h
    subst e1
    cases n with
    | zero => exact .cons h1 h2
    | succ n => exact h2.drop n
theorem Rp.int_iff {i : Int} {v : V} : Rp K H (.int i) v ↔ v = .int i := by rw [Rp]
theorem Rp.str_iff {i : Str} {v : V} : Rp K H (.str i) v ↔ v = .str i := by rw [Rp]
theorem Rp.bool_iff {i : Bool} {v : V} : Rp K H (.bool i) v ↔ v = .bl i := by rw [Rp]
theorem Rp.none_iff {v : V} : Rp K H .none v ↔ v = .non := by rw [Rp]
theorem Rp.int {i : Int} : Rp K H (.int i) (.int i) := by rw [Rp]
theorem Rp.str {i : Str} : Rp K H (.str i) (.str i) := by rw [Rp]
theorem Rp.bool {i : Bool} : Rp K H (.bool i) (.bl i) := by rw [Rp]
theorem Rp.non : Rp K H .none .non := by rw [Rp]
theorem Rp.tup {ds : List PyData} {a : Addr} {xs : List V} (h : H a = some (.tup xs)) (r : RpL K H ds xs) : Rp K H (.tuple ds) (.ref a) := by
  rw [Rp]
  exact ⟨a, xs, rfl, h, r⟩
theorem Rp.lst {ds : List PyData} {a : Addr} {xs : List V} (h : FzL K H a xs) (r : RpL K H ds xs) : Rp K H (.list ds) (.ref a) := by
  rw [Rp]
  exact ⟨a, xs, rfl, h, r⟩
theorem Rp.tup_inv {ds : List PyData} {v : V} (h : Rp K H (.tuple ds) v) : ∃ a xs, v = .ref a ∧ H a = some (.tup xs) ∧ RpL K H ds xs := by rwa [Rp] at h
theorem Rp.lst_inv {ds : List PyData} {v : V} (h : Rp K H (.list ds) v) : ∃ a xs, v = .ref a ∧ FzL K H a xs ∧ RpL K H ds xs := by rwa [Rp] at h
theorem RpL.nil_inv {vs : List V} (h : RpL K H [] vs) : vs = [] := by rwa [RpL] at h
theorem RpL.cons_inv {d : PyData} {ds : List PyData} {vs : List V} (h : RpL K H (d :: ds) vs) : ∃ v r, vs = v :: r ∧ Rp K H d v ∧ RpL K H ds r := by rwa [RpL] at h
theorem RpL.ints : ∀ {ns : List Int} {vs : List V}, RpL K H (ns.map PyData.int) vs → vs = ns.map V.int
  | [], _, h => h.nil_inv
  | n :: ns, _, h => by
    obtain ⟨v, r, e, h1, h2⟩ := h.cons_inv
    rw [Rp.int_iff] at h1
    rw [e, h1, h2.ints]
    rfl
theorem RpL.of_ints : ∀ (ns : List Int), RpL K H (ns.map PyData.int) (ns.map V.int)
  | [] => .nil
  | n :: ns => .cons .int (RpL.of_ints ns)
theorem Dp.ints {a : Addr} {ns : List Int} (h : SqL K H a (ns.map V.int)) : Dp K H (.ref a) (.list (ns.map PyData.int)) := .lst h (RpL.dp (RpL.of_ints ns))
end

/-! ### a def of the top, a method, a class, by name -/
section
variable (P : Program) (w : World) (K : PySem.W.Frag) (mg : Str → Option Value) (base : Heap)
structure Gf (j : Nat) (x : Str) (ps : List Str) (sp : Sp) : Prop where
  ex : ∃ f fd, FnOk P w K mg base CX0 j f fd ps sp ∧ mg x = some (.ref f) ∧ PySem.W.keepIn K (.ref f) = true ∧ Binds K fd ps []
structure Mf (j : Nat) (C : Addr) (m : Str) (ps : List Str) (sp : Sp) : Prop where
  ex : ∃ f fd, FnOk P w K mg base CX0 j f fd ps sp ∧ Meth K C m f ∧ Binds K fd ps []
structure Kf (j : Nat) (x : Str) (C : Addr) (ps : List Str) (sp : Sp) : Prop where
  ex : ∃ f fd, FnOk P w K mg base CX0 j f fd ps sp ∧ Mk K C f ∧ mg x = some (.ref C) ∧ Binds K fd ps []
end
section
variable {X : Cx} {j k : Nat} {x m : Str} {C : Addr} {ps : List Str} {sp : Sp} {p pos apos : Pos} {e o : Expr} {es : List Expr} {t : TA} {to : TE}
theorem pc (g : Gf X.prog X.w X.K X.mg X.base j x ps sp) (hr : Room k X.A) (ha : PA X (e :: es) t) (hg : Gl X x := by rfl) (hj : j ≤ k := by decide) (hdb : (x == ("__debug__" : Str)) = false := by decide)
    (he : starEach (e :: es) X.env = (false, eval e X.env) :: starEach es X.env := by rfl) (hpl : (backTo pos (starEach es X.env)).any (·.1) = false := by rfl) :
    PE X (.Call (.Name x p) (e :: es) [] pos) (tCall sp [] E0 t) := by
  obtain ⟨f, fd, F, hm, hk, hb⟩ := g.ex
  exact pe_call F (hr.mono hj) hg hm hk hb .nil pass0 ha hdb he hpl
theorem pc0 (g : Gf X.prog X.w X.K X.mg X.base j x ps sp) (hr : Room k X.A) (hg : Gl X x := by rfl) (hj : j ≤ k := by decide) (hdb : (x == ("__debug__" : Str)) = false := by decide) :
    PE X (.Call (.Name x p) [] [] pos) (tCall sp [] E0 tNil) := by
  obtain ⟨f, fd, F, hm, hk, hb⟩ := g.ex
  exact pe_call0 F (hr.mono hj) hg hm hk hb .nil pass0 hdb
theorem pm {pl : Sem Bool} (ho : PE X o to) (c : Cls X.K C) (g : Mf X.prog X.w X.K X.mg X.base j C m ps sp) (hr : Room k X.A) (ha : PA X (e :: es) t) (hj : j ≤ k := by decide)
    (hst : starEach (e :: es) X.env = (false, eval e X.env) :: starEach es X.env := by rfl) (hpl : (backTo pos (starEach es X.env)).any (·.1) = false := by rfl)
    (ht : eval (.Call (.Attribute o m apos) (e :: es) [] pos) X.env = (do
      let ov ← eval o X.env
      standAt apos.atName
      let (f, first) ← holding [ov] (getMethod ov m pl)
      callWith pos f first (backTo pos (starEach (e :: es) X.env)) (backToKw pos (keywordEach [] X.env))) := by rfl) :
    PE X (.Call (.Attribute o m apos) (e :: es) [] pos) (tMeth C m sp [] E0 to t) := by
  obtain ⟨f, fd, F, hm, hb⟩ := g.ex
  exact pe_meth ho c hm F (hr.mono hj) hb .nil pass0 ha hst hpl ht
theorem pm0 {pl : Sem Bool} (ho : PE X o to) (c : Cls X.K C) (g : Mf X.prog X.w X.K X.mg X.base j C m ps sp) (hr : Room k X.A) (hj : j ≤ k := by decide)
    (ht : eval (.Call (.Attribute o m apos) [] [] pos) X.env = (do
      let ov ← eval o X.env
      standAt apos.atName
      let (f, first) ← holding [ov] (getMethod ov m pl)
      callWith pos f first (backTo pos (starEach [] X.env)) (backToKw pos (keywordEach [] X.env))) := by rfl) :
    PE X (.Call (.Attribute o m apos) [] [] pos) (tMeth C m sp [] E0 to tNil) := by
  obtain ⟨f, fd, F, hm, hb⟩ := g.ex
  exact pe_meth0 ho c hm F (hr.mono hj) hb .nil pass0 ht
theorem pk (g : Kf X.prog X.w X.K X.mg X.base j x C ps sp) (hr : Room k X.A) (ha : PA X (e :: es) t) (hg : Gl X x := by rfl) (hj : j + 1 ≤ k := by decide) (hdb : (x == ("__debug__" : Str)) = false := by decide)
    (he : starEach (e :: es) X.env = (false, eval e X.env) :: starEach es X.env := by rfl) (hpl : (backTo pos (starEach es X.env)).any (·.1) = false := by rfl) :
    PE X (.Call (.Name x p) (e :: es) [] pos) (tMake C sp [] E0 t) := by
  obtain ⟨f, fd, F, M, hm, hb⟩ := g.ex
  exact pe_make M F (hr.mono hj) hg hm hb .nil pass0 ha hdb he hpl
end

/-! ### the dice -/
/-- the dice at a, beside what else is owned -/
def Dice (K : PySem.W.Frag) (H : Hp) (a : Addr) (R : Lg) : Prop := ∃ (c : Addr) (ns : List Int) (i m r : Int), 0 ≤ i ∧ ns.length ≤ 1000 ∧ FzL K H c (ns.map V.int) ∧ Has H ((a, .lst [.ref c, .int i, .int m, .int r]) :: R)
section
variable {K : PySem.W.Frag} {H H' : Hp} {a p : Addr} {R R' : Lg} {o o' : HO}
theorem Dice.has (d : Dice K H a R) : Has H R := let ⟨_, _, _, _, _, _, _, _, h⟩ := d; h.tail
theorem Dice.new (d : Dice K H a R) (f : H p = none) (n : ¬ Imm o) : Dice K (upd H p o) a ((p, o) :: R) :=
  let ⟨c, ns, i, m, r, h1, h2, h3, h⟩ := d
  ⟨c, ns, i, m, r, h1, h2, h3.mono (Mono.new f), (h.new f n).swap2⟩
theorem Dice.old (d : Dice K H a R) (f : H p = none) : Dice K (upd H p o) a R :=
  let ⟨c, ns, i, m, r, h1, h2, h3, h⟩ := d
  ⟨c, ns, i, m, r, h1, h2, h3.mono (Mono.new f), h.old f⟩
theorem Dice.put (d : Dice K H a ((p, o) :: R)) (n : ¬ Imm o') : Dice K (upd H p o') a ((p, o') :: R) :=
  let ⟨c, ns, i, m, r, h1, h2, h3, h⟩ := d
  ⟨c, ns, i, m, r, h1, h2, h3.mono h.swap2.mono_put, (h.swap2.put n).swap2⟩
theorem Dice.at_ (d : Dice K H a ((p, o) :: R)) : H p = some o := d.has.head
theorem Dice.mput (d : Dice K H a ((p, o) :: R)) : Mono H (upd H p o') := d.has.mono_put
theorem Dice.perm (d : Dice K H a R) (e : R.Perm R') : Dice K H a R' :=
  let ⟨c, ns, i, m, r, h1, h2, h3, h⟩ := d
  ⟨c, ns, i, m, r, h1, h2, h3, h.perm (e.cons _)⟩
theorem Dice.sub (d : Dice K H a R) (e : R'.Sublist R) : Dice K H a R' :=
  let ⟨c, ns, i, m, r, h1, h2, h3, h⟩ := d
  ⟨c, ns, i, m, r, h1, h2, h3, h.sub (e.cons_cons _)⟩
theorem Dice.tail (d : Dice K H a ((p, o) :: R)) : Dice K H a R := d.sub (List.sublist_cons_self _ _)
/-- an owned list is let go, and stays from now on -/
theorem Dice.fz {xs : List V} {ob : Obj} (d : Dice K H a ((p, .lst xs) :: R)) : Dice K (upd H p (.frz ob (.lst xs))) a R :=
  let ⟨c, ns, i, m, r, h1, h2, h3, h⟩ := d
  ⟨c, ns, i, m, r, h1, h2, h3.mono h.swap2.mono_put, h.swap2.tail.off (List.nodup_cons.mp h.swap2.nd).1⟩
theorem Dice.mfz {xs : List V} {ob : Obj} (d : Dice K H a ((p, .lst xs) :: R)) : Mono H (upd H p (.frz ob (.lst xs))) := d.mput
/-- what others do with what is owned beside -/
theorem Dice.go (d : Dice K H a R) (h : ∀ S, Has H (R ++ S) → Mono H H' ∧ Has H' (R' ++ S)) : Dice K H' a R' := by
  obtain ⟨c, ns, i, m, r, h1, h2, h3, hh⟩ := d
  have q : Has H (R ++ [(a, .lst [.ref c, .int i, .int m, .int r])]) := hh.perm (List.perm_append_singleton _ _).symm
  obtain ⟨m1, q1⟩ := h _ q
  exact ⟨c, ns, i, m, r, h1, h2, h3.mono m1, q1.perm (List.perm_append_singleton _ _)⟩
end
end Cu

/-! Part 1: a def as it stands behind the top -/
namespace Cu
open PySem PySem.Spec PyProof.Rows L2
def top (i : Nat) : Stmt := PySem.Challenge.pw_catchup_k06_whole_the_lightest.main.body.getD i (.Pass ⟨0, 0, 0, 0⟩)
/-- no built-in's name is the module's -/
structure Blt (mg : Str → Option Value) : Prop where
  len : mg "len" = none
  range : mg "range" = none
  int : mg "int" = none
  list : mg "list" = none
  tuple : mg "tuple" = none
  sorted : mg "sorted" = none
  min : mg "min" = none
  max : mg "max" = none
  sum : mg "sum" = none
  set : mg "set" = none
  str : mg "str" = none
  isinstance : mg "isinstance" = none
  enumerate : mg "enumerate" = none
  zip : mg "zip" = none
  bool : mg "bool" = none
  dict : mg "dict" = none
section
variable (K : PySem.W.Frag) (mg : Str → Option Value)
structure Fd (x : Str) (st : Stmt) : Prop where
  ex : ∃ f fd, Fun K x x st f fd ∧ mg x = some (.ref f)
structure Md (C : Addr) (m qual : Str) (st : Stmt) : Prop where
  ex : ∃ f fd, Fun K m qual st f fd ∧ Meth K C m f
structure Kd (x : Str) (C : Addr) (qual : Str) (st : Stmt) : Prop where
  ex : ∃ f fd, Fun K "__init__" qual st f fd ∧ Mk K C f ∧ mg x = some (.ref C)
end
section
variable {P : Program} {w : World} {K : PySem.W.Frag} {mg : Str → Option Value} {base : Heap} {x m qual : Str} {C : Addr} {st : Stmt} {N ps : List Str} {k : Nat} {sp : Sp}
/-- how the written arguments come to the parameters -/
abbrev Bnd (x qual : Str) (st : Stmt) (ps : List Str) : Prop := ∀ (kV doc pm : Value) (an : Option Addr) (cdv ct : Value) (us : List Value), us.length = ps.length → bindArgs (PySem.W.fnOf x qual (defArgs st) (defBody st) (defScope st) .none kV doc pm an cdv ct) ⟨us, []⟩ = pure (ps.zip us)
theorem Fd.ok (F : Fd K mg x st) (S : FnScope N ps (defScope st)) (b : Bnd x x st ps) (len : ∀ vs H Q E, sp vs H Q E → vs.length = ps.length)
    (hbody : ∀ (qual : Str) (f : Addr) (cdv : Value) (A : Around) (outer : List Env) (s : Shared) (H : Hp) (vs : List V) (Q : VK) (E : XK), Room k (A.deeper (envOfC qual (defScope st) s.heap.objs.size f cdv)) → sp vs H Q E →
      ∃ t, PSs (cxOf CX0 P w K mg base N qual (defScope st) f cdv A outer s H E).nox (defBody st) t ∧ t { nx := fun _ H' => Q .non H', rt := Q } (start N vs) H) : Gf P w K mg base (k + 1) x ps sp := by
  obtain ⟨f, fd, F, hm⟩ := F.ex
  exact ⟨f, fd, F.ok S len fun cdv A outer s H vs Q E hr h => hbody x f cdv A outer s H vs Q E hr h, hm, F.kp, F.binds b⟩
theorem Md.ok (F : Md K C m qual st) (S : FnScope N ps (defScope st)) (b : Bnd m qual st ps) (len : ∀ vs H Q E, sp vs H Q E → vs.length = ps.length)
    (hbody : ∀ (qual : Str) (f : Addr) (cdv : Value) (A : Around) (outer : List Env) (s : Shared) (H : Hp) (vs : List V) (Q : VK) (E : XK), Room k (A.deeper (envOfC qual (defScope st) s.heap.objs.size f cdv)) → sp vs H Q E →
      ∃ t, PSs (cxOf CX0 P w K mg base N qual (defScope st) f cdv A outer s H E).nox (defBody st) t ∧ t { nx := fun _ H' => Q .non H', rt := Q } (start N vs) H) : Mf P w K mg base (k + 1) C m ps sp := by
  obtain ⟨f, fd, F, hm⟩ := F.ex
  exact ⟨f, fd, F.ok S len fun cdv A outer s H vs Q E hr h => hbody qual f cdv A outer s H vs Q E hr h, hm, F.binds b⟩
theorem Kd.ok (F : Kd K mg x C qual st) (S : FnScope N ps (defScope st)) (b : Bnd "__init__" qual st ps) (len : ∀ vs H Q E, sp vs H Q E → vs.length = ps.length)
    (hbody : ∀ (qual : Str) (f : Addr) (cdv : Value) (A : Around) (outer : List Env) (s : Shared) (H : Hp) (vs : List V) (Q : VK) (E : XK), Room k (A.deeper (envOfC qual (defScope st) s.heap.objs.size f cdv)) → sp vs H Q E →
      ∃ t, PSs (cxOf CX0 P w K mg base N qual (defScope st) f cdv A outer s H E).nox (defBody st) t ∧ t { nx := fun _ H' => Q .non H', rt := Q } (start N vs) H) : Kf P w K mg base (k + 1) x C ps sp := by
  obtain ⟨f, fd, F, hm, hx⟩ := F.ex
  exact ⟨f, fd, F.ok S len fun cdv A outer s H vs Q E hr h => hbody qual f cdv A outer s H vs Q E hr h, hm, hx, F.binds b⟩
end
theorem len_of {n : Nat} {ps : List Str} {p : List V → Hp → VK → XK → Prop} (e : n = ps.length := by rfl) : ∀ vs H Q E, (vs.length = n ∧ p vs H Q E) → vs.length = ps.length := fun _ _ _ _ h => h.1.trans e
end Cu

namespace Cu
open PySem PySem.Spec PyProof.Rows L2
/-- a statement of several ends: what stands behind all of them -/
@[irreducible] def tMid (t : TS) : TS := fun D σ H => ∃ N : L2.St → Hp → Prop, t { D with nx := N } σ H ∧ ∀ σ' H', N σ' H' → D.nx σ' H'
theorem rd_mid {t : TS} {D : Ends} {σ : L2.St} {H : Hp} (N : L2.St → Hp → Prop) (h : t { D with nx := N } σ H) (k : ∀ σ' H', N σ' H' → D.nx σ' H') : tMid t D σ H := by
  unfold tMid
  exact ⟨N, h, k⟩
theorem ps_mid {X : Cx} {st : Stmt} {t : TS} (h : PS X st t) : PS X st (tMid t) := ⟨fun pins s σ H D I hw => by
  unfold tMid at hw
  obtain ⟨N, h1, k⟩ := hw
  refine thn (h.run pins s σ H _ I h1) fun f s1 q => ?_
  cases f with
  | next =>
    obtain ⟨σ', H', I', q⟩ := q
    exact ⟨σ', H', I', k _ _ q⟩
  | brk => exact q
  | cont => exact q
  | ret u => exact q⟩
/-- e, and a list in it, if there is one, from now on never changed -/
@[irreducible] def tFzw (t : TE) : TE := fun σ H Q => t σ H fun v H1 => Q v H1 ∨ ∃ a xs, H1 a = some (.lst xs) ∧ ∀ o, Q v (upd H1 a (.frz o (.lst xs)))
theorem rd_fzw {t : TE} {σ : L2.St} {H : Hp} {Q : VK} (h : t σ H fun v H1 => Q v H1 ∨ ∃ a xs, H1 a = some (.lst xs) ∧ ∀ o, Q v (upd H1 a (.frz o (.lst xs)))) : tFzw t σ H Q := by
  unfold tFzw
  exact h
theorem pe_fzw {X : Cx} {e : Expr} {t : TE} (h : PE X e t) : PE X e (tFzw t) := ⟨fun pins s σ H Q I hw => by
  unfold tFzw at hw
  refine thn (h.run pins s σ H _ I hw) fun u s1 ⟨v, H1, I1, r, q⟩ => ?_
  rcases q with q | ⟨a, xs, ha, q⟩
  · exact ⟨_, _, I1, r, q⟩
  · obtain ⟨od, I2⟩ := I1.lock ha trivial
    exact ⟨_, _, I2, r, q od⟩⟩
end Cu

namespace Cu
open PySem PySem.Spec PyProof.Rows L2
/-! rules for a comprehension's element: the written part by its own name -/
section
variable {X : Cx} {tg e o l : Expr} {f : Str} {pos : Pos} {ta tl : TE}
theorem ix_listK (K : PySem.W.Frag) (h : X.K = K) : IxR X (rIxL K) := h ▸ ix_list
theorem ix_tupK (K : PySem.W.Frag) (h : X.K = K) : IxR X (rIxT K) := h ▸ ix_tup
theorem sl_listK (K : PySem.W.Frag) (h : X.K = K) : SlR X (rSlL K) := h ▸ sl_list
theorem op_eqDK (K : PySem.W.Frag) (h : X.K = K) (hu : X.A.units + 64 < cLine) : OpR X (compareOp .Eq) (rEqD K) := h ▸ op_eqD hu
theorem op_neDK (K : PySem.W.Frag) (h : X.K = K) (hu : X.A.units + 64 < cLine) : OpR X (compareOp .NotEq) (rNeD K) := h ▸ op_neD hu
theorem op_in_seqK (K : PySem.W.Frag) (h : X.K = K) : OpR X (compareOp .In) (rIn K false) := h ▸ op_in_seq
theorem op_notIn_seqK (K : PySem.W.Frag) (h : X.K = K) : OpR X (compareOp .NotIn) (rIn K true) := h ▸ op_notIn_seq
theorem call_len_seqK (K : PySem.W.Frag) (h : X.K = K) : CallR X (.builtin "len") (fun xs H Q => ∃ p ys, xs = [.ref p] ∧ (SqL K H p ys ∨ SqT K H p ys) ∧ Q (.int ys.length) H) := h ▸ call_len_seq
theorem call_list_ofK (K : PySem.W.Frag) (h : X.K = K) : CallR X (.type "list") (fun xs H Q => ∃ p ys, xs = [.ref p] ∧ (SqL K H p ys ∨ SqT K H p ys) ∧ ∀ l, H l = none → Q (.ref l) (upd H l (.lst ys))) := h ▸ call_list_of
theorem call_tuple_ofK (K : PySem.W.Frag) (h : X.K = K) : CallR X (.type "tuple") (fun xs H Q => ∃ p ys, xs = [.ref p] ∧ ((SqL K H p ys ∧ ∀ l, H l = none → Q (.ref l) (upd H l (.tup ys))) ∨ (SqT K H p ys ∧ Q (.ref p) H))) := h ▸ call_tuple_of
theorem cr_sumK (K : PySem.W.Frag) (h : X.K = K) (hc : X.calm = true) : CallR X (.builtin "sum") (rSum K) := h ▸ cr_sum hc
theorem cr_minK' (K : PySem.W.Frag) (h : X.K = K) (hc : X.calm = true) : CallR X (.builtin "min") (rMin K) := h ▸ cr_min hc
theorem cr_maxK' (K : PySem.W.Frag) (h : X.K = K) (hc : X.calm = true) : CallR X (.builtin "max") (rMax K) := h ▸ cr_max hc
theorem cr_sortedIK (K : PySem.W.Frag) (h : X.K = K) : CallR X (.builtin "sorted") (rSortedI K) := h ▸ cr_sortedI
theorem pi_listK (K : PySem.W.Frag) (h : X.K = K) (hl : PE X l tl) : PI X tg l (iList K tl) := h ▸ pi_list hl
theorem pe_fldK (K : PySem.W.Frag) (h : X.K = K) (he : PE X e ta) (hb : attributeBase e f X.env (eval e X.env) = eval e X.env) : PE X (.Attribute e f pos) (tFld K ta f) := h ▸ pe_fld he hb
end
end Cu

namespace Cu
open PySem PySem.Spec PyProof.Rows L2
abbrev s_dice : Stmt := (top 22)
theorem sc_dice : FnScope ["_law_script", "_law_mixed", "_law_cell"] ["_law_script"] (defScope s_dice) := ⟨rfl, rfl, rfl, by decide +kernel, rfl, by decide +kernel, by decide +kernel⟩

abbrev s_next : Stmt := (top 23)
theorem sc_next : FnScope ["_law_dice_here", "_law_many", "_law_found", "_law_cell"] ["_law_dice_here", "_law_many"] (defScope s_next) := ⟨rfl, rfl, rfl, by decide +kernel, rfl, by decide +kernel, by decide +kernel⟩

def spDice (K : PySem.W.Frag) : Sp := fun vs H Q _ => vs.length = 1 ∧ ∃ (c : Addr) (ns : List Int) (R : Lg), vs = [.ref c] ∧ ns.length ≤ 1000 ∧ FzL K H c (ns.map V.int) ∧ Has H R ∧
  ∀ (a : Addr) (H' : Hp), Mono H H' → Dice K H' a R → Q (.ref a) H'
def spNext (K : PySem.W.Frag) : Sp := fun vs H Q _ => vs.length = 2 ∧ ∃ (a : Addr) (m : Int) (R : Lg), vs = [.ref a, .int m] ∧ 0 < m ∧ m ≤ 1000000000000000000 ∧ Dice K H a R ∧
  ∀ (r : Int) (H' : Hp), 0 ≤ r → r < m → Mono H H' → Dice K H' a R → Q (.int r) H'
section
variable {P : Program} {w : World} {K : PySem.W.Frag} {mg : Str → Option Value} {base : Heap}
theorem ok_dice (F : Fd K mg "_law_dice" s_dice) (Bm : Blt mg) : Gf P w K mg base 1 "_law_dice" ["_law_script"] (spDice K) := by
  refine F.ok sc_dice (fun _ _ _ _ _ _ us hl => match us, hl with | [_], _ => rfl) len_of fun qual f cdv A outer s H vs Q E hr h => ?_
  obtain ⟨_, c, ns, R, rfl, hn, hf, hR, k⟩ := h
  refine ⟨_, (pss_cons (ps_set (i := 1) sc_dice.nd rfl (Or.inl rfl) pe_int)
      (pss_cons (ps_for PassesOwn.never rfl (pi_list (pv 0)) (pg_name (i := 2) sc_dice.nd rfl (Or.inl rfl))
        (pss_one (ps_set (i := 1) sc_dice.nd rfl (Or.inl rfl) (pe_op op_mod (pe_op op_add (pe_op op_add (pe_op op_mul (pv 1) pe_int) (pe_op op_mul (pe_op op_mod (pv 2) pe_int) pe_int)) pe_int) pe_int))))
      (pss_one (ps_ret (pe_lst (pa_cons (pv 0) (pa_cons pe_int (pa_cons (pe_op op_mul (pv 1) (pe_callTy call_int1 rfl Bm.int (by decide +kernel) (pa_cons (pe_cmpR op_gt (pe_callB call_len_seq rfl Bm.len (by decide +kernel) (pa_cons (pv 0) pa_nil)) pe_int (nomark _)) pa_nil))) (pa_cons pe_int pa_nil))))))))), ?_⟩
  refine ⟨_, rfl, c, rfl, ⟨_, hf.sq⟩, for_list (K := K) (a := c) (xs := ns.map V.int) (fun i σ H2 => ∃ (z : Int) (v : Option V), σ = [some (.ref c), some (.int z), v] ∧ H2 = H) ⟨0, none, rfl, rfl⟩ (fun i σ H2 _ ⟨_, _, _, e⟩ => by rw [e]; exact hf.sq) ?_ ?_⟩
  · rintro i x σ H2 hi ⟨z, v, rfl, rfl⟩
    obtain ⟨y, rfl⟩ : ∃ y, x = V.int y := by
      rw [List.getElem?_map] at hi
      cases e : ns[i]? with
      | none =>
        rw [e] at hi
        cases hi
      | some y =>
        rw [e] at hi
        exact ⟨y, (Option.some.inj hi).symm⟩
    refine ⟨_, rfl, _, _, rfl, rfl, .inr ⟨by decide, by decide⟩, _, rfl, _, _, rfl, rfl, (by show (0 : Int) < 2147483647; decide), _, _, rfl, rfl, .inr ⟨by decide, by decide⟩, _, _, rfl, rfl, _, _, rfl, rfl, _, _, rfl, rfl, (by show (0 : Int) < 2147483647; decide), ?_⟩
    exact ⟨_, _, rfl, rfl⟩
  · rintro σ H2 ⟨z, v, rfl, rfl⟩
    refine ⟨_, rfl, _, rfl, _, rfl, c, _, rfl, .inl hf.sq, _, _, rfl, rfl, .inr ⟨_, rfl, _, _, rfl, rfl, .inr (by split <;> exact ⟨by decide, by decide⟩), ?_⟩⟩
    refine ⟨(by show 4 ≤ sizeLine; decide), fun l hl => ?_⟩
    exact k l _ (Mono.new hl) ⟨c, ns, _, _, _, Int.le_refl 0, hn, hf.mono (Mono.new hl), hR.new hl nl⟩
theorem ok_next (F : Fd K mg "_law_next" s_next) (Bm : Blt mg) : Gf P w K mg base 1 "_law_next" ["_law_dice_here", "_law_many"] (spNext K) := by
  refine F.ok sc_next (fun _ _ _ _ _ _ us hl => match us, hl with | [_, _], _ => rfl) len_of fun qual f cdv A outer s H vs Q E hr h => ?_
  obtain ⟨_, a, m, R, rfl, hm, hm2, ⟨c, ns, i, mx, r, hi, hn, hf, hh⟩, k⟩ := h
  have hdiv : CDivW 0 m := wide_div hm (wide_le (j := 1000000000000000000) (a := 60) (by omega) (by omega) (by decide)) (by decide) (by decide)
  refine ⟨_, (pss_cons (ps_if (pt_cmpR op_gt (pe_ix ix_list (pv 0) pe_int (fun _ _ => rfl)) pe_int (nomark _))
        (pss_cons (ps_set (i := 2) sc_next.nd rfl (Or.inl rfl) (pe_op op_mod (pe_ix ix_list (pv 0) pe_int (fun _ _ => rfl)) (pv 1)))
        (pss_cons (ps_asg (pe_op op_fdivW (pe_ix ix_list (pv 0) pe_int (fun _ _ => rfl)) (pv 1)) (pg_sub (pv 0) pe_int set_list))
        (pss_one (ps_ret (pv 2)))))
        pss_nil)
      (pss_cons (ps_asg (pe_op op_add (pe_ix ix_list (pv 0) pe_int (fun _ _ => rfl)) pe_int) (pg_sub (pv 0) pe_int set_list))
      (pss_cons (ps_if (pt_cmpR op_le (pe_ix ix_list (pv 0) pe_int (fun _ _ => rfl)) (pe_callB call_len_seq rfl Bm.len (by decide +kernel) (pa_cons (pe_ix ix_list (pv 0) pe_int (fun _ _ => rfl)) pa_nil)) (nomark _))
        (pss_cons (ps_set (i := 3) sc_next.nd rfl (Or.inl rfl) (pe_ix ix_list (pe_ix ix_list (pv 0) pe_int (fun _ _ => rfl)) (pe_op op_sub (pe_ix ix_list (pv 0) pe_int (fun _ _ => rfl)) pe_int) (fun _ _ => rfl)))
        (pss_cons (ps_asg (pe_ifExp (pt_cmpR op_ge (pv 3) (pe_op op_pow pe_int pe_int) (nomark _)) (pe_op op_fdivW (pv 3) (pv 1)) pe_int) (pg_sub (pv 0) pe_int set_list))
        (pss_one (ps_ret (pe_op op_mod (pv 3) (pv 1))))))
        pss_nil)
      (pss_cons (ps_asg (pe_op op_mod (pe_op op_mul (pe_ix ix_list (pv 0) pe_int (fun _ _ => rfl)) pe_int) pe_int) (pg_sub (pv 0) pe_int set_list))
      (pss_one (ps_ret (pe_op op_mod (pe_op op_fdivW (pe_ix ix_list (pv 0) pe_int (fun _ _ => rfl)) pe_int) (pv 1)))))))), ?_⟩
  have h0 := hh.head
  refine ⟨_, rfl, _, _, _, _, rfl, rfl, SqL.of h0, rfl, _, _, rfl, rfl, _, rfl, ite2 (fun hr0 => ?_) fun hr0 => ?_⟩
  · refine ⟨_, rfl, _, _, _, _, rfl, rfl, SqL.of h0, rfl, _, rfl, _, _, rfl, rfl, hm, ?_⟩
    refine ⟨_, rfl, _, _, _, _, rfl, rfl, SqL.of h0, rfl, _, rfl, _, _, rfl, rfl, hdiv, _, rfl, _, _, _, _, rfl, rfl, h0, rfl, _, rfl, ?_⟩
    exact k _ _ (Int.emod_nonneg _ (by omega)) (Int.emod_lt_of_pos _ hm) hh.mono_put ⟨c, ns, i, mx, r / m, hi, hn, hf.mono hh.mono_put, hh.put nl⟩
  · refine ⟨_, rfl, _, _, _, _, rfl, rfl, SqL.of h0, rfl, _, _, rfl, rfl, _, rfl, _, _, _, _, rfl, rfl, h0, rfl, ?_⟩
    have h1 : Has (upd H a (.lst [.ref c, .int (i + 1), .int mx, .int r])) ((a, .lst [.ref c, .int (i + 1), .int mx, .int r]) :: R) := hh.put nl
    have m1 : Mono H (upd H a (.lst [.ref c, .int (i + 1), .int mx, .int r])) := hh.mono_put
    have f1 := hf.mono m1
    have e1 := h1.head
    refine ⟨_, rfl, _, _, _, _, rfl, rfl, SqL.of e1, rfl, _, rfl, _, _, _, _, rfl, rfl, SqL.of e1, rfl, c, _, rfl, .inl f1.sq, _, _, rfl, rfl, _, rfl, ite2 (fun hle => ?_) fun hle => ?_⟩
    · have hle' : i + 1 ≤ (ns.length : Int) := by
        have := of_decide_eq_true hle
        rw [List.length_map] at this
        exact this
      have hj : i.toNat < ns.length := by omega
      have hat : atI (ns.map V.int) (i + 1 - 1) = some (V.int ns[i.toNat]) := at_of (j := i.toNat) (by omega) (by rw [List.getElem?_map, List.getElem?_eq_getElem hj]; rfl)
      refine ⟨_, rfl, _, _, _, _, rfl, rfl, SqL.of e1, rfl, _, rfl, _, _, _, _, rfl, rfl, SqL.of e1, rfl, _, _, rfl, rfl, c, _, _, _, rfl, rfl, f1.sq, hat, ?_⟩
      refine ⟨_, rfl, _, _, rfl, rfl, ⟨by decide, by decide, by decide⟩, _, _, rfl, rfl, _, rfl, ite2 (fun hb => ?_) fun hb => ?_⟩
      · refine ⟨_, rfl, _, rfl, _, _, rfl, rfl, hdiv, _, rfl, _, _, _, _, rfl, rfl, e1, rfl, _, rfl, _, rfl, _, _, rfl, rfl, hm, ?_⟩
        exact k _ _ (Int.emod_nonneg _ (by omega)) (Int.emod_lt_of_pos _ hm) (m1.trans h1.mono_put) ⟨c, ns, i + 1, mx, ns[i.toNat] / m, by omega, hn, f1.mono h1.mono_put, h1.put nl⟩
      · refine ⟨_, rfl, _, _, _, _, rfl, rfl, e1, rfl, _, rfl, _, rfl, _, _, rfl, rfl, hm, ?_⟩
        exact k _ _ (Int.emod_nonneg _ (by omega)) (Int.emod_lt_of_pos _ hm) (m1.trans h1.mono_put) ⟨c, ns, i + 1, mx, 0, by omega, hn, f1.mono h1.mono_put, h1.put nl⟩
    · refine ⟨_, rfl, _, _, _, _, rfl, rfl, SqL.of e1, rfl, _, _, rfl, rfl, .inr ⟨by decide, by decide⟩, _, _, rfl, rfl, (by show (0 : Int) < 2147483647; decide), _, rfl, _, _, _, _, rfl, rfl, e1, rfl, ?_⟩
      have h2 := h1.put (o' := .lst [.ref c, .int (i + 1), .int (mx * 48271 % 2147483647), .int r]) nl
      have e2 := h2.head
      refine ⟨_, rfl, _, _, _, _, rfl, rfl, SqL.of e2, rfl, _, _, rfl, rfl, ⟨by decide, by decide⟩, _, rfl, _, _, rfl, rfl, hm, ?_⟩
      exact k _ _ (Int.emod_nonneg _ (by omega)) (Int.emod_lt_of_pos _ hm) (m1.trans h1.mono_put) ⟨c, ns, i + 1, _, r, by omega, hn, f1.mono h1.mono_put, h2⟩
end
end Cu

namespace Cu
open PySem PySem.Spec PyProof.Rows L2
abbrev s_worth : Stmt := (top 25)
theorem sc_worth : FnScope ["_law_d"] ["_law_d"] (defScope s_worth) := ⟨rfl, rfl, rfl, by decide +kernel, rfl, by decide +kernel, by decide +kernel⟩

abbrev s_changes : Stmt := (top 27)
theorem sc_changes : FnScope ["_law_d", "_law_keys", "_law_most", "_law_often", "_law_few", "_law_found", "_law_k", "_law_word"] ["_law_d", "_law_keys", "_law_most"] (defScope s_changes) := ⟨rfl, rfl, rfl, by decide +kernel, rfl, by decide +kernel, by decide +kernel⟩

theorem at_some {xs : List V} {r : Int} (h0 : 0 ≤ r) (h1 : r < (xs.length : Int)) : ∃ v, atI xs r = some v ∧ v ∈ xs := by
  have hj : r.toNat < xs.length := by omega
  exact ⟨xs[r.toNat], at_of (j := r.toNat) (by omega) (List.getElem?_eq_getElem hj), List.getElem_mem hj⟩
/-- a change as it is drawn -/
structure Ch where
  key : Nat
  set : Bool
  worth : Int
def wd (b : Bool) : Str := if b then "set" else "add"
def Ch.enc (c : Ch) : PyData := .tuple [.int c.key, .str (wd c.set), .int c.worth]
def spWorth (K : PySem.W.Frag) : Sp := fun vs H Q _ => vs.length = 1 ∧ ∃ (a : Addr) (R : Lg), vs = [.ref a] ∧ Dice K H a R ∧ ∀ (z : Int) (H' : Hp), Mono H H' → Dice K H' a R → Q (.int z) H'
def spChanges (K : PySem.W.Frag) : Sp := fun vs H Q _ => vs.length = 3 ∧ ∃ (a : Addr) (nk mo : Nat) (R : Lg), vs = [.ref a, .int nk, .int mo] ∧ 0 < nk ∧ nk ≤ 8 ∧ mo ≤ 1000 ∧ Dice K H a R ∧
  ∀ (cs : List Ch) (v : V) (H' : Hp), cs.length ≤ mo → (∀ c ∈ cs, c.key < nk) → Mono H H' → Dice K H' a R → Rp K H' (.list (cs.map Ch.enc)) v → Q v H'
section
variable {P : Program} {w : World} {K : PySem.W.Frag} {mg : Str → Option Value} {base : Heap}
theorem ok_worth (F : Fd K mg "_law_worth" s_worth) (Bm : Blt mg) (g_next : Gf P w K mg base 1 "_law_next" ["_law_dice_here", "_law_many"] (spNext K)) : Gf P w K mg base 2 "_law_worth" ["_law_d"] (spWorth K) := by
  refine F.ok sc_worth (fun _ _ _ _ _ _ us hl => match us, hl with | [_], _ => rfl) len_of fun qual f cdv A outer s H vs Q E hr h => ?_
  obtain ⟨_, a, R, rfl, d, k⟩ := h
  refine ⟨_, (pss_one (ps_ret (pe_ix ix_list (pe_lst (pa_cons (pe_op op_sub (pc g_next hr (pa_cons (pv 0) (pa_cons pe_int pa_nil))) pe_int) (pa_cons (pe_op op_sub (pc g_next hr (pa_cons (pv 0) (pa_cons pe_int pa_nil))) pe_int) (pa_cons (pc g_next hr (pa_cons (pv 0) (pa_cons (pe_op op_pow pe_int pe_int) pa_nil))) pa_nil)))) (pc g_next hr (pa_cons (pv 0) (pa_cons pe_int pa_nil))) (fun _ _ => rfl)))), ?_⟩
  refine ⟨_, rfl, rfl, a, 5, R, rfl, by decide, by decide, d, fun r1 H1 _ _ m1 d1 => ⟨_, _, rfl, rfl, ?_⟩⟩
  refine ⟨_, rfl, rfl, a, 2000, R, rfl, by decide, by decide, d1, fun r2 H2 _ _ m2 d2 => ⟨_, _, rfl, rfl, ?_⟩⟩
  refine ⟨_, rfl, _, _, rfl, rfl, ⟨by decide, by decide, by decide⟩, rfl, a, 1000000000000000000, R, rfl, by decide, by decide, d2, fun r3 H3 _ _ m3 d3 => ⟨(by show 3 ≤ sizeLine; decide), fun p hp => ?_⟩⟩
  refine ⟨_, rfl, rfl, a, 3, _, rfl, by decide, by decide, d3.new (o := .lst [.int (r1 - 1), .int (r2 - 1000), .int r3]) hp nl, fun r4 H4 h0 h1 m4 d4 => ?_⟩
  obtain ⟨v, hv, hm⟩ := at_some (xs := [.int (r1 - 1), .int (r2 - 1000), .int r3]) h0 h1
  obtain ⟨z, rfl⟩ : ∃ z, v = V.int z := by
    simp only [List.mem_cons, List.not_mem_nil, or_false] at hm
    rcases hm with e | e | e <;> exact ⟨_, e⟩
  exact ⟨_, _, _, _, rfl, rfl, SqL.of d4.at_, hv, k z H4 ((((m1.trans m2).trans m3).trans (Mono.new hp)).trans m4) d4.tail⟩
theorem ok_changes (F : Fd K mg "_law_changes" s_changes) (Bm : Blt mg) (g_next : Gf P w K mg base 1 "_law_next" ["_law_dice_here", "_law_many"] (spNext K)) (g_worth : Gf P w K mg base 2 "_law_worth" ["_law_d"] (spWorth K)) :
    Gf P w K mg base 3 "_law_changes" ["_law_d", "_law_keys", "_law_most"] (spChanges K) := by
  refine F.ok sc_changes (fun _ _ _ _ _ _ us hl => match us, hl with | [_, _, _], _ => rfl) len_of fun qual f cdv A outer s H vs Q E hr h => ?_
  obtain ⟨_, a, nk, mo, R, rfl, hk, hk8, hmo, d, k⟩ := h
  refine ⟨_, (pss_cons (ps_set (i := 3) sc_changes.nd rfl (Or.inl rfl) (pe_op op_add pe_int (pc g_next hr (pa_cons (pv 0) (pa_cons pe_int pa_nil)))))
      (pss_cons (ps_set (i := 4) sc_changes.nd rfl (Or.inl rfl) (pe_op op_add pe_int (pc g_next hr (pa_cons (pv 0) (pa_cons (pv 1) pa_nil)))))
      (pss_cons (ps_set (i := 5) sc_changes.nd rfl (Or.inl rfl) (pe_lst pa_nil))
      (pss_cons (ps_for PassesOwn.never rfl (pi_range1 rfl Bm.range (pa_cons (pc g_next hr (pa_cons (pv 0) (pa_cons (pe_op op_add (pv 2) pe_int) pa_nil))) pa_nil)) (pg_name (i := 6) sc_changes.nd rfl (Or.inl rfl))
        (pss_cons (ps_set (i := 7) sc_changes.nd rfl (Or.inl rfl) (pe_ix ix_list (pe_lst (pa_cons pe_str (pa_cons pe_str pa_nil))) (pe_callTy call_int1 rfl Bm.int (by decide +kernel) (pa_cons (pe_cmpR op_eq (pc g_next hr (pa_cons (pv 0) (pa_cons (pv 3) pa_nil))) pe_int (nomark _)) pa_nil)) (fun _ _ => rfl)))
        (pss_one (ps_expr (pe_bm PySem.F.plainAttrs_list PySem.F.slot_list_append PySem.F.type_list_append mt_append (pv 5) (pa_cons (pe_tup (pa_cons (pc g_next hr (pa_cons (pv 0) (pa_cons (pe_ix ix_list (pe_lst (pa_cons (pv 4) (pa_cons (pv 4) (pa_cons (pv 1) pa_nil)))) (pc g_next hr (pa_cons (pv 0) (pa_cons pe_int pa_nil))) (fun _ _ => rfl)) pa_nil))) (pa_cons (pv 7) (pa_cons (pc g_worth hr (pa_cons (pv 0) pa_nil)) pa_nil)))) pa_nil))))))
      (pss_one (ps_ret (pe_fz (pv 5)))))))), ?_⟩
  refine ⟨_, rfl, rfl, a, 4, R, rfl, by decide, by decide, d, fun r1 H1 p1 q1 m1 d1 => ⟨_, _, rfl, rfl, ?_⟩⟩
  refine ⟨_, rfl, _, rfl, rfl, a, nk, R, rfl, by omega, by omega, d1, fun r2 H2 p2 q2 m2 d2 => ⟨_, _, rfl, rfl, ?_⟩⟩
  refine ⟨(by show 0 ≤ sizeLine; decide), fun p hp => ?_⟩
  have d3 := d2.new (o := .lst []) hp nl
  have m3 := (m1.trans m2).trans (Mono.new (o := .lst []) hp)
  refine ⟨_, rfl, _, rfl, _, _, rfl, rfl, rfl, a, mo + 1, _, rfl, by omega, by omega, d3, fun r4 H4 p4 q4 m4 d4 => ⟨_, rfl, by omega, by omega, ?_⟩⟩
  refine for_range (lo := 0) (n := r4.toNat) (fun i σ H5 => ∃ (cs : List Ch) (xs : List V) (v6 v7 : Option V), σ = [some (.ref a), some (.int nk), some (.int mo), some (.int (1 + r1)), some (.int (1 + r2)), some (.ref p), v6, v7] ∧
    Mono H H5 ∧ Dice K H5 a ((p, .lst xs) :: R) ∧ RpL K H5 (cs.map Ch.enc) xs ∧ cs.length = i ∧ ∀ c ∈ cs, c.key < nk)
    ⟨[], [], none, none, rfl, m3.trans m4, d4, .nil, rfl, fun _ h => (nomatch h)⟩ ?_ ?_
  · rintro i σ H5 hi ⟨cs, xs, v6, v7, rfl, m5, d5, rp, hl, hc⟩
    refine ⟨(by show 2 ≤ sizeLine; decide), fun l hl2 => ?_⟩
    have d6 := d5.new (o := .lst [.str "add", .str "set"]) hl2 nl
    refine ⟨_, rfl, _, rfl, rfl, a, _, _, rfl, by omega, by omega, d6, fun r6 H6 _ _ m6 d7 => ⟨rfl, .inr ⟨_, rfl, ?_⟩⟩⟩
    have d8 := d7.tail
    have m8 := (Mono.new (o := .lst [.str "add", .str "set"]) hl2).trans m6
    refine ⟨_, _, _, .str (wd (decide (V.int r6 = V.int 0))), rfl, rfl, SqL.of d7.at_, (by cases decide (V.int r6 = V.int 0) <;> rfl), ?_⟩
    refine ⟨_, rfl, .inl ⟨rfl, _, SqL.of d8.at_⟩, _, rfl, _, rfl, _, rfl, _, rfl, ⟨(by show 3 ≤ sizeLine; decide), fun l2 hl3 => ?_⟩⟩
    have d9 := d8.new (o := .lst [.int (1 + r2), .int (1 + r2), .int nk]) hl3 nl
    refine ⟨_, rfl, rfl, a, 3, _, rfl, by decide, by decide, d9, fun r9 H9 p9 q9 m9 d10 => ?_⟩
    obtain ⟨v, hv, hm⟩ := at_some (xs := [.int (1 + r2), .int (1 + r2), .int nk]) p9 q9
    obtain ⟨z, rfl, hz0, hzk⟩ : ∃ z, v = V.int z ∧ 0 < z ∧ z ≤ nk := by
      simp only [List.mem_cons, List.not_mem_nil, or_false] at hm
      rcases hm with e | e | e
      · exact ⟨_, e, by omega, by omega⟩
      · exact ⟨_, e, by omega, by omega⟩
      · exact ⟨_, e, by omega, by omega⟩
    refine ⟨_, _, _, _, rfl, rfl, SqL.of d10.at_, hv, rfl, a, z, _, rfl, hz0, by omega, d10.tail, fun r11 H11 p11 q11 m11 d11 => ?_⟩
    refine ⟨_, rfl, _, rfl, rfl, a, _, rfl, d11, fun z12 H12 m12 d12 => ⟨(by show 3 ≤ sizeLine; decide), fun t ht => ?_⟩⟩
    have ms := (((m8.trans (Mono.new (o := .lst [.int (1 + r2), .int (1 + r2), .int nk]) hl3)).trans m9).trans m11).trans m12
    have d13 := d12.old (o := .tup [.int r11, .str (wd (decide (V.int r6 = V.int 0))), .int z12]) ht
    have mt : Mono H12 (upd H12 t (.tup [.int r11, .str (wd (decide (V.int r6 = V.int 0))), .int z12])) := Mono.new ht
    have hxs : xs.length = i := by rw [rp.length, List.length_map, hl]
    refine ⟨_, _, _, rfl, rfl, d13.at_, (by rw [hxs]; exact small1000 (by omega)), ?_⟩
    refine ⟨cs ++ [⟨r11.toNat, decide (V.int r6 = V.int 0), z12⟩], _, _, _, rfl, ((m5.trans ms).trans mt).trans d13.mput, d13.put nl, ?_, by rw [List.length_append, hl]; rfl, fun c hcm => ?_⟩
    · rw [List.map_append]
      refine ((rp.mono ((ms.trans mt).trans d13.mput)).append (.cons ?_ .nil))
      have e : ((r11.toNat : Nat) : Int) = r11 := by omega
      refine Rp.tup (d13.mput _ _ upd_same trivial) ?_
      show RpL K _ [.int ((r11.toNat : Nat) : Int), _, _] _
      rw [e]
      exact .cons .int (.cons .str (.cons .int .nil))
    · rcases List.mem_append.mp hcm with h | h
      · exact hc c h
      · rw [List.mem_singleton.mp h]
        show r11.toNat < nk
        omega
  · rintro σ H5 ⟨cs, xs, v6, v7, rfl, m5, d5, rp, hl, hc⟩
    refine rd_fz ⟨_, rfl, p, xs, rfl, d5.at_, fun o => ?_⟩
    exact k cs _ _ (by omega) hc (m5.trans d5.mfz) d5.fz (.lst FzL.frz (rp.mono d5.mfz))
end
end Cu

namespace Cu
open PySem PySem.Spec PyProof.Rows L2
/-! a story: worths and lasts behind changes, rows, letters -/
def wst (k : Nat) (w : Int) (c : Ch) : Int := if c.key = k then (if c.set then 0 else w) + c.worth else w
def wofR : List Ch → Nat → Int
  | [], _ => 0
  | c :: r, k => wst k (wofR r k) c
def lofR : List Ch → Nat → Nat
  | [], _ => 0
  | c :: r, k => if c.key = k then r.length + 1 else lofR r k
def wof (cs : List Ch) (k : Nat) : Int := wofR cs.reverse k
def lof (cs : List Ch) (k : Nat) : Nat := lofR cs.reverse k
theorem wof_nil (k : Nat) : wof [] k = 0 := rfl
theorem lof_nil (k : Nat) : lof [] k = 0 := rfl
theorem wof_snoc (cs : List Ch) (c : Ch) (k : Nat) : wof (cs ++ [c]) k = wst k (wof cs k) c := by
  unfold wof
  rw [List.reverse_append]
  rfl
theorem lof_snoc (cs : List Ch) (c : Ch) (k : Nat) : lof (cs ++ [c]) k = if c.key = k then cs.length + 1 else lof cs k := by
  unfold lof
  rw [List.reverse_append]
  show (if c.key = k then cs.reverse.length + 1 else lofR cs.reverse k) = _
  rw [List.length_reverse]
def wrow (nk : Nat) (cs : List Ch) : List Int := (List.range nk).map (wof cs)
def lrow (nk : Nat) (cs : List Ch) : List Int := (List.range nk).map fun k => (lof cs k : Int)
def ilst (ns : List Int) : PyData := .list (ns.map PyData.int)
def rowD (nk : Nat) (cs : List Ch) : PyData := .tuple [ilst (wrow nk cs), ilst (lrow nk cs)]
inductive Letter where
  | change (n : Nat) (c : Ch) (ahead : Nat)
  | part (n b : Nat) (rows : List (Int × Nat))
  | beat (n : Nat) (lasts : List Nat)
def Letter.enc : Letter → PyData
  | .change n c ahead => .tuple [.str "change", .int n, .int c.key, .str (wd c.set), .int c.worth, .int ahead]
  | .part n b rows => .tuple [.str "part", .int n, .int b, .tuple (rows.map fun r => .tuple [.int r.1, .int r.2])]
  | .beat n lasts => .tuple [.str "beat", .int n, .tuple (lasts.map fun k : Nat => .int k)]
def letsR : List Ch → List Letter
  | [] => []
  | c :: r => letsR r ++ [.change (r.length + 1) c (lofR r c.key)]
def rowsR (nk : Nat) : List Ch → List PyData
  | [] => [rowD nk []]
  | c :: r => rowsR nk r ++ [rowD nk (c :: r).reverse]
def lets (cs : List Ch) : List Letter := letsR cs.reverse
def rowsD (nk : Nat) (cs : List Ch) : List PyData := rowsR nk cs.reverse
theorem lets_nil : lets [] = [] := rfl
theorem lets_snoc (cs : List Ch) (c : Ch) : lets (cs ++ [c]) = lets cs ++ [.change (cs.length + 1) c (lof cs c.key)] := by
  unfold lets lof
  rw [List.reverse_append]
  show letsR cs.reverse ++ [Letter.change (cs.reverse.length + 1) c (lofR cs.reverse c.key)] = _
  rw [List.length_reverse]
theorem rowsD_nil (nk : Nat) : rowsD nk [] = [rowD nk []] := rfl
theorem rowsD_snoc (nk : Nat) (cs : List Ch) (c : Ch) : rowsD nk (cs ++ [c]) = rowsD nk cs ++ [rowD nk (cs ++ [c])] := by
  unfold rowsD
  rw [List.reverse_append]
  show rowsR nk cs.reverse ++ [rowD nk (c :: cs.reverse).reverse] = _
  rw [List.reverse_cons, List.reverse_reverse]
theorem snoc_ind {α : Type} {p : List α → Prop} (h0 : p []) (h1 : ∀ xs x, p xs → p (xs ++ [x])) (xs : List α) : p xs := by
  have q : ∀ ys : List α, p ys.reverse := fun ys => by
    induction ys with
    | nil => exact h0
    | cons y ys ih =>
      rw [List.reverse_cons]
      exact h1 _ _ ih
  have := q xs.reverse
  rwa [List.reverse_reverse] at this
theorem rowsD_last (nk : Nat) (cs : List Ch) : ∃ init, rowsD nk cs = init ++ [rowD nk cs] := by
  induction cs using snoc_ind with
  | h0 => exact ⟨[], rfl⟩
  | h1 cs c _ => exact ⟨_, rowsD_snoc nk cs c⟩
theorem rowsD_length (nk : Nat) (cs : List Ch) : (rowsD nk cs).length = cs.length + 1 := by
  induction cs using snoc_ind with
  | h0 => rfl
  | h1 cs c ih => rw [rowsD_snoc, List.length_append, ih, List.length_append]; rfl
theorem lets_length (cs : List Ch) : (lets cs).length = cs.length := by
  induction cs using snoc_ind with
  | h0 => rfl
  | h1 cs c ih => rw [lets_snoc, List.length_append, ih, List.length_append]; rfl
theorem rowsD_get {nk : Nat} : ∀ {cs : List Ch} {n : Nat}, n ≤ cs.length → (rowsD nk cs)[n]? = some (rowD nk (cs.take n)) := by
  intro cs
  induction cs using snoc_ind with
  | h0 =>
    intro n h
    have : n = 0 := by simpa using h
    subst this
    rfl
  | h1 cs c ih =>
    intro n h
    rw [rowsD_snoc]
    rw [List.length_append, List.length_singleton] at h
    by_cases e : n ≤ cs.length
    · rw [List.getElem?_append_left (by rw [rowsD_length]; omega), ih e, List.take_append_of_le_length e]
    · have e1 : n = cs.length + 1 := by omega
      subst e1
      rw [List.getElem?_append_right (by rw [rowsD_length]; exact Nat.le_refl _), rowsD_length, Nat.sub_self, List.take_of_length_le (by simp)]
      rfl
theorem lets_get : ∀ {cs : List Ch} {n : Nat} {c : Ch}, cs[n]? = some c → (lets cs)[n]? = some (.change (n + 1) c (lof (cs.take n) c.key)) := by
  intro cs
  induction cs using snoc_ind with
  | h0 =>
    intro n c h
    simp at h
  | h1 cs d ih =>
    intro n c h
    rw [lets_snoc]
    have hn : n < cs.length + 1 := by
      have := (List.getElem?_eq_some_iff.mp h).1
      simpa using this
    by_cases e : n < cs.length
    · rw [List.getElem?_append_left (by rw [lets_length]; exact e), List.take_append_of_le_length (Nat.le_of_lt e)]
      rw [List.getElem?_append_left e] at h
      exact ih h
    · have e1 : n = cs.length := by omega
      subst e1
      rw [List.getElem?_append_right (Nat.le_refl _), Nat.sub_self] at h
      have e2 : d = c := by simpa using h
      subst e2
      rw [List.getElem?_append_right (by rw [lets_length]; exact Nat.le_refl _), lets_length, Nat.sub_self, List.take_append_of_le_length (Nat.le_refl _), List.take_of_length_le (Nat.le_refl _)]
      rfl
theorem set_cut {α : Type} (xs : List α) (k : Nat) (v : α) (h : k < xs.length) : xs.take k ++ [v] ++ xs.drop (k + 1) = xs.set k v := by
  rw [List.set_eq_take_append_cons_drop, if_pos h, List.append_assoc]
  rfl
theorem wrow_snoc (nk : Nat) (cs : List Ch) (c : Ch) : wrow nk (cs ++ [c]) = (wrow nk cs).set c.key (wst c.key (wof cs c.key) c) := by
  apply List.ext_getElem?
  intro i
  unfold wrow
  rw [List.getElem?_map]
  by_cases hi : i < nk
  · rw [List.getElem?_range hi]
    by_cases e : c.key = i
    · rw [e, List.getElem?_set_self (by simpa using hi)]
      simp [wof_snoc]
    · rw [List.getElem?_set_ne e, List.getElem?_map, List.getElem?_range hi]
      simp [wof_snoc, wst, e]
  · have h1 : (List.range nk)[i]? = none := by simp; omega
    have h2 : ((List.range nk).map (wof cs)).length ≤ i := by simp; omega
    rw [h1, List.getElem?_eq_none (by rw [List.length_set]; exact h2)]
    rfl
theorem lrow_snoc (nk : Nat) (cs : List Ch) (c : Ch) : lrow nk (cs ++ [c]) = (lrow nk cs).set c.key ((cs.length + 1 : Nat) : Int) := by
  apply List.ext_getElem?
  intro i
  unfold lrow
  rw [List.getElem?_map]
  by_cases hi : i < nk
  · rw [List.getElem?_range hi]
    by_cases e : c.key = i
    · rw [e, List.getElem?_set_self (by simpa using hi)]
      simp [lof_snoc, e]
    · rw [List.getElem?_set_ne e, List.getElem?_map, List.getElem?_range hi]
      simp [lof_snoc, e]
  · have h1 : (List.range nk)[i]? = none := by simp; omega
    have h2 : ((List.range nk).map fun k => (lof cs k : Int)).length ≤ i := by simp; omega
    rw [h1, List.getElem?_eq_none (by rw [List.length_set]; exact h2)]
    rfl
theorem wrow_get {nk k : Nat} {cs : List Ch} (h : k < nk) : (wrow nk cs)[k]? = some (wof cs k) := by
  unfold wrow
  rw [List.getElem?_map, List.getElem?_range h]
  rfl
theorem lrow_get {nk k : Nat} {cs : List Ch} (h : k < nk) : (lrow nk cs)[k]? = some (lof cs k : Int) := by
  unfold lrow
  rw [List.getElem?_map, List.getElem?_range h]
  rfl
theorem wrow_len (nk : Nat) (cs : List Ch) : (wrow nk cs).length = nk := by simp [wrow]
theorem lrow_len (nk : Nat) (cs : List Ch) : (lrow nk cs).length = nk := by simp [lrow]
theorem wrow_nil (nk : Nat) : wrow nk [] = List.replicate nk 0 := by
  apply List.ext_getElem?
  intro i
  by_cases hi : i < nk
  · rw [wrow_get hi, List.getElem?_replicate, if_pos hi]
    rfl
  · rw [List.getElem?_eq_none (by rw [wrow_len]; omega), List.getElem?_eq_none (by simp; omega)]
theorem lrow_nil (nk : Nat) : lrow nk [] = List.replicate nk 0 := by
  apply List.ext_getElem?
  intro i
  by_cases hi : i < nk
  · rw [lrow_get hi, List.getElem?_replicate, if_pos hi]
    rfl
  · rw [List.getElem?_eq_none (by rw [lrow_len]; omega), List.getElem?_eq_none (by simp; omega)]
theorem take_snoc {α : Type} {xs : List α} {i : Nat} {x : α} (h : xs[i]? = some x) : xs.take (i + 1) = xs.take i ++ [x] := by
  rw [List.take_add_one, h]
  rfl

section
variable {K : PySem.W.Frag} {H H' : Hp}
theorem RpL.snoc_inv : ∀ {ds : List PyData} {d : PyData} {vs : List V}, RpL K H (ds ++ [d]) vs → ∃ us v, vs = us ++ [v] ∧ RpL K H ds us ∧ Rp K H d v
  | [], d, vs, h => by
    obtain ⟨v, r, e, h1, h2⟩ := RpL.cons_inv (show RpL K H [d] vs from h)
    have := h2.nil_inv
    subst this
    exact ⟨[], v, e, .nil, h1⟩
  | c :: ds, d, vs, h => by
    obtain ⟨v, r, e, h1, h2⟩ := RpL.cons_inv (show RpL K H (c :: (ds ++ [d])) vs from h)
    obtain ⟨us, u, e2, h3, h4⟩ := RpL.snoc_inv h2
    subst e2
    exact ⟨v :: us, u, e, .cons h1 h3, h4⟩
/-- a list of ints that stays -/
theorem Rp.il_inv {ns : List Int} {v : V} (h : Rp K H (ilst ns) v) : ∃ a, v = .ref a ∧ FzL K H a (ns.map V.int) := by
  obtain ⟨a, xs, e, f, r⟩ := h.lst_inv
  rw [r.ints] at f
  exact ⟨a, e, f⟩
theorem Rp.il {ns : List Int} {a : Addr} (h : FzL K H a (ns.map V.int)) : Rp K H (ilst ns) (.ref a) := .lst h (RpL.of_ints ns)
theorem Rp.ch_inv {c : Ch} {v : V} (h : Rp K H c.enc v) : ∃ a, v = .ref a ∧ H a = some (.tup [.int c.key, .str (wd c.set), .int c.worth]) := by
  obtain ⟨a, xs, e, f, r⟩ := h.tup_inv
  obtain ⟨v1, r1, e1, h1, r⟩ := r.cons_inv
  obtain ⟨v2, r2, e2, h2, r⟩ := r.cons_inv
  obtain ⟨v3, r3, e3, h3, r⟩ := r.cons_inv
  have := r.nil_inv
  subst this e3 e2 e1
  have h1 := Rp.int_iff.mp h1
  have h2 := Rp.str_iff.mp h2
  have h3 := Rp.int_iff.mp h3
  subst h1 h2 h3
  exact ⟨a, e, f⟩
theorem Rp.row_inv {nk : Nat} {cs : List Ch} {v : V} (h : Rp K H (rowD nk cs) v) : ∃ a p q, v = .ref a ∧ H a = some (.tup [.ref p, .ref q]) ∧ FzL K H p ((wrow nk cs).map V.int) ∧ FzL K H q ((lrow nk cs).map V.int) := by
  obtain ⟨a, xs, e, f, r⟩ := h.tup_inv
  obtain ⟨v1, r1, e1, h1, r⟩ := r.cons_inv
  obtain ⟨v2, r2, e2, h2, r⟩ := r.cons_inv
  have := r.nil_inv
  subst this e2 e1
  obtain ⟨p, e1, f1⟩ := h1.il_inv
  obtain ⟨q, e2, f2⟩ := h2.il_inv
  subst e1 e2
  exact ⟨a, p, q, e, f, f1, f2⟩
theorem Rp.row {nk : Nat} {cs : List Ch} {a p q : Addr} (h : H a = some (.tup [.ref p, .ref q])) (f1 : FzL K H p ((wrow nk cs).map V.int)) (f2 : FzL K H q ((lrow nk cs).map V.int)) : Rp K H (rowD nk cs) (.ref a) :=
  .tup h (.cons (.il f1) (.cons (.il f2) .nil))
end
theorem Dice.use {K : PySem.W.Frag} {H : Hp} {a : Addr} {R : Lg} (d : Dice K H a R) : ∃ R0, Has H R0 ∧ ∀ H', Mono H H' → Has H' R0 → Dice K H' a R :=
  let ⟨c, ns, i, m, r, h1, h2, h3, h⟩ := d
  ⟨_, h, fun _ m' h' => ⟨c, ns, i, m, r, h1, h2, h3.mono m', h'⟩⟩
end Cu

namespace Cu
open PySem PySem.Spec PyProof.Rows L2
/-- what is owned goes from C to C', whatever else is owned; nothing else changes -/
structure Tr (H : Hp) (C : Lg) (H' : Hp) (C' : Lg) : Prop where
  mono : Mono H H'
  has : ∀ R, Has H (C ++ R) → Has H' (C' ++ R)
abbrev Grow (H H' : Hp) : Prop := Tr H [] H' []
section
variable {K : PySem.W.Frag} {H H1 H2 : Hp} {C C1 C2 D : Lg} {a p : Addr} {o o' : HO} {R : Lg}
theorem Tr.refl (H : Hp) (C : Lg) : Tr H C H C := ⟨Mono.refl H, fun _ h => h⟩
theorem Tr.trans (t : Tr H C H1 C1) (u : Tr H1 C1 H2 C2) : Tr H C H2 C2 := ⟨t.mono.trans u.mono, fun R h => u.has R (t.has R h)⟩
theorem Tr.right (t : Tr H C H1 C1) : Tr H (C ++ D) H1 (C1 ++ D) := ⟨t.mono, fun R h => by
  rw [List.append_assoc] at h ⊢
  exact t.has _ h⟩
theorem Tr.left (t : Tr H C H1 C1) : Tr H (D ++ C) H1 (D ++ C1) := ⟨t.mono, fun R h => by
  rw [List.append_assoc] at h ⊢
  exact (t.has _ h.swap).swap⟩
theorem Tr.now (t : Tr H C H1 C1) (h : Has H C) : Has H1 C1 := by
  have := t.has [] (by rw [List.append_nil]; exact h)
  rwa [List.append_nil] at this
theorem Tr.own (t : Tr H [] H1 C1) : Has H1 C1 := t.now .nil
theorem Tr.grow (t : Tr H C H1 C1) (g : Grow H1 H2) : Tr H C H2 C1 := t.trans (by simpa using g.right (D := C1))
theorem Tr.new (t : Tr H C H1 C1) (f : H1 p = none) (n : ¬ Imm o) : Tr H C (upd H1 p o) ((p, o) :: C1) := ⟨t.mono.trans (Mono.new f), fun R h => (t.has R h).new f n⟩
theorem Tr.old (t : Tr H C H1 C1) (f : H1 p = none) : Tr H C (upd H1 p o) C1 := ⟨t.mono.trans (Mono.new f), fun R h => (t.has R h).old f⟩
theorem Tr.put (t : Tr H C H1 ((p, o) :: C1)) (h : Has H C) (n : ¬ Imm o') : Tr H C (upd H1 p o') ((p, o') :: C1) := ⟨t.mono.trans (t.now h).mono_put, fun R h => (t.has R h).put n⟩
theorem Tr.fz {xs : List V} {ob : Obj} (t : Tr H C H1 ((p, .lst xs) :: C1)) (h : Has H C) : Tr H C (upd H1 p (.frz ob (.lst xs))) C1 :=
  ⟨t.mono.trans (t.now h).mono_put, fun R h => (t.has R h).tail.off (List.nodup_cons.mp (t.has R h).nd).1⟩
theorem Tr.perm (t : Tr H C H1 C1) (e : C1.Perm C2) : Tr H C H1 C2 := ⟨t.mono, fun R h => (t.has R h).perm (e.append_right R)⟩
theorem Tr.sub (t : Tr H C H1 C1) (e : C2.Sublist C1) : Tr H C H1 C2 := ⟨t.mono, fun R h => (t.has R h).sub (e.append_right R)⟩
theorem Tr.tail (t : Tr H C H1 ((p, o) :: C1)) : Tr H C H1 C1 := t.sub (List.sublist_cons_self _ _)
theorem Tr.swap2 {q r : Addr × HO} (t : Tr H C H1 (q :: r :: C1)) : Tr H C H1 (r :: q :: C1) := t.perm (List.Perm.swap _ _ _)
/-- a new list, frozen at once -/
theorem Tr.nfz {xs : List V} {ob : Obj} (t : Tr H C H1 C1) (f : H1 p = none) : Tr H C (upd (upd H1 p (.lst xs)) p (.frz ob (.lst xs))) C1 :=
  ⟨t.mono.trans ((Mono.new f).trans (Mono.put upd_same fun h => h)), fun R h => ((t.has R h).old f).off ((t.has R h).notin f)⟩
theorem Grow.mono' (g : Grow H H1) : Mono H H1 := g.mono
theorem Grow.has' (g : Grow H H1) (h : Has H R) : Has H1 R := g.has R h
theorem Grow.refl (H : Hp) : Grow H H := Tr.refl H []
theorem Grow.new (f : H p = none) : Grow H (upd H p o) := (Tr.refl H []).old f
/-- a new tuple goes to the end of an owned list -/
theorem snoc_tup {l t : Addr} {ys us : List V} {ds : List PyData} (h : Has H ((l, .lst ys) :: C)) (ht : H t = none) (r : RpL K H ds us) :
    Tr H ((l, .lst ys) :: C) (upd (upd H t (.tup us)) l (.lst (ys ++ [.ref t]))) ((l, .lst (ys ++ [.ref t])) :: C) ∧ Rp K (upd (upd H t (.tup us)) l (.lst (ys ++ [.ref t]))) (.tuple ds) (.ref t) := by
  have s1 := (Tr.refl H ((l, .lst ys) :: C)).old (o := .tup us) ht
  have s2 := s1.put (o' := .lst (ys ++ [.ref t])) h nl
  exact ⟨s2, .tup ((s1.now h).mono_put _ _ upd_same trivial) (r.mono s2.mono)⟩
theorem Dice.grow (d : Dice K H a R) (g : Grow H H1) : Dice K H1 a R := by
  obtain ⟨R0, h0, back⟩ := d.use
  exact back _ g.mono (g.has _ h0)
theorem Dice.tr (d : Dice K H a (C ++ R)) (t : Tr H C H1 C1) : Dice K H1 a (C1 ++ R) :=
  let ⟨c, ns, i, m, r, h1, h2, h3, h⟩ := d
  ⟨c, ns, i, m, r, h1, h2, h3.mono t.mono, by
    have := t.has ((a, .lst [.ref c, .int i, .int m, .int r]) :: R) h.swap1
    exact this.unswap1⟩
theorem Dice.tr0 (d : Dice K H a C) (t : Tr H C H1 C1) : Dice K H1 a C1 := by
  have := Dice.tr (R := []) (by rw [List.append_nil]; exact d) t
  rwa [List.append_nil] at this
end
end Cu

namespace Cu
open PySem PySem.Spec PyProof.Rows L2
/-! data that may be compared -/
def Gd (n : Nat) (d : PyData) : Prop := d.canLay0 = true ∧ d.depth ≤ n
theorem Gd.mono {n m : Nat} {d : PyData} (h : Gd n d) (e : n ≤ m) : Gd m d := ⟨h.1, Nat.le_trans h.2 e⟩
theorem Gd.int {n : Nat} {i : Int} : Gd n (.int i) := ⟨by simp [PyData.canLay0], by simp [PyData.depth]⟩
theorem Gd.none {n : Nat} : Gd n .none := ⟨by simp [PyData.canLay0], by simp [PyData.depth]⟩
theorem Gd.bool {n : Nat} {b : Bool} : Gd n (.bool b) := ⟨by simp [PyData.canLay0], by simp [PyData.depth]⟩
theorem Gd.str {n : Nat} {s : Str} (h : PyData.strOk s = true) : Gd n (.str s) := ⟨by simpa [PyData.canLay0] using h, by simp [PyData.depth]⟩
theorem canAll : ∀ {ds : List PyData}, (∀ d ∈ ds, d.canLay0 = true) → PyData.canLayAll0 ds = true
  | [], _ => by simp [PyData.canLayAll0]
  | d :: ds, h => by
    simp only [PyData.canLayAll0, Bool.and_eq_true]
    exact ⟨h d List.mem_cons_self, canAll fun e he => h e (List.mem_cons_of_mem _ he)⟩
theorem depthAll_le {n : Nat} : ∀ {ds : List PyData}, (∀ d ∈ ds, d.depth ≤ n) → PyData.depthAll ds ≤ n
  | [], _ => by simp [PyData.depthAll]
  | d :: ds, h => by
    simp only [PyData.depthAll]
    exact Nat.max_le.mpr ⟨h d List.mem_cons_self, depthAll_le fun e he => h e (List.mem_cons_of_mem _ he)⟩
theorem Gd.list {n : Nat} {ds : List PyData} (h : ∀ d ∈ ds, Gd n d) : Gd (n + 1) (.list ds) := by
  refine ⟨?_, ?_⟩
  · simp only [PyData.canLay0]
    exact canAll fun d hd => (h d hd).1
  · simp only [PyData.depth]
    have := depthAll_le fun d hd => (h d hd).2
    omega
theorem Gd.tuple {n : Nat} {ds : List PyData} (h : ∀ d ∈ ds, Gd n d) : Gd (n + 1) (.tuple ds) := by
  refine ⟨?_, ?_⟩
  · simp only [PyData.canLay0]
    exact canAll fun d hd => (h d hd).1
  · simp only [PyData.depth]
    have := depthAll_le fun d hd => (h d hd).2
    omega
theorem Gd.all_nil {n : Nat} : ∀ d ∈ ([] : List PyData), Gd n d := fun _ h => (nomatch h)
theorem Gd.all_cons {n : Nat} {d : PyData} {ds : List PyData} (h : Gd n d) (r : ∀ d ∈ ds, Gd n d) : ∀ e ∈ d :: ds, Gd n e := fun e he => by
  rcases List.mem_cons.mp he with rfl | he
  · exact h
  · exact r e he
theorem Gd.shaped {n : Nat} {d : PyData} (h : Gd n d) (e : n ≤ 64 := by decide) : SeqAt.shaped d = true := by
  unfold SeqAt.shaped
  rw [Bool.and_eq_true]
  exact ⟨h.1, decide_eq_true (Nat.le_trans h.2 e)⟩
theorem Gd.refl {n : Nat} {d : PyData} (h : Gd n d) : PyData.eqv d d = true := SeqAt.eqv_refl d h.1
theorem Gd.ilst {n : Nat} (ns : List Int) : Gd (n + 1) (ilst ns) := .list fun d hd => by
  obtain ⟨i, _, rfl⟩ := List.mem_map.mp hd
  exact .int
theorem wd_ok (b : Bool) : PyData.strOk (wd b) = true := by cases b <;> decide +kernel
theorem Gd.letter (l : Letter) : Gd 4 l.enc := by
  cases l with
  | change n c ahead => exact .tuple (.all_cons (.str (by decide +kernel)) (.all_cons .int (.all_cons .int (.all_cons (.str (wd_ok _)) (.all_cons .int (.all_cons .int .all_nil))))))
  | part n b rows =>
    refine .tuple (.all_cons (.str (by decide +kernel)) (.all_cons .int (.all_cons .int (.all_cons (.tuple fun d hd => ?_) .all_nil))))
    obtain ⟨r, _, rfl⟩ := List.mem_map.mp hd
    exact .tuple (.all_cons .int (.all_cons .int .all_nil))
  | beat n lasts =>
    refine .tuple (.all_cons (.str (by decide +kernel)) (.all_cons .int (.all_cons (.tuple fun d hd => ?_) .all_nil)))
    obtain ⟨r, _, rfl⟩ := List.mem_map.mp hd
    exact .int
theorem Gd.letters (ls : List Letter) : Gd 5 (.list (ls.map Letter.enc)) := .list fun d hd => by
  obtain ⟨l, _, rfl⟩ := List.mem_map.mp hd
  exact .letter l
theorem Gd.nil {n : Nat} : Gd (n + 1) (.list []) := .list .all_nil
theorem eqv_nil (ds : List PyData) : PyData.eqv (.list ds) (.list []) = ds.isEmpty := by
  cases ds <;> simp [PyData.eqv, PyData.eqvAll]
theorem eqv_ilst : ∀ {ns ms : List Int}, PyData.eqv (ilst ns) (ilst ms) = decide (ns = ms)
  | [], [] => by simp [ilst, PyData.eqv, PyData.eqvAll]
  | [], _ :: _ => by simp [ilst, PyData.eqv, PyData.eqvAll]
  | _ :: _, [] => by simp [ilst, PyData.eqv, PyData.eqvAll]
  | n :: ns, m :: ms => by
    have ih := eqv_ilst (ns := ns) (ms := ms)
    simp only [ilst, PyData.eqv] at ih
    simp only [ilst, List.map_cons, PyData.eqv, PyData.eqvAll, ih]
    by_cases h : n = m <;> simp [h]
theorem Dp.nil {K : PySem.W.Frag} {H : Hp} {a : Addr} (h : H a = some (.lst [])) : Dp K H (.ref a) (.list []) := .lst (SqL.of h) .nil
theorem cutV_to {xs : List V} {k : Nat} (h : k ≤ xs.length) : cutV xs none (some (k : Int)) = xs.take k := by
  unfold cutV
  rw [HT.sIx_none, HT.sIx_nat, Nat.min_eq_left h, List.drop_zero, Nat.sub_zero]
theorem cutV_from {xs : List V} {k : Nat} (h : k ≤ xs.length) : cutV xs (some (k : Int)) none = xs.drop k := by
  unfold cutV
  rw [HT.sIx_none, HT.sIx_nat, Nat.min_eq_left h, List.take_of_length_le (by simp)]
end Cu

namespace Cu
open PySem PySem.Spec PyProof.Rows L2
abbrev s_story : Stmt := (top 28)
theorem sc_story : FnScope ["_law_keys", "_law_changes_here", "_law_rows", "_law_letters", "_law_k", "_law_key", "_law_word", "_law_worth_here", "_law_worths", "_law_lasts", "_law_more"] ["_law_keys", "_law_changes_here"] (defScope s_story) := ⟨rfl, rfl, rfl, by decide +kernel, rfl, by decide +kernel, by decide +kernel⟩

def storyD (nk : Nat) (cs : List Ch) : PyData := .tuple [.list (rowsD nk cs), .list ((lets cs).map Letter.enc)]
def spStory (K : PySem.W.Frag) : Sp := fun vs H Q _ => vs.length = 2 ∧ ∃ (nk : Nat) (cs : List Ch) (v : V), vs = [.int nk, v] ∧ nk ≤ 8 ∧ cs.length ≤ 1000 ∧ (∀ c ∈ cs, c.key < nk) ∧ Rp K H (.list (cs.map Ch.enc)) v ∧
  ∀ (u : V) (H' : Hp), Grow H H' → Rp K H' (storyD nk cs) u → Q u H'
theorem rep0 (nk : Nat) : (List.replicate ((nk : Int).toNat) [V.int 0]).flatten = (List.replicate nk (0 : Int)).map V.int := by
  rw [Int.toNat_natCast, List.map_replicate]
  induction nk with
  | zero => rfl
  | succ n ih =>
    rw [List.replicate_succ, List.replicate_succ, List.flatten_cons, ih]
    rfl
/-- [0] * keys, from now on never changed -/
theorem rd_zeros {K : PySem.W.Frag} {σ : L2.St} {H : Hp} {Q : VK} {i nk : Nat} (h1 : σ[i]? = some (some (.int nk))) (hk : nk ≤ 8)
    (q : ∀ p H', Grow H H' → FzL K H' p ((List.replicate nk (0 : Int)).map V.int) → Q (.ref p) H') :
    tFz (tOp rRep (tLst (tCons (tC (.int 0)) tNil)) (tVar i)) σ H Q := by
  refine rd_fz ⟨(by show 1 ≤ sizeLine; decide), fun p1 hp1 => ⟨_, h1, p1, (nk : Int), _, rfl, rfl, upd_same, by omega, by omega, ?_, fun p2 hp2 => ⟨_, _, rfl, upd_same, fun o => ?_⟩⟩⟩
  · show 1 * (nk : Int).toNat ≤ sizeLine
    rw [Nat.one_mul, Int.toNat_natCast]
    exact Nat.le_trans hk (by decide)
  · rw [rep0]
    exact q _ _ ((Grow.new hp1).nfz hp2) FzL.frz
/-- xs[:k] + [z] + xs[k + 1:], from now on never changed -/
theorem rd_cut {K : PySem.W.Frag} {σ : L2.St} {H : Hp} {Q : VK} {i j : Nat} {te : TE} {a : Addr} {ns : List Int} {k : Nat} {z : Int} (h1 : σ[i]? = some (some (.ref a))) (h2 : σ[j]? = some (some (.int k))) (f : FzL K H a (ns.map V.int))
    (hk : k < ns.length) (hl : ns.length ≤ 1000) (he : ∀ (H1 : Hp) (Q1 : VK), Q1 (.int z) H1 → te σ H1 Q1) (q : ∀ p H', Grow H H' → FzL K H' p ((ns.set k z).map V.int) → Q (.ref p) H') :
    tFz (tOp rCat (tOp rCat (tSl (rSlL K) (tVar i) tNoPart (tPart (tVar j))) (tLst (tCons te tNil))) (tSl (rSlL K) (tVar i) (tPart (tOp (rI0 fun i j => .int (i + j)) (tVar j) (tC (.int 1)))) tNoPart)) σ H Q := by
  have hk' : k < (ns.map V.int).length := by rw [List.length_map]; exact hk
  have hl' : (ns.map V.int).length ≤ 1000 := by rw [List.length_map]; exact hl
  have z1 : 1000 ≤ sizeLine := by decide
  refine rd_fz ⟨_, h1, _, h2, _, rfl, a, _, rfl, f.sq, fun p1 hp1 => he _ _ ⟨(by show 1 ≤ sizeLine; decide), fun p2 hp2 => ?_⟩⟩
  have n12 : p1 ≠ p2 := ne_of_none upd_same hp2
  rw [cutV_to (Nat.le_of_lt hk')] at hp2 ⊢
  refine ⟨_, _, _, _, rfl, rfl, (by rw [upd_ne n12]; exact upd_same), upd_same, ?_, fun p3 hp3 => ?_⟩
  · rw [List.length_take, Nat.min_eq_left (Nat.le_of_lt hk')]
    exact Nat.le_trans (show k + 1 ≤ 1000 by omega) z1
  have g1 := (((Grow.refl H).old (o := .lst ((ns.map V.int).take k)) hp1).old (o := .lst [.int z]) hp2).old (o := .lst ((ns.map V.int).take k ++ [.int z])) hp3
  refine ⟨_, h1, _, h2, _, _, rfl, rfl, _, rfl, a, _, rfl, (f.mono g1.mono).sq, fun p4 hp4 => ?_⟩
  have e1 : ((k : Int) + 1) = ((k + 1 : Nat) : Int) := by omega
  rw [e1, cutV_from hk']
  have n34 : p3 ≠ p4 := ne_of_none upd_same hp4
  refine ⟨_, _, _, _, rfl, rfl, (by rw [upd_ne n34]; exact upd_same), upd_same, ?_, fun p5 hp5 => ⟨_, _, rfl, upd_same, fun o => ?_⟩⟩
  · rw [List.length_append, List.length_take, List.length_drop, Nat.min_eq_left (Nat.le_of_lt hk')]
    exact Nat.le_trans (show k + 1 + _ ≤ 1000 by omega) z1
  rw [set_cut _ _ _ hk', ← List.map_set]
  exact q _ _ ((g1.old hp4).nfz hp5) FzL.frz
section
variable {P : Program} {w : World} {K : PySem.W.Frag} {mg : Str → Option Value} {base : Heap}
theorem ok_story (F : Fd K mg "_law_story" s_story) (Bm : Blt mg) : Gf P w K mg base 1 "_law_story" ["_law_keys", "_law_changes_here"] (spStory K) := by
  refine F.ok sc_story (fun _ _ _ _ _ _ us hl => match us, hl with | [_, _], _ => rfl) len_of fun qual f cdv A outer s H vs Q E hr h => ?_
  obtain ⟨_, nk, cs, v, rfl, hk, hlen, hcs, hv, k⟩ := h
  obtain ⟨a, xc, rfl, fc, rc⟩ := hv.lst_inv
  have hxc : xc.length = cs.length := by rw [rc.length, List.length_map]
  refine ⟨_, (pss_cons (ps_set (i := 2) sc_story.nd rfl (Or.inl rfl) (pe_lst (pa_cons (pe_tup (pa_cons (pe_fz (pe_op op_rep (pe_lst (pa_cons pe_int pa_nil)) (pv 0))) (pa_cons (pe_fz (pe_op op_rep (pe_lst (pa_cons pe_int pa_nil)) (pv 0))) pa_nil))) pa_nil)))
      (pss_cons (ps_set (i := 3) sc_story.nd rfl (Or.inl rfl) (pe_lst pa_nil))
      (pss_cons (ps_for PassesOwn.never rfl (pi_range1 rfl Bm.range (pa_cons (pe_callB call_len_seq rfl Bm.len (by decide +kernel) (pa_cons (pv 1) pa_nil)) pa_nil)) (pg_name (i := 4) sc_story.nd rfl (Or.inl rfl))
        (pss_cons (ps_asg (pe_ix ix_list (pv 1) (pv 4) (fun _ _ => rfl)) (pg_tup rfl (pgs_cons (pg_name (i := 5) sc_story.nd rfl (Or.inl rfl)) (pgs_cons (pg_name (i := 6) sc_story.nd rfl (Or.inl rfl)) (pgs_cons (pg_name (i := 7) sc_story.nd rfl (Or.inl rfl)) pgs_nil)))))
        (pss_cons (ps_asg (pe_ix ix_list (pv 2) (pe_un un_neg pe_int) (fun _ _ => rfl)) (pg_tup rfl (pgs_cons (pg_name (i := 8) sc_story.nd rfl (Or.inl rfl)) (pgs_cons (pg_name (i := 9) sc_story.nd rfl (Or.inl rfl)) pgs_nil))))
        (pss_cons (ps_expr (pe_bm PySem.F.plainAttrs_list PySem.F.slot_list_append PySem.F.type_list_append mt_append (pv 3) (pa_cons (pe_tup (pa_cons pe_str (pa_cons (pe_op op_add (pv 4) pe_int) (pa_cons (pv 5) (pa_cons (pv 6) (pa_cons (pv 7) (pa_cons (pe_ix ix_list (pv 9) (pv 5) (fun _ _ => rfl)) pa_nil))))))) pa_nil)))
        (pss_cons (ps_set (i := 10) sc_story.nd rfl (Or.inl rfl) (pe_op op_add (pe_op op_mul (pe_ix ix_list (pv 8) (pv 5) (fun _ _ => rfl)) (pe_callTy call_int1 rfl Bm.int (by decide +kernel) (pa_cons (pe_cmpR op_eq (pv 6) pe_str (nomark _)) pa_nil))) (pv 7)))
        (pss_one (ps_expr (pe_bm PySem.F.plainAttrs_list PySem.F.slot_list_append PySem.F.type_list_append mt_append (pv 2) (pa_cons (pe_tup (pa_cons (pe_fz (pe_op op_cat (pe_op op_cat (pe_slice sl_list (pv 8) po_none (po_some (pv 5))) (pe_lst (pa_cons (pv 10) pa_nil))) (pe_slice sl_list (pv 8) (po_some (pe_op op_add (pv 5) pe_int)) po_none))) (pa_cons (pe_fz (pe_op op_cat (pe_op op_cat (pe_slice sl_list (pv 9) po_none (po_some (pv 5))) (pe_lst (pa_cons (pe_op op_add (pv 4) pe_int) pa_nil))) (pe_slice sl_list (pv 9) (po_some (pe_op op_add (pv 5) pe_int)) po_none))) pa_nil))) pa_nil)))))))))
      (pss_one (ps_ret (pe_tup (pa_cons (pe_fz (pv 2)) (pa_cons (pe_fz (pv 3)) pa_nil)))))))), ?_⟩
  refine rd_zeros (K := K) (by rfl) hk fun p1 H1 g1 f1 => ?_
  refine rd_zeros (K := K) (by rfl) hk fun p2 H2 g2 f2 => ?_
  refine ⟨(by show 2 ≤ sizeLine; decide), fun t ht => ⟨(by show 1 ≤ sizeLine; decide), fun r hr' => ⟨(by show 0 ≤ sizeLine; decide), fun l hl => ?_⟩⟩⟩
  have t1 : Tr H [] (upd (upd (upd H2 t (.tup [.ref p1, .ref p2])) r (.lst [.ref t])) l (.lst [])) [(l, .lst []), (r, .lst [.ref t])] := (((g1.trans g2).old ht).new hr' nl).new hl nl
  have mt : Mono H2 (upd (upd (upd H2 t (.tup [.ref p1, .ref p2])) r (.lst [.ref t])) l (.lst [])) := ((Mono.new ht).trans (Mono.new hr')).trans (Mono.new hl)
  refine ⟨_, rfl, a, xc, rfl, .inl (fc.mono t1.mono).sq, _, rfl, by omega, by omega, for_range (lo := 0) (n := (xc.length : Int).toNat) (fun i σ H3 => ∃ (xs ys : List V) (v4 v5 v6 v7 v8 v9 v10 : Option V),
    σ = [some (.int nk), some (.ref a), some (.ref r), some (.ref l), v4, v5, v6, v7, v8, v9, v10] ∧ Tr H [] H3 [(l, .lst ys), (r, .lst xs)] ∧ RpL K H3 (rowsD nk (cs.take i)) xs ∧ RpL K H3 ((lets (cs.take i)).map Letter.enc) ys)
    ⟨[.ref t], [], none, none, none, none, none, none, none, rfl, t1, ?_, ?_⟩ ?_ ?_⟩
  · refine .cons (.row (p := p1) (q := p2) (((Mono.new hr').trans (Mono.new hl)) _ _ upd_same trivial) ?_ ?_) .nil
    · show FzL K _ p1 ((wrow nk []).map V.int)
      rw [wrow_nil]
      exact f1.mono (g2.mono.trans mt)
    · show FzL K _ p2 ((lrow nk []).map V.int)
      rw [lrow_nil]
      exact f2.mono mt
  · exact .nil
  · rintro i σ H3 hi ⟨xs, ys, v4, v5, v6, v7, v8, v9, v10, rfl, t3, rx, ry⟩
    have hi' : i < cs.length := by omega
    obtain ⟨c, hc⟩ : ∃ c, cs[i]? = some c := ⟨cs[i], List.getElem?_eq_getElem hi'⟩
    have hck : c.key < nk := hcs c (List.mem_of_getElem? hc)
    obtain ⟨u, hu, ru⟩ := (rc.mono t3.mono).get (i := i) (d := c.enc) (by rw [List.getElem?_map, hc]; rfl)
    obtain ⟨ac, rfl, hac⟩ := ru.ch_inv
    obtain ⟨init, hinit⟩ := rowsD_last nk (cs.take i)
    rw [hinit] at rx
    obtain ⟨us, w1, rfl, rus, rw1⟩ := rx.snoc_inv
    obtain ⟨ar, pw, pl, rfl, har, fw, fl⟩ := rw1.row_inv
    have hh := t3.own
    have hitake : (cs.take i).length = i := by rw [List.length_take]; omega
    -- key, word, worth = changes[k]
    refine ⟨_, rfl, _, rfl, a, xc, _, _, rfl, rfl, (fc.mono t3.mono).sq, at_of (by omega) hu, ac, _, rfl, SqT.of hac, rfl, _, _, rfl, _, _, rfl, _, _, rfl, rfl, ?_⟩
    -- worths, lasts = rows[-1]
    refine ⟨_, rfl, _, rfl, r, _, _, _, rfl, rfl, SqL.of hh.tail.head, atI_last _ _, ar, _, rfl, SqT.of har, rfl, _, _, rfl, _, _, rfl, rfl, ?_⟩
    -- letters.append(..)
    have gl : (lrow nk (cs.take i))[c.key]? = some (lof (cs.take i) c.key : Int) := lrow_get hck
    have gw : (wrow nk (cs.take i))[c.key]? = some (wof (cs.take i) c.key) := wrow_get hck
    refine ⟨_, rfl, .inl ⟨rfl, _, SqL.of hh.head⟩, _, rfl, _, _, rfl, rfl, _, rfl, _, rfl, _, rfl, _, rfl, _, rfl, pl, _, _, _, rfl, rfl, fl.sq, at_of (j := c.key) rfl (by rw [List.getElem?_map, gl]; rfl), ⟨(by show 6 ≤ sizeLine; decide), fun tl htl => ?_⟩⟩
    have hy : ys.length = i := by rw [ry.length, List.length_map, lets_length, hitake]
    obtain ⟨s5, rtl⟩ := snoc_tup (K := K) (ds := [.str "change", .int (0 + i + 1), .int c.key, .str (wd c.set), .int c.worth, .int (lof (cs.take i) c.key)]) hh htl (.cons .str (.cons .int (.cons .int (.cons .str (.cons .int (.cons .int .nil))))))
    have e1 : ((0 : Int) + i + 1) = ((i + 1 : Nat) : Int) := by omega
    have ed : Letter.enc (.change (i + 1) c (lof (cs.take i) c.key)) = .tuple [.str "change", .int (0 + i + 1), .int c.key, .str (wd c.set), .int c.worth, .int (lof (cs.take i) c.key)] := by
      rw [e1]
      rfl
    rw [← ed] at rtl
    refine ⟨_, _, _, rfl, rfl, by rw [upd_ne (ne_of_none hh.head htl)]; exact hh.head, (by rw [hy]; exact small1000 (by omega)), ?_⟩
    have t5 := t3.trans s5
    have m5 := s5.mono
    -- more = worths[key] * int(word == 'add') + worth
    refine ⟨_, rfl, _, rfl, pw, _, _, _, rfl, rfl, (fw.mono m5).sq, at_of (j := c.key) rfl (by rw [List.getElem?_map, gw]; rfl), _, rfl, rfl, .inr ⟨_, rfl, _, _, rfl, rfl, .inr (by split <;> exact ⟨by decide, by decide⟩), _, rfl, _, _, rfl, rfl, ?_⟩⟩
    have emore : wof (cs.take i) c.key * (if decide (V.str (wd c.set) = V.str "add") = true then 1 else 0) + c.worth = wst c.key (wof (cs.take i) c.key) c := by
      unfold wst
      rw [if_pos rfl]
      cases c.set with
      | true =>
        rw [if_neg (by decide +kernel), if_pos rfl, Int.mul_zero]
      | false =>
        rw [if_pos (by decide +kernel), if_neg (by decide), Int.mul_one]
    -- rows.append(..)
    refine ⟨_, rfl, .inl ⟨rfl, _, SqL.of t5.own.tail.head⟩, ?_⟩
    refine rd_cut (z := wof (cs.take i) c.key * (if decide (V.str (wd c.set) = V.str "add") = true then 1 else 0) + c.worth) (by rfl) (by rfl) (fw.mono m5) (by rw [wrow_len]; exact hck) (by rw [wrow_len]; omega) (fun _ _ q => ⟨_, rfl, q⟩) fun p5 H5 g5 f5 => ?_
    rw [emore] at f5
    refine rd_cut (z := 0 + i + 1) (by rfl) (by rfl) (fl.mono (m5.trans g5.mono)) (by rw [lrow_len]; exact hck) (by rw [lrow_len]; omega) (fun _ _ q => ⟨_, rfl, _, _, rfl, rfl, q⟩) fun p6 H6 g6 f6 => ⟨(by show 2 ≤ sizeLine; decide), fun t7 ht7 => ?_⟩
    rw [e1] at f6
    have t6 := ((t5.grow g5).grow g6).swap2
    obtain ⟨s8, r8⟩ := snoc_tup (K := K) (ds := [ilst (wrow nk (cs.take i ++ [c])), ilst (lrow nk (cs.take i ++ [c]))]) (us := [.ref p5, .ref p6]) t6.own ht7 (.cons (.il (by rw [wrow_snoc]; exact f5.mono g6.mono)) (.cons (.il (by rw [lrow_snoc, hitake]; exact f6)) .nil))
    have hx : (us ++ [V.ref ar]).length = i + 1 := by
      have := (rus.snoc rw1).length
      rw [← hinit, rowsD_length, hitake] at this
      exact this
    refine ⟨_, _, _, rfl, rfl, by rw [upd_ne (ne_of_none t6.own.head ht7)]; exact t6.own.head, (by rw [hx]; exact small1000 (by omega)), ?_⟩
    have m8 := s8.mono
    refine ⟨us ++ [.ref ar] ++ [.ref t7], ys ++ [.ref tl], _, _, _, _, _, _, _, rfl, (t6.trans s8).swap2, ?_, ?_⟩
    · rw [take_snoc hc, rowsD_snoc, hinit]
      exact ((rus.snoc rw1).mono (((m5.trans g5.mono).trans g6.mono).trans m8)).snoc r8
    · rw [take_snoc hc, lets_snoc, hitake, List.map_append]
      exact ((ry.mono m5).snoc rtl).mono ((g5.mono.trans g6.mono).trans m8)
  · rintro σ H3 ⟨xs, ys, v4, v5, v6, v7, v8, v9, v10, rfl, t3, rx, ry⟩
    have e : cs.take ((xc.length : Int).toNat) = cs := List.take_of_length_le (by omega)
    rw [e] at rx ry
    have t3' := t3.swap2
    refine rd_fz ⟨_, rfl, _, _, rfl, t3'.own.head, fun o1 => ?_⟩
    have t4 := t3'.fz (ob := o1) .nil
    refine rd_fz ⟨_, rfl, _, _, rfl, t4.own.head, fun o2 => ?_⟩
    have t5 := t4.fz (ob := o2) .nil
    refine ⟨(by show 2 ≤ sizeLine; decide), fun t6 ht6 => ?_⟩
    refine k _ _ (t5.old ht6) (.tup upd_same (.cons (.lst ?_ (rx.mono ?_)) (.cons (.lst ?_ (ry.mono ?_)) .nil)))
    · exact (FzL.frz (xs := xs)).mono (t4.own.mono_put.trans (Mono.new ht6))
    · exact (t3'.own.mono_put.trans t4.own.mono_put).trans (Mono.new ht6)
    · exact (FzL.frz (xs := ys)).mono (Mono.new ht6)
    · exact (t3'.own.mono_put.trans t4.own.mono_put).trans (Mono.new ht6)
end
end Cu

namespace Cu
open PySem PySem.Spec PyProof.Rows L2
def partRows (cs : List Ch) (n b m : Nat) : List (Int × Nat) := (List.range m).map fun i => (wof (cs.take n) (b + i), lof (cs.take n) (b + i))
def partL (cs : List Ch) (n b e : Nat) : Letter := .part n b (partRows cs n b (e - b))
def beatL (nk : Nat) (cs : List Ch) (n : Nat) : Letter := .beat n ((List.range nk).map fun k => lof (cs.take n) k)
/-- a letter of a board of nk keys, with the story cs, as it was at some time -/
inductive IsLet (nk : Nat) (cs : List Ch) : Letter → Prop
  | change {n : Nat} {c : Ch} : cs[n]? = some c → IsLet nk cs (.change (n + 1) c (lof (cs.take n) c.key))
  | part {n b e : Nat} : n ≤ cs.length → b < e → e ≤ nk → IsLet nk cs (partL cs n b e)
  | beat {n : Nat} : n ≤ cs.length → IsLet nk cs (beatL nk cs n)
section
variable {K : PySem.W.Frag}
theorem Rp.str_of {H : Hp} {ls : List Letter} {v : V} (h : Rp K H (.list (ls.map Letter.enc)) v) : ∃ a xs, v = .ref a ∧ FzL K H a xs ∧ RpL K H (ls.map Letter.enc) xs ∧ xs.length = ls.length := by
  obtain ⟨a, xs, e, f, r⟩ := h.lst_inv
  exact ⟨a, xs, e, f, r, by rw [r.length, List.length_map]⟩
end
end Cu

namespace Cu
open PySem PySem.Spec PyProof.Rows L2
abbrev s_part : Stmt := (top 29)
theorem sc_part : FnScope ["_law_rows", "_law_number", "_law_begin", "_law_end", "_law_worths", "_law_lasts", "_law_key"] ["_law_rows", "_law_number", "_law_begin", "_law_end"] (defScope s_part) := ⟨rfl, rfl, rfl, by decide +kernel, rfl, by decide +kernel, by decide +kernel⟩

abbrev s_beat : Stmt := (top 30)
theorem sc_beat : FnScope ["_law_rows", "_law_number"] ["_law_rows", "_law_number"] (defScope s_beat) := ⟨rfl, rfl, rfl, by decide +kernel, rfl, by decide +kernel, by decide +kernel⟩

def spPart (K : PySem.W.Frag) : Sp := fun vs H Q _ => vs.length = 4 ∧ ∃ (nk n b e : Nat) (cs : List Ch) (v : V), vs = [v, .int n, .int b, .int e] ∧ nk ≤ 8 ∧ n ≤ cs.length ∧ b < e ∧ e ≤ nk ∧ Rp K H (.list (rowsD nk cs)) v ∧
  ∀ (u : V) (H' : Hp), Grow H H' → Rp K H' (partL cs n b e).enc u → Q u H'
def spBeat (K : PySem.W.Frag) : Sp := fun vs H Q _ => vs.length = 2 ∧ ∃ (nk n : Nat) (cs : List Ch) (v : V), vs = [v, .int n] ∧ nk ≤ 8 ∧ n ≤ cs.length ∧ Rp K H (.list (rowsD nk cs)) v ∧
  ∀ (u : V) (H' : Hp), Grow H H' → Rp K H' (beatL nk cs n).enc u → Q u H'
section
variable {P : Program} {w : World} {K : PySem.W.Frag} {mg : Str → Option Value} {base : Heap}
theorem ok_part (F : Fd K mg "_law_part" s_part) (Bm : Blt mg) : Gf P w K mg base 1 "_law_part" ["_law_rows", "_law_number", "_law_begin", "_law_end"] (spPart K) := by
  refine F.ok sc_part (fun _ _ _ _ _ _ us hl => match us, hl with | [_, _, _, _], _ => rfl) len_of fun qual f cdv A outer s H vs Q E hr h => ?_
  obtain ⟨_, nk, n, b, e, cs, v, rfl, hk, hn, hbe, hek, hv, k⟩ := h
  obtain ⟨a, xr, rfl, fr, rr⟩ := hv.lst_inv
  obtain ⟨u, hu, ru⟩ := rr.get (rowsD_get (nk := nk) hn)
  obtain ⟨ar, pw, pl, rfl, har, fw, fl⟩ := ru.row_inv
  refine ⟨_, (pss_cons (ps_asg (pe_ix ix_list (pv 0) (pv 1) (fun _ _ => rfl)) (pg_tup rfl (pgs_cons (pg_name (i := 4) sc_part.nd rfl (Or.inr rfl)) (pgs_cons (pg_name (i := 5) sc_part.nd rfl (Or.inr rfl)) pgs_nil))))
      (pss_one (ps_ret (pe_tup (pa_cons pe_str (pa_cons (pv 1) (pa_cons (pv 2) (pa_cons (pe_callTy call_tuple_of rfl Bm.tuple (by decide +kernel) (pa_cons (pe_lc (own := [("_law_key", 6)]) (g := (gName 6)) (tt := tYes) rfl sc_part.nd (pi_range2 rfl Bm.range (pa_cons (pv 2) (pa_cons (pv 3) pa_nil))) (blkOk_by (N := ["_law_rows", "_law_number", "_law_begin", "_law_end", "_law_worths", "_law_lasts", "_law_key"]) (sc := defScope s_part) (by decide +kernel)) (fun _ _ _ _ _ => (pg_name (i := 6) sc_part.nd rfl (Or.inl rfl))) (fun _ _ _ _ _ => pts_nil) (fun _ _ _ _ _ => (pe_tup (pa_cons (pe_ix (ix_listK K rfl) (pv 4) (pv 6) (fun _ _ => rfl)) (pa_cons (pe_ix (ix_listK K rfl) (pv 5) (pv 6) (fun _ _ => rfl)) pa_nil))))) pa_nil)) pa_nil)))))))), ?_⟩
  refine ⟨_, rfl, _, rfl, a, xr, _, _, rfl, rfl, fr.sq, at_of (j := n) rfl hu, ar, _, rfl, SqT.of har, rfl, _, _, rfl, _, _, rfl, rfl, ?_⟩
  refine ⟨_, rfl, _, rfl, _, rfl, _, rfl, _, _, rfl, ⟨by omega, by omega, by omega, by omega⟩, fun D hD => ?_⟩
  refine lc_range (lo := b) (n := ((e : Int) - b).toNat) (fun i H2 => ∃ xs, Tr H [] H2 [(D, .lst xs)] ∧ RpL K H2 ((partRows cs n b i).map fun r => .tuple [.int r.1, .int r.2]) xs)
    ⟨[], (Tr.refl H []).new hD nl, .nil⟩ ?_ ?_
  · rintro i H2 hi ⟨xs, t2, rx⟩
    have hbi : b + i < nk := by omega
    have e1 : ((b : Int) + i) = ((b + i : Nat) : Int) := by omega
    refine ⟨rfl, ?_⟩
    refine ⟨_, rfl, _, rfl, pw, _, _, _, rfl, rfl, (fw.mono t2.mono).sq, at_of (j := b + i) e1 (by rw [List.getElem?_map, wrow_get hbi]; rfl), _, rfl, _, rfl, pl, _, _, _, rfl, rfl, (fl.mono t2.mono).sq, at_of (j := b + i) e1 (by rw [List.getElem?_map, lrow_get hbi]; rfl), ⟨(by show 2 ≤ sizeLine; decide), fun t ht => ?_⟩⟩
    obtain ⟨s3, r3⟩ := snoc_tup (K := K) (ds := [.int (wof (cs.take n) (b + i)), .int (lof (cs.take n) (b + i))]) t2.own ht (.cons .int (.cons .int .nil))
    have hx : xs.length = i := by rw [rx.length, List.length_map, partRows, List.length_map, List.length_range]
    refine ⟨xs, by rw [upd_ne (ne_of_none t2.own.head ht)]; exact t2.own.head, by rw [hx]; exact small1000 (by omega), xs ++ [.ref t], t2.trans s3, ?_⟩
    unfold partRows
    rw [List.range_succ, List.map_append, List.map_append]
    exact (rx.mono s3.mono).snoc r3
  · rintro H2 ⟨xs, t2, rx⟩
    have e2 : ((e : Int) - b).toNat = e - b := by omega
    rw [e2] at rx
    refine ⟨D, xs, rfl, .inl ⟨SqL.of t2.own.head, fun l hl => ⟨(by show 4 ≤ sizeLine; decide), fun t ht => ?_⟩⟩⟩
    have g := ((t2.old (o := .tup xs) hl).old (o := .tup [.str "part", .int n, .int b, .ref l]) ht).tail
    refine k _ _ g (.tup upd_same (.cons .str (.cons .int (.cons .int (.cons (.tup ((Mono.new ht) _ _ upd_same trivial) (rx.mono ((Mono.new hl).trans (Mono.new ht)))) .nil)))))
theorem ok_beat (F : Fd K mg "_law_beat" s_beat) (Bm : Blt mg) : Gf P w K mg base 1 "_law_beat" ["_law_rows", "_law_number"] (spBeat K) := by
  refine F.ok sc_beat (fun _ _ _ _ _ _ us hl => match us, hl with | [_, _], _ => rfl) len_of fun qual f cdv A outer s H vs Q E hr h => ?_
  obtain ⟨_, nk, n, cs, v, rfl, hk, hn, hv, k⟩ := h
  obtain ⟨a, xr, rfl, fr, rr⟩ := hv.lst_inv
  obtain ⟨u, hu, ru⟩ := rr.get (rowsD_get (nk := nk) hn)
  obtain ⟨ar, pw, pl, rfl, har, fw, fl⟩ := ru.row_inv
  refine ⟨_, (pss_one (ps_ret (pe_tup (pa_cons pe_str (pa_cons (pv 1) (pa_cons (pe_callTy call_tuple_of rfl Bm.tuple (by decide +kernel) (pa_cons (pe_ix ix_tup (pe_ix ix_list (pv 0) (pv 1) (fun _ _ => rfl)) pe_int (fun _ _ => rfl)) pa_nil)) pa_nil)))))), ?_⟩
  refine ⟨_, rfl, _, rfl, _, rfl, a, xr, _, _, rfl, rfl, fr.sq, at_of (j := n) rfl hu, ar, _, _, _, rfl, rfl, SqT.of har, rfl, pl, _, rfl, .inl ⟨fl.sq, fun l hl => ⟨(by show 3 ≤ sizeLine; decide), fun t ht => ?_⟩⟩⟩
  refine k _ _ (((Grow.refl H).old hl).old ht) (.tup upd_same (.cons .str (.cons .int (.cons (.tup ((Mono.new ht) _ _ upd_same trivial) ?_) .nil))))
  have : ((List.range nk).map fun k => lof (cs.take n) k).map (fun k : Nat => PyData.int k) = (lrow nk (cs.take n)).map PyData.int := by
    rw [lrow, List.map_map, List.map_map]
    rfl
  rw [this]
  exact RpL.of_ints _
end
end Cu

namespace Cu
open PySem PySem.Spec PyProof.Rows L2
/-- list + list, lists that stay among them -/
def rCatZ (K : PySem.W.Frag) : R2 := fun x y H Q => ∃ l b xs zs, x = .ref l ∧ y = .ref b ∧ SqL K H l xs ∧ SqL K H b zs ∧ xs.length + zs.length ≤ sizeLine ∧ ∀ p, H p = none → Q (.ref p) (upd H p (.lst (xs ++ zs)))
theorem op_catZ {X : Cx} : OpR X (binaryOp .Add) (rCatZ X.K) := by
  intro pins s σ H x y v u Q I rx ry h
  obtain ⟨l, b, xs, zs, rfl, rfl, hl, hb, hz, q⟩ := h
  cases rx
  cases ry
  obtain ⟨i1, r1, p1, z1⟩ := I.list hl
  obtain ⟨i2, r2, p2, z2⟩ := I.list hb
  obtain ⟨⟨lc, ld, lq, ls⟩, ho1, e1, n1, e2⟩ := p1.isList
  obtain ⟨⟨bc, bd, bq, bs⟩, ho2, e3, n2, e4⟩ := p2.isList
  simp only at e1 e2 e3 e4
  subst e1 e2 e3 e4
  have hsz : i1.toArray.size + i2.toArray.size ≤ sizeLine := by
    rw [List.size_toArray, List.size_toArray, ← r1.length, ← r2.length]
    exact hz
  refine concat_meets ⟨_, ho1, rfl⟩ ⟨_, ho2, rfl⟩ noFill_list_add seq_list_add F.slot_list_add F.entry_list_add (F.args_list_add_2 _ _) (list_addW l b i1.toArray i2.toArray n1 n2 ld bd ls bs hsz) ⟨ho1, ho2, ?_⟩
  rw [show i1.toArray ++ i2.toArray = (i1 ++ i2).toArray by simp]
  exact ⟨.ref _, _, I.lnew (t' := s.toks) (r1.append r2) (by rw [List.length_append]; exact hz), rfl, q _ I.fresh⟩
end Cu

namespace Cu
open PySem PySem.Spec PyProof.Rows L2
/-- a op1 b op2 c op3 d, as a test -/
def tChain3 (r1 r2 r3 : R2) (ta tb tc td : TE) : TE := fun σ H Q => ta σ H fun x H1 => tb σ H1 fun y H2 => r1 x y H2 fun z H3 => ∃ k, z = .bl k ∧
  (if k = true then tc σ H3 fun u H4 => r2 y u H4 fun z H5 => ∃ k, z = .bl k ∧ (if k = true then td σ H5 fun v H6 => r3 u v H6 Q else Q (.bl false) H5) else Q (.bl false) H3)
section
variable {X : Cx} {a b c d : Expr} {ta tb tc td : TE} {pos : Pos}
theorem pt_chain3 {p1 p2 p3 : CmpOp} {r1 r2 r3 : R2} (o1 : OpR X (compareOp p1) r1) (o2 : OpR X (compareOp p2) r2) (o3 : OpR X (compareOp p3) r3) (ha : PE X a ta) (hb : PE X b tb) (hc : PE X c tc) (hd : PE X d td)
    (hm : lastMarks [p1, p2, p3] [b, c, d] = false := by with_unfolding_all rfl) : PT X (.Compare a [p1, p2, p3] [b, c, d] pos) (tTest (tChain3 r1 r2 r3 ta tb tc td)) := ⟨fun pins s σ H Q I h => by
  refine isTrue_chain (thn (ha.run pins s σ H _ I h) fun v1 s1 ⟨x1, H1, I1, q1, w1⟩ => test_link (thn (hb.run pins s1 σ H1 _ I1 w1) fun v2 s2 ⟨x2, H2, I2, q2, w2⟩ => thn (o1 pins s2 σ H2 x1 x2 v1 v2 _ I2 q1 q2 w2) fun v3 s3 ⟨x3, H3, I3, q3, k, ek, w3⟩ => ?_)) hm
  subst ek
  cases q3
  refine wpAny_truthy_bool ?_
  cases k with
  | false =>
    obtain ⟨_, e, w⟩ := w3
    cases e
    exact ite_ff ⟨H3, I3, w⟩
  | true =>
    refine ite_tt (test_link (thn (hc.run pins s3 σ H3 _ I3 w3) fun v4 s4 ⟨x4, H4, I4, q4, w4⟩ => thn (o2 pins s4 σ H4 x2 x4 v2 v4 _ I4 q2 q4 w4) fun v5 s5 ⟨x5, H5, I5, q5, k5, e5, w5⟩ => ?_))
    subst e5
    cases q5
    refine wpAny_truthy_bool ?_
    cases k5 with
    | false =>
      obtain ⟨_, e, w⟩ := w5
      cases e
      exact ite_ff ⟨H5, I5, w⟩
    | true =>
      refine ite_tt (test_last (thn (hd.run pins s5 σ H5 _ I5 w5) fun v6 s6 ⟨x6, H6, I6, q6, w6⟩ => thn (o3 pins s6 σ H6 x4 x6 v4 v6 _ I6 q4 q6 w6) fun v7 s7 ⟨x7, H7, I7, q7, k7, e7, w7⟩ => ?_))
      subst e7
      cases q7
      exact wpAny_truthy_bool ⟨H7, I7, w7⟩⟩
end
end Cu

namespace Cu
open PySem PySem.Spec PyProof.Rows L2
/-! a hearer, key by key -/
/-- a change put aside -/
structure As where
  n : Nat
  worth : Int
  ahead : Nat
structure HK where
  worth : Int
  since : Nat
  upto : Int
  aside : List As
def HK.ini : HK := ⟨0, 0, -1, []⟩
def HK.done (h : HK) (n : Nat) (set : Bool) (w : Int) : HK := { h with worth := if set then w else h.worth + w, since := n, upto := n }
def asN (as : List As) : List Int := as.map fun a => (a.n : Int)
def srt (ns : List Int) : List Int := ns.mergeSort fun a b => decide (a ≤ b)
def findA (as : List As) (n : Int) : Option As := as.find? fun a => decide ((a.n : Int) = n)
def dropA (as : List As) (n : Int) : List As := as.filter fun a => decide ((a.n : Int) ≠ n)
def putA (as : List As) (a : As) : List As := if (as.any fun x => decide (x.n = a.n)) = true then as.map fun x => if x.n = a.n then a else x else as ++ [a]
def HK.fstep (st : HK × List Int) (n : Int) : HK × List Int :=
  match findA st.1.aside n with
  | none => st
  | some a => if n ≤ st.1.upto then ({ st.1 with aside := dropA st.1.aside n }, st.2)
    else if (a.ahead : Int) ≤ st.1.upto then (({ st.1 with aside := dropA st.1.aside n } : HK).done a.n false a.worth, st.2 ++ [n])
    else st
def HK.free (h : HK) : HK × List Int := (srt (asN h.aside)).foldl HK.fstep (h, [])
def HK.chg (h : HK) (n : Nat) (c : Ch) (ahead : Nat) : HK × List Int :=
  if (n : Int) ≤ h.upto then (h, []) else if c.set = false ∧ h.upto < (ahead : Int) then ({ h with aside := putA h.aside ⟨n, c.worth, ahead⟩ }, [])
  else (((h.done n c.set c.worth).free).1, (n : Int) :: ((h.done n c.set c.worth).free).2)
def HK.row (h : HK) (n : Nat) (w : Int) (last : Nat) : HK × List Int := if h.upto < (n : Int) then ({ h with worth := w, since := last, upto := n } : HK).free else (h, [])
def HK.beat (h : HK) (n last : Nat) : HK := if (last : Int) ≤ h.upto ∧ h.upto < (n : Int) then { h with upto := n } else h
def hearK (k : Nat) (h : HK) : Letter → HK × List Int
  | .change n c ahead => if c.key = k then h.chg n c ahead else (h, [])
  | .part n b rows => if b ≤ k then (match rows[k - b]? with | some r => h.row n r.1 r.2 | none => (h, [])) else (h, [])
  | .beat n lasts => match lasts[k]? with | some l => (h.beat n l, []) | none => (h, [])
def hear (hs : List HK) (l : Letter) : List HK := hs.mapIdx fun k h => (hearK k h l).1
def heard (hs : List HK) (l : Letter) : List Int := (hs.mapIdx fun k h => (hearK k h l).2).flatten
theorem srt_eq {ns ms : List Int} (hp : ms.Perm ns) (hs : ms.Pairwise (· ≤ ·)) : ms = srt ns := by
  refine PySem.W.ksm_same (hp.trans (List.mergeSort_perm ns _).symm) hs ?_
  have := List.pairwise_mergeSort (le := fun a b : Int => decide (a ≤ b)) (fun a b c h1 h2 => by simp at h1 h2 ⊢; omega) (fun a b => by simp; omega) ns
  exact this.imp fun h => by simpa using h
theorem hear_len (hs : List HK) (l : Letter) : (hear hs l).length = hs.length := by simp [hear]

/-! where a hearer lies -/
structure HA where
  p : Addr
  dx : Addr
  l1 : Addr
  l2 : Addr
  l3 : Addr
  l4 : Addr
  ds : List Addr
def hF (A : HA) : List (Str × V) := [("worth", .ref A.l1), ("since", .ref A.l2), ("upto", .ref A.l3), ("aside", .ref A.l4)]
def hObj (C : Addr) (A : HA) (hs : List HK) (kv : List (List (Key × V))) : Lg :=
  (A.p, .ins C A.dx (hF A)) :: (A.l1, .lst (hs.map fun h => .int h.worth)) :: (A.l2, .lst (hs.map fun h => .int h.since)) :: (A.l3, .lst (hs.map fun h => .int h.upto)) ::
    (A.l4, .lst (A.ds.map V.ref)) :: List.zipWith (fun d k => (d, HO.dK k)) A.ds kv
def asL (k : Nat) (a : As) : Letter := .change a.n ⟨k, false, a.worth⟩ a.ahead
def AsOk (K : PySem.W.Frag) (H : Hp) (k : Nat) : List As → List (Key × V) → Prop
  | [], kvs => kvs = []
  | a :: as, kvs => ∃ v r, kvs = (Sum.inl (a.n : Int), v) :: r ∧ Rp K H (asL k a).enc v ∧ AsOk K H k as r
section
variable {K : PySem.W.Frag} {H H' : Hp} {k : Nat}
theorem AsOk.mono (m : Mono H H') : ∀ {as : List As} {kvs : List (Key × V)}, AsOk K H k as kvs → AsOk K H' k as kvs
  | [], _, h => h
  | a :: as, _, ⟨v, r, e, h1, h2⟩ => ⟨v, r, e, h1.mono m, AsOk.mono m h2⟩
theorem AsOk.keys : ∀ {as : List As} {kvs : List (Key × V)}, AsOk K H k as kvs → kvs.map (·.1) = (asN as).map Sum.inl
  | [], _, h => by
    cases h
    rfl
  | a :: as, _, ⟨v, r, e, h1, h2⟩ => by
    subst e
    show Sum.inl (a.n : Int) :: r.map (·.1) = _
    rw [h2.keys]
    rfl
theorem AsOk.len {as : List As} {kvs : List (Key × V)} (h : AsOk K H k as kvs) : kvs.length = as.length := by
  have := congrArg List.length h.keys
  simpa [asN] using this
theorem AsOk.find : ∀ {as : List As} {kvs : List (Key × V)} {n : Int} {a : As}, AsOk K H k as kvs → findA as n = some a → ∃ v, valV kvs (Sum.inl n) = some v ∧ Rp K H (asL k a).enc v
  | [], _, _, _, _, e => by cases e
  | b :: as, _, n, a, ⟨v, r, e, h1, h2⟩, f => by
    subst e
    by_cases hb : (b.n : Int) = n
    · have : findA (b :: as) n = some b := by simp [findA, hb]
      rw [this] at f
      cases f
      exact ⟨v, valV_pos (by rw [hb]), h1⟩
    · have : findA (b :: as) n = findA as n := by simp [findA, hb]
      rw [this] at f
      obtain ⟨u, hu, ru⟩ := h2.find f
      exact ⟨u, by rw [valV_neg (fun q => hb (Sum.inl.inj q))]; exact hu, ru⟩
theorem AsOk.drop : ∀ {as : List As} {kvs : List (Key × V)} (n : Int), AsOk K H k as kvs → AsOk K H k (dropA as n) (dropK kvs (Sum.inl n))
  | [], _, _, h => by
    cases h
    rfl
  | b :: as, _, n, ⟨v, r, e, h1, h2⟩ => by
    subst e
    have ih := AsOk.drop n h2
    by_cases hb : (b.n : Int) = n
    · have : dropA (b :: as) n = dropA as n := by simp [dropA, hb]
      rw [this, dropK_pos (by rw [hb])]
      exact ih
    · have : dropA (b :: as) n = b :: dropA as n := by simp [dropA, hb]
      rw [this, dropK_neg (fun q => hb (Sum.inl.inj q))]
      exact ⟨v, _, rfl, h1, ih⟩
theorem AsOk.any : ∀ {as : List As} {kvs : List (Key × V)} (n : Nat), AsOk K H k as kvs → (kvs.any fun kv => decide (kv.1 = Sum.inl (n : Int))) = as.any fun x => decide (x.n = n)
  | [], _, _, h => by
    cases h
    rfl
  | b :: as, _, n, ⟨v, r, e, h1, h2⟩ => by
    subst e
    rw [List.any_cons, List.any_cons, h2.any]
    congr 1
    by_cases hb : b.n = n <;> simp [hb]
    intro q
    exact hb (by omega)
theorem AsOk.map : ∀ {as : List As} {kvs : List (Key × V)} (a : As) (v : V), AsOk K H k as kvs → Rp K H (asL k a).enc v →
    AsOk K H k (as.map fun x => if x.n = a.n then a else x) (kvs.map fun kv => if kv.1 = Sum.inl (a.n : Int) then (kv.1, v) else kv)
  | [], _, _, _, h, _ => by
    cases h
    rfl
  | b :: as, _, a, v, ⟨u, r, e, h1, h2⟩, hv => by
    subst e
    have ih := AsOk.map a v h2 hv
    by_cases hb : b.n = a.n
    · simp only [List.map_cons, hb, if_pos]
      exact ⟨v, _, rfl, hv, ih⟩
    · have hb' : ¬ ((Sum.inl (b.n : Int) : Key) = Sum.inl (a.n : Int)) := fun q => hb (by have := Sum.inl.inj q; omega)
      simp only [List.map_cons, hb, if_neg hb', if_false]
      exact ⟨u, _, rfl, h1, ih⟩
theorem AsOk.append : ∀ {as bs : List As} {kvs kws : List (Key × V)}, AsOk K H k as kvs → AsOk K H k bs kws → AsOk K H k (as ++ bs) (kvs ++ kws)
  | [], _, _, _, h, g => by
    cases h
    exact g
  | _ :: _, _, _, _, ⟨v, r, e, h1, h2⟩, g => by
    subst e
    exact ⟨v, _, rfl, h1, h2.append g⟩
theorem AsOk.put {as : List As} {kvs : List (Key × V)} {a : As} {v : V} (h : AsOk K H k as kvs) (hv : Rp K H (asL k a).enc v) : AsOk K H k (putA as a) (putK kvs (Sum.inl (a.n : Int)) v) := by
  unfold putA putK
  rw [h.any]
  split
  · exact h.map a v hv
  · exact h.append ⟨v, [], rfl, hv, rfl⟩
end

/-- the objects at c are a hearer's that stands so -/
structure HR (K : PySem.W.Frag) (C : Addr) (A : HA) (hs : List HK) (H : Hp) (c : Lg) : Prop where
  ex : ∃ kv, c = hObj C A hs kv ∧ A.ds.length = hs.length ∧ kv.length = hs.length ∧ ∀ (k : Nat) (h : HK) (kvs : List (Key × V)), hs[k]? = some h → kv[k]? = some kvs → AsOk K H k h.aside kvs
theorem Tr.mid {H : Hp} {pre post : Lg} {a : Addr} {o o' : HO} (h : Has H (pre ++ (a, o) :: post)) (n : ¬ Imm o') : Tr H (pre ++ (a, o) :: post) (upd H a o') (pre ++ (a, o') :: post) := by
  refine ⟨Mono.put (h.mem (by simp)) (h.at_ (a, o) (by simp)).2, fun R hR => ?_⟩
  rw [List.append_assoc, List.cons_append] at hR ⊢
  exact ((hR.perm List.perm_middle).put n).perm List.perm_middle.symm
section
variable {K : PySem.W.Frag} {C : Addr} {A : HA} {hs : List HK} {H H' : Hp} {c : Lg} {k : Nat} {h : HK}
theorem HR.mono (r : HR K C A hs H c) (m : Mono H H') : HR K C A hs H' c := by
  obtain ⟨kv, e, l1, l2, q⟩ := r.ex
  exact ⟨kv, e, l1, l2, fun k h kvs e1 e2 => (q k h kvs e1 e2).mono m⟩
theorem HR.at_p (r : HR K C A hs H c) (h : Has H c) : H A.p = some (.ins C A.dx (hF A)) := by
  obtain ⟨kv, rfl, _⟩ := r.ex
  exact h.mem (by simp [hObj])
theorem HR.at1 (r : HR K C A hs H c) (h : Has H c) : H A.l1 = some (.lst (hs.map fun h => .int h.worth)) := by
  obtain ⟨kv, rfl, _⟩ := r.ex
  exact h.mem (by simp [hObj])
theorem HR.at2 (r : HR K C A hs H c) (h : Has H c) : H A.l2 = some (.lst (hs.map fun h => .int h.since)) := by
  obtain ⟨kv, rfl, _⟩ := r.ex
  exact h.mem (by simp [hObj])
theorem HR.at3 (r : HR K C A hs H c) (h : Has H c) : H A.l3 = some (.lst (hs.map fun h => .int h.upto)) := by
  obtain ⟨kv, rfl, _⟩ := r.ex
  exact h.mem (by simp [hObj])
theorem HR.at4 (r : HR K C A hs H c) (h : Has H c) : H A.l4 = some (.lst (A.ds.map V.ref)) := by
  obtain ⟨kv, rfl, _⟩ := r.ex
  exact h.mem (by simp [hObj])
theorem HR.dict (r : HR K C A hs H c) (hh : Has H c) (e : hs[k]? = some h) : ∃ d kvs, A.ds[k]? = some d ∧ H d = some (.dK kvs) ∧ AsOk K H k h.aside kvs := by
  obtain ⟨kv, rfl, l1, l2, q⟩ := r.ex
  have hk := (List.getElem?_eq_some_iff.mp e).1
  obtain ⟨d, hd⟩ : ∃ d, A.ds[k]? = some d := ⟨A.ds[k], List.getElem?_eq_getElem (by omega)⟩
  obtain ⟨kvs, hkv⟩ : ∃ kvs, kv[k]? = some kvs := ⟨kv[k], List.getElem?_eq_getElem (by omega)⟩
  refine ⟨d, kvs, hd, hh.mem ?_, q k h kvs e hkv⟩
  have : (List.zipWith (fun d k => (d, HO.dK k)) A.ds kv)[k]? = some (d, HO.dK kvs) := by rw [List.getElem?_zipWith, hd, hkv]
  have := List.mem_of_getElem? this
  simp [hObj, this]
theorem map_set_same {α β : Type} {f : α → β} {xs : List α} {k : Nat} {x y : α} (e : xs[k]? = some x) (h : f y = f x) : (xs.set k y).map f = xs.map f := by
  rw [List.map_set, h]
  apply List.ext_getElem?
  intro i
  by_cases hi : k = i
  · subst hi
    rw [List.getElem?_set_self (by rw [List.length_map]; exact (List.getElem?_eq_some_iff.mp e).1), List.getElem?_map, e]
    rfl
  · rw [List.getElem?_set_ne hi]
theorem hs_set {hs : List HK} {k : Nat} {h g : HK} (e : hs[k]? = some h) (ea : g.aside = h.aside) {kv : List (List (Key × V))} (q : ∀ (k : Nat) (h : HK) (kvs : List (Key × V)), hs[k]? = some h → kv[k]? = some kvs → AsOk K H k h.aside kvs) :
    ∀ (j : Nat) (h : HK) (kvs : List (Key × V)), (hs.set k g)[j]? = some h → kv[j]? = some kvs → AsOk K H j h.aside kvs := fun j h' kvs e1 e2 => by
  by_cases hj : k = j
  · subst hj
    rw [List.getElem?_set_self (List.getElem?_eq_some_iff.mp e).1] at e1
    cases e1
    rw [ea]
    exact q k h kvs e e2
  · rw [List.getElem?_set_ne hj] at e1
    exact q j h' kvs e1 e2
/-- the three lists, written at a key -/
theorem HR.set1 (r : HR K C A hs H c) (hh : Has H c) (e : hs[k]? = some h) (z : Int) :
    ∃ c', HR K C A (hs.set k { h with worth := z }) (upd H A.l1 (.lst ((hs.map fun h => V.int h.worth).set k (.int z)))) c' ∧ Tr H c (upd H A.l1 (.lst ((hs.map fun h => V.int h.worth).set k (.int z)))) c' := by
  obtain ⟨kv, rfl, l1, l2, q⟩ := r.ex
  have t := Tr.mid (pre := [(A.p, .ins C A.dx (hF A))]) (o' := .lst ((hs.map fun h => V.int h.worth).set k (.int z))) hh nl
  refine ⟨hObj C A (hs.set k { h with worth := z }) kv, ⟨kv, rfl, by rw [List.length_set]; exact l1, by rw [List.length_set]; exact l2, hs_set (g := { h with worth := z }) e rfl fun k h kvs e1 e2 => (q k h kvs e1 e2).mono t.mono⟩, ?_⟩
  unfold hObj
  rw [List.map_set, map_set_same (f := fun h : HK => V.int h.since) (y := { h with worth := z }) e rfl, map_set_same (f := fun h : HK => V.int h.upto) (y := { h with worth := z }) e rfl]
  exact t
theorem HR.set2 (r : HR K C A hs H c) (hh : Has H c) (e : hs[k]? = some h) (z : Nat) :
    ∃ c', HR K C A (hs.set k { h with since := z }) (upd H A.l2 (.lst ((hs.map fun h => V.int h.since).set k (.int z)))) c' ∧ Tr H c (upd H A.l2 (.lst ((hs.map fun h => V.int h.since).set k (.int z)))) c' := by
  obtain ⟨kv, rfl, l1, l2, q⟩ := r.ex
  have t := Tr.mid (pre := [(A.p, .ins C A.dx (hF A)), (A.l1, .lst (hs.map fun h => .int h.worth))]) (o' := .lst ((hs.map fun h => V.int h.since).set k (.int z))) hh nl
  refine ⟨hObj C A (hs.set k { h with since := z }) kv, ⟨kv, rfl, by rw [List.length_set]; exact l1, by rw [List.length_set]; exact l2, hs_set (g := { h with since := z }) e rfl fun k h kvs e1 e2 => (q k h kvs e1 e2).mono t.mono⟩, ?_⟩
  unfold hObj
  rw [List.map_set (f := fun h : HK => V.int h.since), map_set_same (f := fun h : HK => V.int h.worth) (y := { h with since := z }) e rfl, map_set_same (f := fun h : HK => V.int h.upto) (y := { h with since := z }) e rfl]
  exact t
theorem HR.set3 (r : HR K C A hs H c) (hh : Has H c) (e : hs[k]? = some h) (z : Int) :
    ∃ c', HR K C A (hs.set k { h with upto := z }) (upd H A.l3 (.lst ((hs.map fun h => V.int h.upto).set k (.int z)))) c' ∧ Tr H c (upd H A.l3 (.lst ((hs.map fun h => V.int h.upto).set k (.int z)))) c' := by
  obtain ⟨kv, rfl, l1, l2, q⟩ := r.ex
  have t := Tr.mid (pre := [(A.p, .ins C A.dx (hF A)), (A.l1, .lst (hs.map fun h => .int h.worth)), (A.l2, .lst (hs.map fun h => .int h.since))]) (o' := .lst ((hs.map fun h => V.int h.upto).set k (.int z))) hh nl
  refine ⟨hObj C A (hs.set k { h with upto := z }) kv, ⟨kv, rfl, by rw [List.length_set]; exact l1, by rw [List.length_set]; exact l2, hs_set (g := { h with upto := z }) e rfl fun k h kvs e1 e2 => (q k h kvs e1 e2).mono t.mono⟩, ?_⟩
  unfold hObj
  rw [List.map_set (f := fun h : HK => V.int h.upto), map_set_same (f := fun h : HK => V.int h.worth) (y := { h with upto := z }) e rfl, map_set_same (f := fun h : HK => V.int h.since) (y := { h with upto := z }) e rfl]
  exact t
theorem zip_split {ds : List Addr} {kv : List (List (Key × V))} {k : Nat} {d : Addr} {x : List (Key × V)} (h1 : ds[k]? = some d) (h2 : kv[k]? = some x) :
    ∃ pre post, List.zipWith (fun d k => (d, HO.dK k)) ds kv = pre ++ (d, HO.dK x) :: post ∧ ∀ y, List.zipWith (fun d k => (d, HO.dK k)) ds (kv.set k y) = pre ++ (d, HO.dK y) :: post := by
  induction k generalizing ds kv with
  | zero =>
    cases ds with
    | nil => simp at h1
    | cons d' ds =>
      cases kv with
      | nil => simp at h2
      | cons x' kv =>
        simp at h1 h2
        subst h1 h2
        exact ⟨[], _, rfl, fun y => rfl⟩
  | succ k ih =>
    cases ds with
    | nil => simp at h1
    | cons d' ds =>
      cases kv with
      | nil => simp at h2
      | cons x' kv =>
        obtain ⟨pre, post, e1, e2⟩ := ih (ds := ds) (kv := kv) (by simpa using h1) (by simpa using h2)
        refine ⟨(d', HO.dK x') :: pre, post, ?_, fun y => ?_⟩
        · rw [List.zipWith_cons_cons, e1]
          rfl
        · rw [List.set_cons_succ, List.zipWith_cons_cons, e2]
          rfl
/-- a key's dict, written -/
theorem HR.set4 (r : HR K C A hs H c) (hh : Has H c) (e : hs[k]? = some h) {d : Addr} (ed : A.ds[k]? = some d) {as : List As} {kvs : List (Key × V)} (ok : AsOk K H k as kvs) :
    ∃ c', HR K C A (hs.set k { h with aside := as }) (upd H d (.dK kvs)) c' ∧ Tr H c (upd H d (.dK kvs)) c' := by
  obtain ⟨kv, rfl, l1, l2, q⟩ := r.ex
  have hk := (List.getElem?_eq_some_iff.mp e).1
  obtain ⟨x, hx⟩ : ∃ x, kv[k]? = some x := ⟨kv[k], List.getElem?_eq_getElem (by omega)⟩
  obtain ⟨pre, post, e1, e2⟩ := zip_split ed hx
  have t : Tr H (hObj C A hs kv) (upd H d (.dK kvs)) (hObj C A (hs.set k { h with aside := as }) (kv.set k kvs)) := by
    unfold hObj at hh ⊢
    rw [map_set_same (f := fun h : HK => V.int h.worth) (y := { h with aside := as }) e rfl, map_set_same (f := fun h : HK => V.int h.since) (y := { h with aside := as }) e rfl, map_set_same (f := fun h : HK => V.int h.upto) (y := { h with aside := as }) e rfl, e1, e2]
    rw [e1] at hh
    have := Tr.mid (pre := (A.p, .ins C A.dx (hF A)) :: (A.l1, .lst (hs.map fun h => .int h.worth)) :: (A.l2, .lst (hs.map fun h => .int h.since)) :: (A.l3, .lst (hs.map fun h => .int h.upto)) :: (A.l4, .lst (A.ds.map V.ref)) :: pre) (o' := .dK kvs) hh ndk
    exact this
  refine ⟨_, ⟨kv.set k kvs, rfl, by rw [List.length_set]; exact l1, by rw [List.length_set, List.length_set]; exact l2, fun j h' kw e3 e4 => ?_⟩, t⟩
  by_cases hj : k = j
  · subst hj
    rw [List.getElem?_set_self hk] at e3
    rw [List.getElem?_set_self (by omega)] at e4
    cases e3
    cases e4
    exact ok.mono t.mono
  · rw [List.getElem?_set_ne hj] at e3 e4
    exact (q j h' kw e3 e4).mono t.mono
end
/-- what the walk asks of the class -/
structure CHr (K : PySem.W.Frag) (C : Addr) : Prop where
  cl : Cls K C
  n1 : NoAttr K C "worth"
  n2 : NoAttr K C "since"
  n3 : NoAttr K C "upto"
  n4 : NoAttr K C "aside"
theorem hF1 (A : HA) : (hF A).lookup ("worth" : Str) = some (.ref A.l1) := by rfl
theorem hF2 (A : HA) : (hF A).lookup ("since" : Str) = some (.ref A.l2) := by rfl
theorem hF3 (A : HA) : (hF A).lookup ("upto" : Str) = some (.ref A.l3) := by rfl
theorem hF4 (A : HA) : (hF A).lookup ("aside" : Str) = some (.ref A.l4) := by rfl
theorem ixN_nat {n k : Nat} (h : k < n) : ixN n (k : Int) = some k := by
  unfold ixN
  rw [if_pos (by omega), if_pos (by omega), Int.toNat_natCast]
end Cu

namespace Cu
open PySem PySem.Spec PyProof.Rows L2





theorem iteP {c A B : Prop} [Decidable c] (hc : c) (h : A) : if c then A else B := by
  rw [if_pos hc]
  exact h
theorem iteM {c A B : Prop} [Decidable c] (hc : ¬ c) (h : B) : if c then A else B := by
  rw [if_neg hc]
  exact h
theorem Has.one {H : Hp} {a : Addr} {o : HO} (h : H a = some o) (n : ¬ Imm o) : Has H [(a, o)] := ⟨by simp, fun p hp => by
  rw [List.mem_singleton] at hp
  subst hp
  exact ⟨h, n⟩⟩
theorem nins {C dx : Addr} {fs : List (Str × V)} : ¬ Imm (.ins C dx fs) := fun h => h
/-- a list of the same value, so many as a name says -/
theorem rd_const {σ : L2.St} {H : Hp} {Q : VK} {i j nk : Nat} {te : TE} {v : V} {vs : List Nat} (h1 : σ[i]? = some (some (.int nk))) (hk : nk ≤ 8) (hw : ∀ x, wipe ((wipe σ vs).set j (some x)) vs = wipe σ vs)
    (he : ∀ (σ1 : L2.St) (H1 : Hp) (Q1 : VK), Q1 v H1 → te σ1 H1 Q1) (q : ∀ p H', Tr H [] H' [(p, .lst (List.replicate nk v))] → Q (.ref p) H') :
    tI (tLc (iRng1 (tCons (tVar i) tNil)) (gName j) tYes te vs) σ H Q := by
  refine rd_I ⟨_, h1, _, rfl, by omega, by omega, fun D hD => ?_⟩
  refine lc_range (lo := 0) (n := (nk : Int).toNat) (fun m H2 => Tr H [] H2 [(D, .lst (List.replicate m v))]) ((Tr.refl H []).new hD nl) (fun m H2 hm t => ⟨hw _, he _ _ _ ⟨_, t.own.head, ?_, ?_⟩⟩) fun H2 t => q D H2 (by rw [Int.toNat_natCast] at t; exact t)
  · rw [List.length_replicate]
    exact small1000 (by omega)
  · rw [← List.replicate_succ']
    exact t.put .nil nl
def spHinit (K : PySem.W.Frag) (C : Addr) : Sp := fun vs H Q _ => vs.length = 2 ∧ ∃ (p dx : Addr) (nk : Nat), vs = [.ref p, .int nk] ∧ 0 < nk ∧ nk ≤ 8 ∧ H p = some (.ins C dx []) ∧
  ∀ (A : HA) (c : Lg) (H' : Hp), A.p = p → HR K C A (List.replicate nk HK.ini) H' c → Tr H [(p, .ins C dx [])] H' c → Q .non H'
def spKnown (K : PySem.W.Frag) (C : Addr) : Sp := fun vs H Q _ => vs.length = 1 ∧ ∃ (A : HA) (hs : List HK) (c : Lg), vs = [.ref A.p] ∧ HR K C A hs H c ∧ Has H c ∧ ∀ (r : Addr) (H' : Hp), Tr H [] H' [(r, .lst ((hs.map fun h => h.upto).map V.int))] → Q (.ref r) H'
def heldM (hs : List HK) : List Int := srt ((hs.map fun h => asN h.aside).flatten)
def spHeld (K : PySem.W.Frag) (C : Addr) : Sp := fun vs H Q _ => vs.length = 1 ∧ ∃ (A : HA) (hs : List HK) (c : Lg), vs = [.ref A.p] ∧ HR K C A hs H c ∧ Has H c ∧ (hs.map fun h => asN h.aside).flatten.length ≤ 1000 ∧
  ∀ (r : Addr) (H' : Hp), Tr H [] H' [(r, .lst ((heldM hs).map V.int))] → Q (.ref r) H'
def lookM (h : HK) : PyData := if h.upto < 0 then .none else .tuple [.int h.worth, .int h.since, .int h.upto]
def spLook (K : PySem.W.Frag) (C : Addr) : Sp := fun vs H Q _ => vs.length = 2 ∧ ∃ (A : HA) (hs : List HK) (c : Lg) (k : Nat) (h : HK), vs = [.ref A.p, .int k] ∧ HR K C A hs H c ∧ Has H c ∧ hs[k]? = some h ∧
  ∀ (v : V) (H' : Hp), Grow H H' → Rp K H' (lookM h) v → Q v H'
def minU (hs : List HK) : Int := ((hs.map fun h => h.upto).min?).getD 0
def maxS (hs : List HK) : Int := ((hs.map fun h => (h.since : Int)).max?).getD 0
def wholeM (hs : List HK) : Option (Int × List Int) := if minU hs < maxS hs then none else if 0 ≤ minU hs then some (minU hs, hs.map fun h => h.worth) else none
def spWhole (K : PySem.W.Frag) (C : Addr) : Sp := fun vs H Q _ => vs.length = 1 ∧ ∃ (A : HA) (hs : List HK) (c : Lg), vs = [.ref A.p] ∧ HR K C A hs H c ∧ Has H c ∧ 0 < hs.length ∧
  (wholeM hs = none → Q .non H) ∧
  (∀ n ws, wholeM hs = some (n, ws) → ∀ (r t : Addr) (H' : Hp), Tr H [] H' [(r, .lst (ws.map V.int))] → H' t = some (.tup [.int n, .ref r]) → Q (.ref t) H')
end Cu

namespace Cu
open PySem PySem.Spec PyProof.Rows L2
/-! the mirror's steps -/
theorem findA_drop {as : List As} {n m : Int} (h : n ≠ m) : findA (dropA as m) n = findA as n := by
  induction as with
  | nil => rfl
  | cons a as ih =>
    by_cases hm : (a.n : Int) = m
    · have e1 : dropA (a :: as) m = dropA as m := by simp [dropA, hm]
      have e2 : findA (a :: as) n = findA as n := by simp [findA, show ¬ (a.n : Int) = n by omega]
      rw [e1, e2, ih]
    · have e1 : dropA (a :: as) m = a :: dropA as m := by simp [dropA, hm]
      rw [e1]
      by_cases hn : (a.n : Int) = n
      · simp [findA, hn]
      · have e2 : ∀ bs, findA (a :: bs) n = findA bs n := fun bs => by simp [findA, hn]
        rw [e2, e2, ih]
theorem findA_some {as : List As} {n : Int} (h : n ∈ asN as) : ∃ a, findA as n = some a ∧ (a.n : Int) = n := by
  induction as with
  | nil => cases h
  | cons b as ih =>
    by_cases hb : (b.n : Int) = n
    · exact ⟨b, by simp [findA, hb], hb⟩
    · have h' : n ∈ asN as := by
        rcases List.mem_cons.mp (show n ∈ (b.n : Int) :: asN as from h) with e | e
        · exact absurd e.symm hb
        · exact e
      obtain ⟨a, ha, e⟩ := ih h'
      exact ⟨a, by simpa [findA, hb] using ha, e⟩
theorem findA_n {as : List As} {n : Int} {a : As} (h : findA as n = some a) : (a.n : Int) = n := by
  have := List.find?_some h
  simpa using this
theorem fstep_find {st : HK × List Int} {n m : Int} (h : n ≠ m) : findA (HK.fstep st m).1.aside n = findA st.1.aside n := by
  unfold HK.fstep
  cases hf : findA st.1.aside m with
  | none => rfl
  | some a =>
    dsimp only
    split
    · exact findA_drop h
    · split
      · exact findA_drop h
      · rfl
theorem fold_find {n : Int} : ∀ {l : List Int} {st : HK × List Int}, n ∉ l → findA (l.foldl HK.fstep st).1.aside n = findA st.1.aside n
  | [], _, _ => rfl
  | m :: l, st, h => by
    rw [List.foldl_cons, fold_find fun q => h (List.mem_cons_of_mem _ q), fstep_find fun q => h (by rw [q]; exact List.mem_cons_self)]
theorem fold_len {l : List Int} {st : HK × List Int} : (l.foldl HK.fstep st).2.length ≤ st.2.length + l.length := by
  induction l generalizing st with
  | nil => exact Nat.le_refl _
  | cons n l ih =>
    rw [List.foldl_cons]
    refine Nat.le_trans ih ?_
    have : (HK.fstep st n).2.length ≤ st.2.length + 1 := by
      unfold HK.fstep
      cases findA st.1.aside n with
      | none => exact Nat.le_succ _
      | some a =>
        dsimp only
        split
        · exact Nat.le_succ _
        · split
          · simp
          · exact Nat.le_succ _
    rw [List.length_cons]
    omega
theorem srt_perm (ns : List Int) : (srt ns).Perm ns := List.mergeSort_perm ns _
theorem wd_set (b : Bool) : decide (V.str (wd b) = V.str "set") = b := by cases b <;> decide +kernel
theorem wd_add (b : Bool) : decide (V.str (wd b) = V.str "add") = !b := by cases b <;> decide +kernel
/-- what a key's changes put aside must be, to be sorted -/
structure Wf (h : HK) : Prop where
  nd : (asN h.aside).Nodup
  few : h.aside.length < 64
def prt (hs : List HK) (l : Letter) (m : Nat) : List HK := hs.mapIdx fun k h => if k < m then (hearK k h l).1 else h
def fnd (hs : List HK) (l : Letter) (m : Nat) : List Int := ((hs.mapIdx fun k h => (hearK k h l).2).take m).flatten
theorem prt_get {hs : List HK} {l : Letter} {m k : Nat} {h : HK} (e : hs[k]? = some h) : (prt hs l m)[k]? = some (if k < m then (hearK k h l).1 else h) := by
  rw [prt, List.getElem?_mapIdx, e]
  rfl
theorem prt_len (hs : List HK) (l : Letter) (m : Nat) : (prt hs l m).length = hs.length := by simp [prt]
theorem prt_succ {hs : List HK} {l : Letter} {m : Nat} {h : HK} (e : hs[m]? = some h) : prt hs l (m + 1) = (prt hs l m).set m (hearK m h l).1 := by
  apply List.ext_getElem?
  intro k
  cases ek : hs[k]? with
  | none =>
    have hk := List.getElem?_eq_none_iff.mp ek
    rw [List.getElem?_eq_none (by rw [prt_len]; exact hk), List.getElem?_eq_none (by rw [List.length_set, prt_len]; exact hk)]
  | some g =>
    rw [prt_get ek]
    by_cases hk : m = k
    · subst hk
      rw [e] at ek
      cases ek
      rw [List.getElem?_set_self (by rw [prt_len]; exact (List.getElem?_eq_some_iff.mp e).1), if_pos (Nat.lt_succ_self _)]
    · rw [List.getElem?_set_ne hk, prt_get ek]
      congr 1
      by_cases h1 : k < m
      · rw [if_pos h1, if_pos (by omega)]
      · rw [if_neg h1, if_neg (by omega)]
theorem fnd_succ {hs : List HK} {l : Letter} {m : Nat} {h : HK} (e : hs[m]? = some h) : fnd hs l (m + 1) = fnd hs l m ++ (hearK m h l).2 := by
  unfold fnd
  rw [take_snoc (x := (hearK m h l).2) (by rw [List.getElem?_mapIdx, e]; rfl), List.flatten_append]
  simp
theorem prt_all {hs : List HK} {l : Letter} {m : Nat} (h : hs.length ≤ m) : prt hs l m = hear hs l := by
  apply List.ext_getElem?
  intro k
  cases ek : hs[k]? with
  | none =>
    have hk := List.getElem?_eq_none_iff.mp ek
    rw [List.getElem?_eq_none (by rw [prt_len]; exact hk), List.getElem?_eq_none (by rw [hear_len]; exact hk)]
  | some g =>
    have hk := (List.getElem?_eq_some_iff.mp ek).1
    rw [prt_get ek, if_pos (by omega), hear, List.getElem?_mapIdx, ek]
    rfl
theorem fnd_all {hs : List HK} {l : Letter} {m : Nat} (h : hs.length ≤ m) : fnd hs l m = heard hs l := by
  unfold fnd heard
  rw [List.take_of_length_le (by simpa using h)]
theorem flat_nil {xs : List (List Int)} (h : ∀ x ∈ xs, x = []) : xs.flatten = [] := by
  induction xs with
  | nil => rfl
  | cons x xs ih =>
    rw [List.flatten_cons, h x List.mem_cons_self, ih fun y hy => h y (List.mem_cons_of_mem _ hy)]
    rfl
/-- a letter that does nothing with the keys ahead of b, nothing with those from e on -/
theorem prt_low {hs : List HK} {l : Letter} {b : Nat} (h : ∀ k g, k < b → hearK k g l = (g, [])) : prt hs l b = hs ∧ fnd hs l b = [] := by
  constructor
  · apply List.ext_getElem?
    intro k
    cases ek : hs[k]? with
    | none => rw [List.getElem?_eq_none (by rw [prt_len]; exact List.getElem?_eq_none_iff.mp ek)]
    | some g =>
      rw [prt_get ek]
      split
      · rename_i hk
        rw [h k g hk]
      · rfl
  · unfold fnd
    have : ∀ x ∈ (hs.mapIdx fun k h => (hearK k h l).2).take b, x = [] := fun x hx => by
      obtain ⟨k, hk⟩ := List.getElem?_of_mem hx
      have hkb : k < b := by
        have := (List.getElem?_eq_some_iff.mp hk).1
        rw [List.length_take] at this
        omega
      rw [List.getElem?_take_of_lt hkb, List.getElem?_mapIdx] at hk
      cases ek : hs[k]? with
      | none =>
        rw [ek] at hk
        cases hk
      | some g =>
        rw [ek] at hk
        have e1 : (hearK k g l).2 = x := Option.some.inj hk
        rw [← e1, h k g hkb]
    exact flat_nil this
theorem prt_high {hs : List HK} {l : Letter} {e : Nat} (h : ∀ k g, e ≤ k → hearK k g l = (g, [])) : prt hs l e = hear hs l ∧ fnd hs l e = heard hs l := by
  constructor
  · apply List.ext_getElem?
    intro k
    cases ek : hs[k]? with
    | none => rw [List.getElem?_eq_none (by rw [prt_len]; exact List.getElem?_eq_none_iff.mp ek), List.getElem?_eq_none (by rw [hear_len]; exact List.getElem?_eq_none_iff.mp ek)]
    | some g =>
      rw [prt_get ek, hear, List.getElem?_mapIdx, ek]
      split
      · rfl
      · rename_i hk
        show some g = some (hearK k g l).1
        rw [h k g (by omega)]
  · unfold heard fnd
    have : ∀ x ∈ (hs.mapIdx fun k h => (hearK k h l).2).drop e, x = [] := fun x hx => by
      obtain ⟨k, hk⟩ := List.getElem?_of_mem hx
      rw [List.getElem?_drop, List.getElem?_mapIdx] at hk
      cases ek : hs[e + k]? with
      | none =>
        rw [ek] at hk
        cases hk
      | some g =>
        rw [ek] at hk
        have e1 : (hearK (e + k) g l).2 = x := Option.some.inj hk
        rw [← e1, h (e + k) g (by omega)]
    have h0 : ((hs.mapIdx fun k h => (hearK k h l).2).drop e).flatten = [] := flat_nil this
    conv => rhs; rw [← List.take_append_drop e (hs.mapIdx fun k h => (hearK k h l).2), List.flatten_append, h0, List.append_nil]
section
variable {K : PySem.W.Frag} {H : Hp}
theorem Rp.chg_inv {n ahead : Nat} {c : Ch} {v : V} (h : Rp K H (Letter.enc (.change n c ahead)) v) : ∃ a, v = .ref a ∧ H a = some (.tup [.str "change", .int n, .int c.key, .str (wd c.set), .int c.worth, .int ahead]) := by
  obtain ⟨a, xs, e, f, r⟩ := Rp.tup_inv h
  obtain ⟨v1, r1, e1, h1, r⟩ := r.cons_inv
  obtain ⟨v2, r2, e2, h2, r⟩ := r.cons_inv
  obtain ⟨v3, r3, e3, h3, r⟩ := r.cons_inv
  obtain ⟨v4, r4, e4, h4, r⟩ := r.cons_inv
  obtain ⟨v5, r5, e5, h5, r⟩ := r.cons_inv
  obtain ⟨v6, r6, e6, h6, r⟩ := r.cons_inv
  have := r.nil_inv
  subst this e6 e5 e4 e3 e2 e1
  have h1 := Rp.str_iff.mp h1
  have h2 := Rp.int_iff.mp h2
  have h3 := Rp.int_iff.mp h3
  have h4 := Rp.str_iff.mp h4
  have h5 := Rp.int_iff.mp h5
  have h6 := Rp.int_iff.mp h6
  subst h1 h2 h3 h4 h5 h6
  exact ⟨a, e, f⟩
theorem Rp.part_inv {n b : Nat} {rows : List (Int × Nat)} {v : V} (h : Rp K H (Letter.enc (.part n b rows)) v) :
    ∃ a t xs, v = .ref a ∧ H a = some (.tup [.str "part", .int n, .int b, .ref t]) ∧ H t = some (.tup xs) ∧ xs.length = rows.length ∧ ∀ (i : Nat) r, rows[i]? = some r → ∃ q, xs[i]? = some (.ref q) ∧ H q = some (.tup [.int r.1, .int r.2]) := by
  obtain ⟨a, xs, e, f, r⟩ := Rp.tup_inv h
  obtain ⟨v1, r1, e1, h1, r⟩ := r.cons_inv
  obtain ⟨v2, r2, e2, h2, r⟩ := r.cons_inv
  obtain ⟨v3, r3, e3, h3, r⟩ := r.cons_inv
  obtain ⟨v4, r4, e4, h4, r⟩ := r.cons_inv
  have := r.nil_inv
  subst this e4 e3 e2 e1
  have h1 := Rp.str_iff.mp h1
  have h2 := Rp.int_iff.mp h2
  have h3 := Rp.int_iff.mp h3
  obtain ⟨t, ys, e4, f4, r4⟩ := h4.tup_inv
  subst h1 h2 h3 e4
  refine ⟨a, t, ys, e, f, f4, by rw [r4.length, List.length_map], fun i r hr => ?_⟩
  obtain ⟨u, hu, ru⟩ := r4.get (i := i) (d := .tuple [.int r.1, .int r.2]) (by rw [List.getElem?_map, hr]; rfl)
  obtain ⟨q, zs, e5, f5, r5⟩ := ru.tup_inv
  obtain ⟨w1, z1, e6, g1, r5⟩ := r5.cons_inv
  obtain ⟨w2, z2, e7, g2, r5⟩ := r5.cons_inv
  have := r5.nil_inv
  subst this e7 e6 e5
  have g1 := Rp.int_iff.mp g1
  have g2 := Rp.int_iff.mp g2
  subst g1 g2
  exact ⟨q, hu, f5⟩
theorem Rp.beat_inv {n : Nat} {lasts : List Nat} {v : V} (h : Rp K H (Letter.enc (.beat n lasts)) v) :
    ∃ a t, v = .ref a ∧ H a = some (.tup [.str "beat", .int n, .ref t]) ∧ H t = some (.tup (lasts.map fun k : Nat => V.int k)) := by
  obtain ⟨a, xs, e, f, r⟩ := Rp.tup_inv h
  obtain ⟨v1, r1, e1, h1, r⟩ := r.cons_inv
  obtain ⟨v2, r2, e2, h2, r⟩ := r.cons_inv
  obtain ⟨v3, r3, e3, h3, r⟩ := r.cons_inv
  have := r.nil_inv
  subst this e3 e2 e1
  have h1 := Rp.str_iff.mp h1
  have h2 := Rp.int_iff.mp h2
  obtain ⟨t, ys, e4, f4, r4⟩ := h3.tup_inv
  subst h1 h2 e4
  have ey : ys = lasts.map fun k : Nat => V.int k := by
    have : (lasts.map fun k : Nat => PyData.int k) = (lasts.map fun k : Nat => (k : Int)).map PyData.int := by
      rw [List.map_map]
      rfl
    rw [this] at r4
    have := r4.ints
    rw [this, List.map_map]
    rfl
  subst ey
  exact ⟨a, t, e, f, f4⟩
end
def spDo (K : PySem.W.Frag) (C : Addr) : Sp := fun vs H Q _ => vs.length = 2 ∧ ∃ (A : HA) (hs : List HK) (c : Lg) (v : V) (n ahead : Nat) (ch : Ch) (h : HK), vs = [.ref A.p, v] ∧ HR K C A hs H c ∧ Has H c ∧ Rp K H (Letter.enc (.change n ch ahead)) v ∧ hs[ch.key]? = some h ∧
  ∀ (c' : Lg) (H' : Hp), HR K C A (hs.set ch.key (h.done n ch.set ch.worth)) H' c' → Tr H c H' c' → Q .non H'
def spFreed (K : PySem.W.Frag) (C : Addr) : Sp := fun vs H Q _ => vs.length = 2 ∧ ∃ (A : HA) (hs : List HK) (c : Lg) (k : Nat) (h : HK), vs = [.ref A.p, .int k] ∧ HR K C A hs H c ∧ Has H c ∧ hs[k]? = some h ∧ Wf h ∧
  ∀ (r : Addr) (c' : Lg) (H' : Hp), HR K C A (hs.set k h.free.1) H' c' → Tr H c H' ((r, .lst (h.free.2.map V.int)) :: c') → Q (.ref r) H'
def spChanged (K : PySem.W.Frag) (C : Addr) : Sp := fun vs H Q _ => vs.length = 2 ∧ ∃ (A : HA) (hs : List HK) (c : Lg) (v : V) (n ahead : Nat) (ch : Ch) (h : HK), vs = [.ref A.p, v] ∧ HR K C A hs H c ∧ Has H c ∧ Rp K H (Letter.enc (.change n ch ahead)) v ∧ hs[ch.key]? = some h ∧ Wf h ∧
  ∀ (r : Addr) (c' : Lg) (H' : Hp), HR K C A (hs.set ch.key (h.chg n ch ahead).1) H' c' → Tr H c H' ((r, .lst ((h.chg n ch ahead).2.map V.int)) :: c') → Q (.ref r) H'
def spHear (K : PySem.W.Frag) (C : Addr) : Sp := fun vs H Q _ => vs.length = 2 ∧ ∃ (A : HA) (hs : List HK) (c : Lg) (v : V) (l : Letter), vs = [.ref A.p, v] ∧ HR K C A hs H c ∧ Has H c ∧ Rp K H l.enc v ∧ hs.length ≤ 8 ∧ (∀ h ∈ hs, Wf h) ∧
  (match l with | .change _ ch _ => ch.key < hs.length | .part _ b rows => b + rows.length ≤ hs.length | .beat _ lasts => lasts.length = hs.length) ∧
  ∀ (r : Addr) (c' : Lg) (H' : Hp), HR K C A (hear hs l) H' c' → Tr H c H' ((r, .lst ((heard hs l).map V.int)) :: c') → Q (.ref r) H'
def spCopied (K : PySem.W.Frag) (C : Addr) : Sp := fun vs H Q _ => vs.length = 2 ∧ ∃ (A : HA) (hs : List HK) (c : Lg) (v : V) (n b : Nat) (rows : List (Int × Nat)), vs = [.ref A.p, v] ∧ HR K C A hs H c ∧ Has H c ∧ Rp K H (Letter.enc (.part n b rows)) v ∧ hs.length ≤ 8 ∧ (∀ h ∈ hs, Wf h) ∧ b + rows.length ≤ hs.length ∧
  ∀ (r : Addr) (c' : Lg) (H' : Hp), HR K C A (hear hs (.part n b rows)) H' c' → Tr H c H' ((r, .lst ((heard hs (.part n b rows)).map V.int)) :: c') → Q (.ref r) H'
theorem HR.len {K : PySem.W.Frag} {C : Addr} {A : HA} {hs : List HK} {H : Hp} {c : Lg} (r : HR K C A hs H c) : A.ds.length = hs.length := let ⟨_, _, h, _⟩ := r.ex; h
theorem set_back {hs : List HK} {k : Nat} {h : HK} (e : hs[k]? = some h) : hs.set k h = hs := by
  apply List.ext_getElem?
  intro i
  by_cases hi : k = i
  · subst hi
    rw [List.getElem?_set_self (List.getElem?_eq_some_iff.mp e).1, e]
  · rw [List.getElem?_set_ne hi]
theorem ndec {c : Prop} [Decidable c] (h : ¬ decide c = true) : ¬ c := fun q => h (decide_eq_true q)
theorem hFno {A : HA} {m : Str} (h : (hF A).lookup m = none := by rfl) : (hF A).lookup m = none := h
theorem ixN_of {n j : Nat} {z : Int} (e : z = (j : Int)) (h : j < n) : ixN n z = some j := by
  rw [e]
  exact ixN_nat h
theorem free_len {h : HK} (w : Wf h) : h.free.2.length ≤ 63 := by
  refine Nat.le_trans fold_len ?_
  rw [(srt_perm _).length_eq, asN, List.length_map]
  have := w.few
  show 0 + _ ≤ _
  omega
theorem hearK_len {k : Nat} {h : HK} {l : Letter} (w : Wf h) : (hearK k h l).2.length ≤ 64 := by
  cases l with
  | change n c ahead =>
    simp only [hearK]
    split
    · unfold HK.chg
      split
      · exact Nat.zero_le _
      · split
        · exact Nat.zero_le _
        · have := free_len (h := h.done n c.set c.worth) ⟨w.nd, w.few⟩
          show _ + 1 ≤ 64
          omega
    · exact Nat.zero_le _
  | part n b rows =>
    simp only [hearK]
    split
    · split
      · unfold HK.row
        split
        · rename_i r _ _
          have := free_len (h := { h with worth := r.1, since := r.2, upto := n }) ⟨w.nd, w.few⟩
          omega
        · exact Nat.zero_le _
      · exact Nat.zero_le _
    · exact Nat.zero_le _
  | beat n lasts =>
    simp only [hearK]
    split <;> exact Nat.zero_le _
theorem flat_len {b : Nat} : ∀ {xs : List (List Int)}, (∀ x ∈ xs, x.length ≤ b) → xs.flatten.length ≤ b * xs.length
  | [], _ => Nat.zero_le _
  | x :: xs, h => by
    have ih := flat_len (xs := xs) fun y hy => h y (List.mem_cons_of_mem _ hy)
    have h1 := h x List.mem_cons_self
    rw [List.flatten_cons, List.length_append, List.length_cons, Nat.mul_add]
    omega
theorem fnd_len {hs : List HK} {l : Letter} {m : Nat} (w : ∀ h ∈ hs, Wf h) (h8 : hs.length ≤ 8) : (fnd hs l m).length ≤ 512 := by
  unfold fnd
  refine Nat.le_trans (flat_len (b := 64) fun x hx => ?_) ?_
  · have hx := List.mem_of_mem_take hx
    obtain ⟨k, hk⟩ := List.getElem?_of_mem hx
    rw [List.getElem?_mapIdx] at hk
    cases ek : hs[k]? with
    | none =>
      rw [ek] at hk
      cases hk
    | some g =>
      rw [ek] at hk
      have e1 : (hearK k g l).2 = x := Option.some.inj hk
      rw [← e1]
      exact hearK_len (w g (List.mem_of_getElem? ek))
  · rw [List.length_take, List.length_mapIdx]
    have : min m hs.length ≤ 8 := Nat.le_trans (Nat.min_le_right _ _) h8
    omega
theorem hear_change {hs : List HK} {n ahead : Nat} {ch : Ch} {h : HK} (e : hs[ch.key]? = some h) : hear hs (.change n ch ahead) = hs.set ch.key (h.chg n ch ahead).1 ∧ heard hs (.change n ch ahead) = (h.chg n ch ahead).2 := by
  have ek : hearK ch.key h (.change n ch ahead) = h.chg n ch ahead := by simp only [hearK, if_pos]
  obtain ⟨a1, a2⟩ := prt_low (hs := hs) (l := .change n ch ahead) (b := ch.key) fun k g hk => by
    simp only [hearK]
    rw [if_neg (by omega)]
  obtain ⟨b1, b2⟩ := prt_high (hs := hs) (l := .change n ch ahead) (e := ch.key + 1) fun k g hk => by
    simp only [hearK]
    rw [if_neg (by omega)]
  rw [prt_succ e, a1, ek] at b1
  rw [fnd_succ e, a2, ek] at b2
  exact ⟨b1.symm, b2.symm⟩
end Cu

namespace Cu
open PySem PySem.Spec PyProof.Rows L2
/-! what a hearer holds is right -/
theorem lof_le (cs : List Ch) (k : Nat) : lof cs k ≤ cs.length := by
  induction cs using snoc_ind with
  | h0 => exact Nat.le_refl _
  | h1 cs c ih =>
    rw [lof_snoc, List.length_append, List.length_singleton]
    split <;> omega
theorem take_le_len {cs : List Ch} {j : Nat} : (cs.take j).length ≤ j := by
  rw [List.length_take]
  exact Nat.min_le_left _ _
theorem lof_take_le (cs : List Ch) (j k : Nat) : lof (cs.take j) k ≤ j := Nat.le_trans (lof_le _ _) take_le_len
/-- a step of a story -/
theorem lof_step {cs : List Ch} {j k : Nat} : lof (cs.take (j + 1)) k = lof (cs.take j) k ∨ (lof (cs.take (j + 1)) k = j + 1 ∧ ∃ c, cs[j]? = some c ∧ c.key = k) := by
  cases e : cs[j]? with
  | none =>
    left
    have hj := List.getElem?_eq_none_iff.mp e
    rw [List.take_of_length_le hj, List.take_of_length_le (Nat.le_succ_of_le hj)]
  | some c =>
    have hj := (List.getElem?_eq_some_iff.mp e).1
    rw [take_snoc e, lof_snoc]
    by_cases hk : c.key = k
    · right
      rw [if_pos hk, List.length_take, Nat.min_eq_left (Nat.le_of_lt hj)]
      exact ⟨rfl, c, rfl, hk⟩
    · left
      rw [if_neg hk]
theorem lof_mono {cs : List Ch} {k i j : Nat} (h : i ≤ j) : lof (cs.take i) k ≤ lof (cs.take j) k := by
  induction j with
  | zero =>
    have : i = 0 := by omega
    subst this
    exact Nat.le_refl _
  | succ j ih =>
    by_cases e : i = j + 1
    · subst e
      exact Nat.le_refl _
    · have := ih (by omega)
      rcases lof_step (cs := cs) (j := j) (k := k) with q | ⟨q, _⟩
      · omega
      · have := lof_take_le cs j k
        omega
theorem lof_ge {cs : List Ch} {k m j : Nat} {c : Ch} (e : cs[m]? = some c) (hk : c.key = k) (h : m < j) : m + 1 ≤ lof (cs.take j) k := by
  have h1 : lof (cs.take (m + 1)) k = m + 1 := by
    have hm := (List.getElem?_eq_some_iff.mp e).1
    rw [take_snoc e, lof_snoc, if_pos hk, List.length_take, Nat.min_eq_left (Nat.le_of_lt hm)]
  have := lof_mono (cs := cs) (k := k) (show m + 1 ≤ j by omega)
  omega
/-- nothing happens to a key behind its last change -/
theorem wof_const {cs : List Ch} {k i j : Nat} (h : i ≤ j) (hl : lof (cs.take j) k ≤ i) : wof (cs.take j) k = wof (cs.take i) k ∧ lof (cs.take j) k = lof (cs.take i) k := by
  induction j with
  | zero =>
    have : i = 0 := by omega
    subst this
    exact ⟨rfl, rfl⟩
  | succ j ih =>
    by_cases e : i = j + 1
    · subst e
      exact ⟨rfl, rfl⟩
    · have hij : i ≤ j := by omega
      cases ec : cs[j]? with
      | none =>
        have hj := List.getElem?_eq_none_iff.mp ec
        have e1 : cs.take (j + 1) = cs.take j := by rw [List.take_of_length_le hj, List.take_of_length_le (Nat.le_succ_of_le hj)]
        rw [e1] at hl ⊢
        exact ih hij hl
      | some c =>
        have hk : ¬ c.key = k := fun q => by
          have := lof_ge (j := j + 1) ec q (Nat.lt_succ_self _)
          omega
        rw [take_snoc ec, lof_snoc, if_neg hk] at hl
        rw [take_snoc ec, wof_snoc, lof_snoc, if_neg hk, wst, if_neg hk]
        exact ih hij hl
/-- the change of a key -/
theorem wof_at {cs : List Ch} {m : Nat} {c : Ch} (e : cs[m]? = some c) : wof (cs.take (m + 1)) c.key = (if c.set then 0 else wof (cs.take m) c.key) + c.worth ∧ lof (cs.take (m + 1)) c.key = m + 1 := by
  have hm := (List.getElem?_eq_some_iff.mp e).1
  rw [take_snoc e, wof_snoc, lof_snoc, if_pos rfl, wst, if_pos rfl, List.length_take, Nat.min_eq_left (Nat.le_of_lt hm)]
  exact ⟨rfl, rfl⟩
/-- put aside is a true adding change -/
def AsIn (cs : List Ch) (k : Nat) (a : As) : Prop := ∃ m, a.n = m + 1 ∧ cs[m]? = some ⟨k, false, a.worth⟩ ∧ a.ahead = lof (cs.take m) k
theorem AsIn.lt {cs : List Ch} {k : Nat} {a : As} (h : AsIn cs k a) : a.ahead < a.n := by
  obtain ⟨m, e1, e2, e3⟩ := h
  have := lof_take_le cs m k
  omega
theorem AsIn.le {cs : List Ch} {k : Nat} {a : As} (h : AsIn cs k a) : a.n ≤ cs.length ∧ 0 < a.n := by
  obtain ⟨m, e1, e2, e3⟩ := h
  have := (List.getElem?_eq_some_iff.mp e2).1
  omega
/-- of two changes of a key the later one is behind the other one -/
theorem AsIn.after {cs : List Ch} {k : Nat} {a b : As} (ha : AsIn cs k a) (hb : AsIn cs k b) (h : a.n < b.n) : a.n ≤ b.ahead := by
  obtain ⟨m, e1, e2, e3⟩ := ha
  obtain ⟨m', f1, f2, f3⟩ := hb
  have := lof_ge (k := k) (j := m') e2 rfl (by omega)
  omega
/-- what is held is right -/
structure KR (cs : List Ch) (k : Nat) (h : HK) : Prop where
  lo : -1 ≤ h.upto
  hi : h.upto ≤ cs.length
  ok : ∀ u : Nat, h.upto = u → h.worth = wof (cs.take u) k ∧ h.since = lof (cs.take u) k
  as : ∀ a ∈ h.aside, AsIn cs k a
  nd : (asN h.aside).Nodup
structure KI (cs : List Ch) (k : Nat) (h : HK) : Prop extends KR cs k h where
  ahead : ∀ a ∈ h.aside, h.upto < (a.ahead : Int)
theorem KI.ini (cs : List Ch) (k : Nat) : KI cs k HK.ini := ⟨⟨Int.le_refl _, by show (-1 : Int) ≤ _; omega, fun u e => by
  have e : (-1 : Int) = u := e
  omega, fun _ h => (nomatch h), List.nodup_nil⟩, fun _ h => (nomatch h)⟩
theorem dropA_mem {as : List As} {n : Int} {a : As} : a ∈ dropA as n ↔ a ∈ as ∧ (a.n : Int) ≠ n := by
  unfold dropA
  rw [List.mem_filter]
  simp
theorem asN_drop (as : List As) (n : Int) : (asN (dropA as n)).Sublist (asN as) := (List.filter_sublist (p := _)).map _
theorem findA_mem {as : List As} {n : Int} {a : As} (h : findA as n = some a) : a ∈ as := List.mem_of_find?_eq_some h
theorem asN_of {as : List As} {b : As} (hb : b ∈ as) : (b.n : Int) ∈ asN as := List.mem_map.mpr ⟨b, hb, rfl⟩
theorem nd_same {as : List As} (nd : (asN as).Nodup) {a b : As} (ha : a ∈ as) (hb : b ∈ as) (e : a.n = b.n) : a = b := by
  induction as with
  | nil => cases ha
  | cons x as ih =>
    obtain ⟨h1, h2⟩ := List.nodup_cons.mp (show ((x.n : Int) :: asN as).Nodup from nd)
    rcases List.mem_cons.mp ha with ha' | ha'
    · rcases List.mem_cons.mp hb with hb' | hb'
      · rw [ha', hb']
      · refine absurd ?_ h1
        have q := asN_of hb'
        rw [← e, ha'] at q
        exact q
    · rcases List.mem_cons.mp hb with hb' | hb'
      · refine absurd ?_ h1
        have q := asN_of ha'
        rw [e, hb'] at q
        exact q
      · exact ih h2 ha' hb'
/-- a number that stands for a change of the key -/
def IsN (cs : List Ch) (k : Nat) (n : Int) : Prop := ∃ m c, n = ((m + 1 : Nat) : Int) ∧ cs[m]? = some c ∧ c.key = k
theorem fold_inv {cs : List Ch} {k : Nat} {u0 : Int} : ∀ {L : List Int} {st : HK × List Int}, KR cs k st.1 → 0 ≤ st.1.upto → L.Pairwise (· < ·) → (∀ n ∈ L, n ∈ asN st.1.aside) →
    (∀ a ∈ st.1.aside, (a.n : Int) ∉ L → st.1.upto < (a.ahead : Int) ∧ ∀ n ∈ L, (a.n : Int) < n) →
    u0 ≤ st.1.upto → (∀ n ∈ st.2, u0 < n ∧ n ≤ st.1.upto ∧ IsN cs k n) → st.2.Pairwise (· < ·) →
    KI cs k (L.foldl HK.fstep st).1 ∧ st.1.upto ≤ (L.foldl HK.fstep st).1.upto ∧ (∀ n ∈ (L.foldl HK.fstep st).2, u0 < n ∧ n ≤ (L.foldl HK.fstep st).1.upto ∧ IsN cs k n) ∧ (L.foldl HK.fstep st).2.Pairwise (· < ·)
  | [], st, r, h0, _, _, hrem, hu, hf, hp => ⟨⟨r, fun a ha => (hrem a ha (List.not_mem_nil)).1⟩, Int.le_refl _, hf, hp⟩
  | n :: L, st, r, h0, hL, hin, hrem, hu, hf, hp => by
    rw [List.foldl_cons]
    obtain ⟨hL1, hL2⟩ := List.pairwise_cons.mp hL
    obtain ⟨a, ha, ean⟩ := findA_some (hin n List.mem_cons_self)
    have hnL : n ∉ L := fun q => Int.lt_irrefl _ (hL1 n q)
    have ham := findA_mem ha
    have hain := r.as a ham
    obtain ⟨u, hu'⟩ : ∃ u : Nat, st.1.upto = u := ⟨st.1.upto.toNat, by omega⟩
    have stay : ∀ m ∈ L, m ∈ asN (dropA st.1.aside n) := fun m hm => by
      obtain ⟨b, hb, eb⟩ := List.mem_map.mp (hin m (List.mem_cons_of_mem _ hm))
      refine List.mem_map.mpr ⟨b, dropA_mem.mpr ⟨hb, fun q => ?_⟩, eb⟩
      have := hL1 m hm
      omega
    by_cases h1 : n ≤ st.1.upto
    · have e1 : HK.fstep st n = ({ st.1 with aside := dropA st.1.aside n }, st.2) := by
        unfold HK.fstep
        rw [ha]
        dsimp only
        rw [if_pos h1]
      rw [e1]
      exact fold_inv (st := ({ st.1 with aside := dropA st.1.aside n }, st.2)) ⟨r.lo, r.hi, r.ok, fun b hb => r.as b (dropA_mem.mp hb).1, r.nd.sublist (asN_drop _ _)⟩ h0 hL2 stay
        (fun b hb hbL => by
          obtain ⟨hb1, hb2⟩ := dropA_mem.mp hb
          obtain ⟨q1, q2⟩ := hrem b hb1 fun q => by
            rcases List.mem_cons.mp q with q | q
            · exact hb2 q
            · exact hbL q
          exact ⟨q1, fun m hm => q2 m (List.mem_cons_of_mem _ hm)⟩) hu hf hp
    · by_cases h2 : (a.ahead : Int) ≤ st.1.upto
      · have e1 : HK.fstep st n = (({ st.1 with aside := dropA st.1.aside n } : HK).done a.n false a.worth, st.2 ++ [n]) := by
          unfold HK.fstep
          rw [ha]
          dsimp only
          rw [if_neg h1, if_pos h2]
        rw [e1]
        obtain ⟨m, em1, em2, em3⟩ := id hain
        have hle := hain.le
        have hright : st.1.worth + a.worth = wof (cs.take a.n) k ∧ a.n = lof (cs.take a.n) k := by
          obtain ⟨w1, w2⟩ := wof_at em2
          obtain ⟨w3, _⟩ := wof_const (cs := cs) (k := k) (i := u) (j := m) (by omega) (by omega)
          rw [em1]
          refine ⟨?_, w2.symm⟩
          rw [show wof (cs.take (m + 1)) k = (if false = true then (0 : Int) else wof (cs.take m) k) + a.worth from w1, if_neg (by decide), w3, (r.ok u hu').1]
        have hdone : KR cs k (({ st.1 with aside := dropA st.1.aside n } : HK).done a.n false a.worth) := by
          refine ⟨?_, ?_, fun v hv => ?_, fun b hb => r.as b (dropA_mem.mp hb).1, r.nd.sublist (asN_drop _ _)⟩
          · show (-1 : Int) ≤ (a.n : Int)
            omega
          · show (a.n : Int) ≤ cs.length
            omega
          · have hv : (a.n : Int) = v := hv
            have : a.n = v := by omega
            subst this
            exact ⟨hright.1, hright.2⟩
        have hrem' : ∀ b ∈ (({ st.1 with aside := dropA st.1.aside n } : HK).done a.n false a.worth).aside, (b.n : Int) ∉ L → (({ st.1 with aside := dropA st.1.aside n } : HK).done a.n false a.worth).upto < (b.ahead : Int) ∧ ∀ n ∈ L, (b.n : Int) < n := by
          intro b hb hbL
          obtain ⟨hb1, hb2⟩ := dropA_mem.mp hb
          obtain ⟨q1, q2⟩ := hrem b hb1 fun q => by
            rcases List.mem_cons.mp q with q | q
            · exact hb2 q
            · exact hbL q
          have q3 := q2 n List.mem_cons_self
          have := (r.as b hb1).after hain (by omega)
          have := (r.as b hb1).lt
          omega
        have hf' : ∀ x ∈ st.2 ++ [n], u0 < x ∧ x ≤ (({ st.1 with aside := dropA st.1.aside n } : HK).done a.n false a.worth).upto ∧ IsN cs k x := by
          intro x hx
          show u0 < x ∧ x ≤ (a.n : Int) ∧ IsN cs k x
          rcases List.mem_append.mp hx with hx | hx
          · obtain ⟨p1, p2, p3⟩ := hf x hx
            exact ⟨p1, by omega, p3⟩
          · rw [List.mem_singleton] at hx
            subst hx
            exact ⟨by omega, by omega, m, _, by omega, em2, rfl⟩
        have hp' : (st.2 ++ [n]).Pairwise (· < ·) := by
          refine List.pairwise_append.mpr ⟨hp, List.pairwise_singleton _ _, fun x hx y hy => ?_⟩
          rw [List.mem_singleton] at hy
          subst hy
          have := (hf x hx).2.1
          omega
        have q := fold_inv (u0 := u0) (L := L) (st := (({ st.1 with aside := dropA st.1.aside n } : HK).done a.n false a.worth, st.2 ++ [n])) hdone (by show (0 : Int) ≤ (a.n : Int); omega) hL2 stay hrem' (by show u0 ≤ (a.n : Int); omega) hf' hp'
        exact ⟨q.1, Int.le_trans (by show st.1.upto ≤ (a.n : Int); omega) q.2.1, q.2.2⟩
      · have e1 : HK.fstep st n = st := by
          unfold HK.fstep
          rw [ha]
          dsimp only
          rw [if_neg h1, if_neg h2]
        rw [e1]
        refine fold_inv r h0 hL2 (fun m hm => hin m (List.mem_cons_of_mem _ hm)) (fun b hb hbL => ?_) hu hf hp
        by_cases hbn : (b.n : Int) = n
        · have : b = a := nd_same r.nd hb ham (by omega)
          subst this
          exact ⟨by omega, fun m hm => by rw [hbn]; exact hL1 m hm⟩
        · obtain ⟨q1, q2⟩ := hrem b hb fun q => by
            rcases List.mem_cons.mp q with q | q
            · exact hbn q
            · exact hbL q
          exact ⟨q1, fun m hm => q2 m (List.mem_cons_of_mem _ hm)⟩
theorem srt_lt {ns : List Int} (nd : ns.Nodup) : (srt ns).Pairwise (· < ·) := by
  have h1 : (srt ns).Pairwise (· ≤ ·) := by
    have := List.pairwise_mergeSort (le := fun a b : Int => decide (a ≤ b)) (fun a b c h1 h2 => by simp at h1 h2 ⊢; omega) (fun a b => by simp; omega) ns
    exact this.imp fun h => by simpa using h
  have h2 : (srt ns).Nodup := (srt_perm ns).nodup_iff.mpr nd
  exact (List.pairwise_and_iff.mpr ⟨h1, h2⟩).imp fun ⟨a, b⟩ => by omega
/-- what is told as done by a letter, for a key: between what was known and what is known, changes of the key, rising -/
structure Told (cs : List Ch) (k : Nat) (u : Int) (r : HK × List Int) : Prop where
  inv : KI cs k r.1
  up : u ≤ r.1.upto
  num : ∀ n ∈ r.2, u < n ∧ n ≤ r.1.upto ∧ IsN cs k n
  rise : r.2.Pairwise (· < ·)
theorem free_told {cs : List Ch} {k : Nat} {h : HK} {u0 : Int} (r : KR cs k h) (h0 : 0 ≤ h.upto) (hu : u0 ≤ h.upto) : Told cs k u0 h.free ∧ h.upto ≤ h.free.1.upto := by
  obtain ⟨q1, q2, q3, q4⟩ := fold_inv (u0 := u0) (L := srt (asN h.aside)) (st := (h, [])) r h0 (srt_lt r.nd) (fun n hn => (srt_perm _).mem_iff.mp hn)
    (fun a ha q => absurd ((srt_perm _).mem_iff.mpr (List.mem_map.mpr ⟨a, ha, rfl⟩)) q) hu (fun _ q => (nomatch q)) List.Pairwise.nil
  exact ⟨⟨q1, Int.le_trans hu q2, q3, q4⟩, q2⟩
theorem Told.none {cs : List Ch} {k : Nat} {h : HK} (i : KI cs k h) : Told cs k h.upto (h, []) := ⟨i, Int.le_refl _, fun _ q => (nomatch q), List.Pairwise.nil⟩
theorem putA_mem {as : List As} {a b : As} (h : b ∈ putA as a) : b = a ∨ b ∈ as := by
  unfold putA at h
  split at h
  · obtain ⟨x, hx, e⟩ := List.mem_map.mp h
    split at e
    · exact .inl e.symm
    · exact .inr (e ▸ hx)
  · rcases List.mem_append.mp h with h | h
    · exact .inr h
    · exact .inl (List.mem_singleton.mp h)
theorem putA_nd {as : List As} {a : As} (nd : (asN as).Nodup) : (asN (putA as a)).Nodup := by
  unfold putA
  split
  · have : asN (as.map fun x => if x.n = a.n then a else x) = asN as := by
      unfold asN
      rw [List.map_map]
      apply List.map_congr_left
      intro x _
      show ((if x.n = a.n then a else x).n : Int) = x.n
      split
      · rename_i h
        rw [h]
      · rfl
    rw [this]
    exact nd
  · rename_i h
    unfold asN
    rw [List.map_append]
    refine List.nodup_append.mpr ⟨nd, by simp, fun x hx y hy q => h ?_⟩
    obtain ⟨b, hb, eb⟩ := List.mem_map.mp hx
    have hy : y = (a.n : Int) := by simpa using hy
    rw [List.any_eq_true]
    exact ⟨b, hb, by simp; omega⟩
/-- THE STEP -/
theorem hearK_told {nk : Nat} {cs : List Ch} {k : Nat} {h : HK} {l : Letter} (i : KI cs k h) (hk : k < nk) (hl : IsLet nk cs l) : Told cs k h.upto (hearK k h l) := by
  cases hl with
  | @change n c e =>
    simp only [hearK]
    split
    · rename_i hck
      subst hck
      unfold HK.chg
      split
      · exact .none i
      · rename_i h1
        split
        · rename_i h2
          have hin : AsIn cs c.key ⟨n + 1, c.worth, lof (cs.take n) c.key⟩ := by
            refine ⟨n, rfl, ?_, rfl⟩
            rw [e]
            cases c
            cases h2.1
            rfl
          refine ⟨⟨⟨i.lo, i.hi, i.ok, fun a ha => ?_, putA_nd i.nd⟩, fun a ha => ?_⟩, Int.le_refl _, fun _ q => (nomatch q), List.Pairwise.nil⟩
          · rcases putA_mem ha with q | q
            · rw [q]
              exact hin
            · exact i.as a q
          · rcases putA_mem ha with q | q
            · rw [q]
              exact h2.2
            · exact i.ahead a q
        · rename_i h2
          have hn := (List.getElem?_eq_some_iff.mp e).1
          have hr : KR cs c.key (h.done (n + 1) c.set c.worth) := by
            refine ⟨?_, ?_, fun u hu => ?_, i.as, i.nd⟩
            · show (-1 : Int) ≤ ((n + 1 : Nat) : Int)
              omega
            · show ((n + 1 : Nat) : Int) ≤ cs.length
              omega
            · have hu : ((n + 1 : Nat) : Int) = u := hu
              have : n + 1 = u := by omega
              subst this
              obtain ⟨w1, w2⟩ := wof_at e
              refine ⟨?_, w2.symm⟩
              show (if c.set then c.worth else h.worth + c.worth) = _
              rw [w1]
              cases hs : c.set with
              | true => simp
              | false =>
                have hua : (lof (cs.take n) c.key : Int) ≤ h.upto := by
                  by_cases q : h.upto < (lof (cs.take n) c.key : Int)
                  · exact absurd ⟨hs, q⟩ h2
                  · omega
                obtain ⟨v, hv⟩ : ∃ v : Nat, h.upto = v := ⟨h.upto.toNat, by omega⟩
                obtain ⟨w3, _⟩ := wof_const (cs := cs) (k := c.key) (i := v) (j := n) (by omega) (by omega)
                rw [(i.ok v hv).1, w3]
                simp
          obtain ⟨q1, q2⟩ := free_told (u0 := ((n + 1 : Nat) : Int)) hr (by show (0 : Int) ≤ ((n + 1 : Nat) : Int); omega) (Int.le_refl _)
          refine ⟨q1.inv, by show h.upto ≤ (h.done (n + 1) c.set c.worth).free.1.upto; have := q1.up; omega, fun x hx => ?_, List.pairwise_cons.mpr ⟨fun x hx => (q1.num x hx).1, q1.rise⟩⟩
          rcases List.mem_cons.mp hx with hx | hx
          · subst hx
            exact ⟨by omega, q1.up, n, c, rfl, e, rfl⟩
          · obtain ⟨p1, p2, p3⟩ := q1.num x hx
            exact ⟨by omega, p2, p3⟩
    · exact .none i
  | @part n b e hn hbe hek =>
    show Told cs k h.upto (hearK k h (.part n b (partRows cs n b (e - b))))
    simp only [hearK]
    split
    · rename_i hbk
      cases er : (partRows cs n b (e - b))[k - b]? with
      | none => exact .none i
      | some r =>
        have hr : r = (wof (cs.take n) k, lof (cs.take n) k) := by
          have hlt := (List.getElem?_eq_some_iff.mp er).1
          rw [partRows, List.length_map, List.length_range] at hlt
          rw [partRows, List.getElem?_map, List.getElem?_range hlt] at er
          have := Option.some.inj er
          rw [← this]
          show (wof (cs.take n) (b + (k - b)), lof (cs.take n) (b + (k - b))) = _
          rw [show b + (k - b) = k by omega]
        subst hr
        show Told cs k h.upto (h.row n (wof (cs.take n) k) (lof (cs.take n) k))
        unfold HK.row
        split
        · rename_i h1
          have hr : KR cs k { h with worth := wof (cs.take n) k, since := lof (cs.take n) k, upto := n } := by
            refine ⟨by show (-1 : Int) ≤ (n : Int); omega, by show (n : Int) ≤ cs.length; omega, fun u hu => ?_, i.as, i.nd⟩
            have hu : (n : Int) = u := hu
            have : n = u := by omega
            subst this
            exact ⟨rfl, rfl⟩
          exact (free_told hr (by show (0 : Int) ≤ (n : Int); omega) (by show h.upto ≤ (n : Int); omega)).1
        · exact .none i
    · exact .none i
  | @beat n hn =>
    show Told cs k h.upto (hearK k h (.beat n ((List.range nk).map fun k => lof (cs.take n) k)))
    simp only [hearK]
    rw [List.getElem?_map, List.getElem?_range hk]
    show Told cs k h.upto (h.beat n (lof (cs.take n) k), [])
    unfold HK.beat
    split
    · rename_i h1
      obtain ⟨v, hv⟩ : ∃ v : Nat, h.upto = v := ⟨h.upto.toNat, by omega⟩
      obtain ⟨w3, w4⟩ := wof_const (cs := cs) (k := k) (i := v) (j := n) (by omega) (by omega)
      refine ⟨⟨⟨by show (-1 : Int) ≤ (n : Int); omega, by show (n : Int) ≤ cs.length; omega, fun u hu => ?_, i.as, i.nd⟩, fun a ha => ?_⟩, by show h.upto ≤ (n : Int); omega, fun _ q => (nomatch q), List.Pairwise.nil⟩
      · have hu : (n : Int) = u := hu
        have : n = u := by omega
        subst this
        rw [w3, w4]
        exact i.ok v hv
      · show (n : Int) < (a.ahead : Int)
        have h2 := i.ahead a ha
        rcases Nat.lt_or_ge n a.ahead with q | q
        · omega
        · exfalso
          obtain ⟨m, e1, e2, e3⟩ := i.as a ha
          -- the change ahead is one of the key's, at n at the latest
          have h3 : lof (cs.take a.ahead) k = a.ahead := by
            have : lof (cs.take m) k ≤ a.ahead := by omega
            have := wof_const (cs := cs) (k := k) (i := a.ahead) (j := m) (by have := lof_take_le cs m k; omega) this
            omega
          have h4 := lof_mono (cs := cs) (k := k) q
          omega
    · exact .none i
end Cu

namespace Cu
open PySem PySem.Spec PyProof.Rows L2
/-! all keys of a hearer, by letters of one board -/
theorem IsN.key {cs : List Ch} {k k' : Nat} {n : Int} (h : IsN cs k n) (h' : IsN cs k' n) : k = k' := by
  obtain ⟨m, c, e1, e2, e3⟩ := h
  obtain ⟨m', c', e4, e5, e6⟩ := h'
  have : m = m' := by omega
  subst this
  rw [e2] at e5
  cases e5
  omega
theorem IsN.bd {cs : List Ch} {k : Nat} {n : Int} (h : IsN cs k n) : 0 < n ∧ n ≤ cs.length := by
  obtain ⟨m, c, e1, e2, _⟩ := h
  have := (List.getElem?_eq_some_iff.mp e2).1
  omega
theorem AsIn.isN {cs : List Ch} {k : Nat} {a : As} (h : AsIn cs k a) : IsN cs k a.n := by
  obtain ⟨m, e1, e2, _⟩ := h
  exact ⟨m, _, by omega, e2, rfl⟩
theorem rise_len : ∀ {l : List Int} {a b : Int}, l.Pairwise (· < ·) → (∀ n ∈ l, a < n ∧ n ≤ b) → (l.length : Int) ≤ if a ≤ b then b - a else 0
  | [], a, b, _, _ => by
    show (0 : Int) ≤ _
    split <;> omega
  | n :: l, a, b, h, q => by
    obtain ⟨h1, h2⟩ := List.pairwise_cons.mp h
    have q0 := q n List.mem_cons_self
    have ih := rise_len (a := n) (b := b) h2 fun m hm => ⟨h1 m hm, (q m (List.mem_cons_of_mem _ hm)).2⟩
    rw [if_pos (by omega)] at ih
    rw [if_pos (by omega), List.length_cons]
    omega
theorem nodup_len {l : List Int} {b : Nat} (nd : l.Nodup) (h : ∀ n ∈ l, 0 < n ∧ n ≤ b) : l.length ≤ b := by
  have h1 := rise_len (a := 0) (b := b) (srt_lt nd) fun n hn => h n ((srt_perm l).mem_iff.mp hn)
  rw [(srt_perm l).length_eq, if_pos (by omega)] at h1
  omega
theorem KI.few {cs : List Ch} {k : Nat} {h : HK} (i : KI cs k h) : h.aside.length ≤ cs.length := by
  have := nodup_len (b := cs.length) i.nd fun n hn => by
    obtain ⟨a, ha, e⟩ := List.mem_map.mp hn
    have := (i.as a ha).le
    omega
  rwa [asN, List.length_map] at this
theorem KI.wf {cs : List Ch} {k : Nat} {h : HK} (i : KI cs k h) (hl : cs.length < 64) : Wf h := ⟨i.nd, Nat.lt_of_le_of_lt i.few hl⟩
/-- a letter heard again -/
theorem putA_twice (as : List As) (a : As) : putA (putA as a) a = putA as a := by
  have hany : ((putA as a).any fun x => decide (x.n = a.n)) = true := by
    rw [List.any_eq_true]
    unfold putA
    split
    · rename_i h
      obtain ⟨x, hx, e⟩ := List.any_eq_true.mp h
      have e : x.n = a.n := of_decide_eq_true e
      exact ⟨a, List.mem_map.mpr ⟨x, hx, if_pos e⟩, by simp⟩
    · exact ⟨a, by simp, by simp⟩
  have e : putA (putA as a) a = (putA as a).map fun x => if x.n = a.n then a else x := by
    rw [putA, if_pos hany]
  rw [e]
  unfold putA
  split
  · rw [List.map_map]
    apply List.map_congr_left
    intro x _
    show (if (if x.n = a.n then a else x).n = a.n then a else (if x.n = a.n then a else x)) = if x.n = a.n then a else x
    by_cases h : x.n = a.n
    · rw [if_pos h, if_pos rfl]
    · rw [if_neg h, if_neg h]
  · rename_i h
    rw [List.map_append]
    have : as.map (fun x => if x.n = a.n then a else x) = as := by
      have : as.map (fun x => if x.n = a.n then a else x) = as.map id := by
        apply List.map_congr_left
        intro x hx
        rw [if_neg fun q => h (List.any_eq_true.mpr ⟨x, hx, by simpa using q⟩)]
        rfl
      rw [this, List.map_id]
    rw [this]
    simp
theorem fold_up {l : List Int} {st : HK × List Int} : st.1.upto ≤ (l.foldl HK.fstep st).1.upto := by
  induction l generalizing st with
  | nil => exact Int.le_refl _
  | cons n l ih =>
    rw [List.foldl_cons]
    refine Int.le_trans ?_ ih
    unfold HK.fstep
    cases h : findA st.1.aside n with
    | none => exact Int.le_refl _
    | some a =>
      dsimp only
      split
      · exact Int.le_refl _
      · split
        · have := findA_n h
          show st.1.upto ≤ (a.n : Int)
          omega
        · exact Int.le_refl _
theorem free_up (h : HK) : h.upto ≤ h.free.1.upto := fold_up (st := (h, []))
theorem hearK_twice (k : Nat) (h : HK) (l : Letter) : hearK k (hearK k h l).1 l = ((hearK k h l).1, []) := by
  cases l with
  | change n c ahead =>
    simp only [hearK]
    by_cases hk : c.key = k
    · simp only [if_pos hk]
      by_cases h1 : (n : Int) ≤ h.upto
      · have e : h.chg n c ahead = (h, []) := by rw [HK.chg, if_pos h1]
        rw [e]
        exact e
      · by_cases h2 : c.set = false ∧ h.upto < (ahead : Int)
        · have e : h.chg n c ahead = ({ h with aside := putA h.aside ⟨n, c.worth, ahead⟩ }, []) := by rw [HK.chg, if_neg h1, if_pos h2]
          rw [e]
          show HK.chg { h with aside := putA h.aside ⟨n, c.worth, ahead⟩ } n c ahead = _
          rw [HK.chg, if_neg h1, if_pos h2]
          simp only [putA_twice]
        · have e : h.chg n c ahead = (((h.done n c.set c.worth).free).1, (n : Int) :: ((h.done n c.set c.worth).free).2) := by rw [HK.chg, if_neg h1, if_neg h2]
          rw [e]
          have := free_up (h.done n c.set c.worth)
          have h3 : (n : Int) ≤ ((h.done n c.set c.worth).free).1.upto := this
          show HK.chg ((h.done n c.set c.worth).free).1 n c ahead = _
          rw [HK.chg, if_pos h3]
    · simp only [if_neg hk]
  | part n b rows =>
    simp only [hearK]
    by_cases hk : b ≤ k
    · simp only [if_pos hk]
      cases rows[k - b]? with
      | none => rfl
      | some r =>
        show HK.row (h.row n r.1 r.2).1 n r.1 r.2 = ((h.row n r.1 r.2).1, [])
        by_cases h1 : h.upto < (n : Int)
        · have e : h.row n r.1 r.2 = ({ h with worth := r.1, since := r.2, upto := n } : HK).free := by rw [HK.row, if_pos h1]
          rw [e]
          have h3 : (n : Int) ≤ (({ h with worth := r.1, since := r.2, upto := n } : HK).free).1.upto := free_up { h with worth := r.1, since := r.2, upto := n }
          rw [HK.row, if_neg (by omega)]
        · have e : h.row n r.1 r.2 = (h, []) := by rw [HK.row, if_neg h1]
          rw [e]
          exact e
    · simp only [if_neg hk]
  | beat n lasts =>
    simp only [hearK]
    cases lasts[k]? with
    | none => rfl
    | some x =>
      show ((h.beat n x).beat n x, ([] : List Int)) = (h.beat n x, [])
      congr 1
      unfold HK.beat
      by_cases h1 : (x : Int) ≤ h.upto ∧ h.upto < (n : Int)
      · rw [if_pos h1, if_neg fun q => absurd q.2 (Int.lt_irrefl _)]
      · rw [if_neg h1, if_neg h1]
theorem hear_get {hs : List HK} {l : Letter} {k : Nat} {h : HK} (e : hs[k]? = some h) : (hear hs l)[k]? = some (hearK k h l).1 := by
  rw [hear, List.getElem?_mapIdx, e]
  rfl
theorem hear_inv {hs : List HK} {l : Letter} {k : Nat} {h' : HK} (e : (hear hs l)[k]? = some h') : ∃ h, hs[k]? = some h ∧ h' = (hearK k h l).1 := by
  cases eh : hs[k]? with
  | none =>
    rw [hear, List.getElem?_mapIdx, eh] at e
    cases e
  | some h =>
    rw [hear_get eh] at e
    exact ⟨h, rfl, (Option.some.inj e).symm⟩
theorem heard_mem {hs : List HK} {l : Letter} {n : Int} (h : n ∈ heard hs l) : ∃ k g, hs[k]? = some g ∧ n ∈ (hearK k g l).2 := by
  obtain ⟨x, hx, hn⟩ := List.mem_flatten.mp h
  obtain ⟨k, hk⟩ := List.getElem?_of_mem hx
  rw [List.getElem?_mapIdx] at hk
  cases eh : hs[k]? with
  | none =>
    rw [eh] at hk
    cases hk
  | some g =>
    rw [eh] at hk
    have e : (hearK k g l).2 = x := Option.some.inj hk
    exact ⟨k, g, eh, by rw [e]; exact hn⟩
theorem hear_twice (hs : List HK) (l : Letter) : hear (hear hs l) l = hear hs l ∧ heard (hear hs l) l = [] := by
  constructor
  · apply List.ext_getElem?
    intro k
    cases eh : hs[k]? with
    | none => rw [List.getElem?_eq_none (by rw [hear_len, hear_len]; exact List.getElem?_eq_none_iff.mp eh), List.getElem?_eq_none (by rw [hear_len]; exact List.getElem?_eq_none_iff.mp eh)]
    | some h => rw [hear_get (hear_get eh), hear_get eh, hearK_twice]
  · refine List.eq_nil_iff_forall_not_mem.mpr fun n hn => ?_
    obtain ⟨k, g, e1, e2⟩ := heard_mem hn
    obtain ⟨h, e3, rfl⟩ := hear_inv e1
    rw [hearK_twice] at e2
    cases e2
/-- a hearer, all of whose keys are right -/
def AllI (nk : Nat) (cs : List Ch) (hs : List HK) : Prop := hs.length = nk ∧ ∀ k h, hs[k]? = some h → KI cs k h
theorem AllI.ini (nk : Nat) (cs : List Ch) : AllI nk cs (List.replicate nk HK.ini) := ⟨List.length_replicate, fun k h e => by
  rw [List.getElem?_replicate] at e
  split at e
  · cases e
    exact KI.ini cs k
  · cases e⟩
theorem AllI.told {nk : Nat} {cs : List Ch} {hs : List HK} {l : Letter} {k : Nat} {h : HK} (i : AllI nk cs hs) (hl : IsLet nk cs l) (e : hs[k]? = some h) : Told cs k h.upto (hearK k h l) :=
  hearK_told (i.2 k h e) (by have := (List.getElem?_eq_some_iff.mp e).1; have := i.1; omega) hl
theorem AllI.hear {nk : Nat} {cs : List Ch} {hs : List HK} {l : Letter} (i : AllI nk cs hs) (hl : IsLet nk cs l) : AllI nk cs (hear hs l) := ⟨by rw [hear_len]; exact i.1, fun k h e => by
  obtain ⟨g, eg, rfl⟩ := hear_inv e
  exact (i.told hl eg).inv⟩
theorem AllI.wf {nk : Nat} {cs : List Ch} {hs : List HK} (i : AllI nk cs hs) (hl : cs.length < 64) : ∀ h ∈ hs, Wf h := fun h hm => by
  obtain ⟨k, e⟩ := List.getElem?_of_mem hm
  exact (i.2 k h e).wf hl
theorem flat_le {α β : Type} {f : α → List β} {b : Nat} : ∀ {xs : List α}, (∀ x ∈ xs, (f x).length ≤ b) → ((xs.map f).flatten).length ≤ xs.length * b
  | [], _ => by simp
  | x :: xs, h => by
    have h1 := h x List.mem_cons_self
    have ih := flat_le (xs := xs) fun y hy => h y (List.mem_cons_of_mem _ hy)
    rw [List.map_cons, List.flatten_cons, List.length_append, List.length_cons, Nat.succ_mul]
    omega
theorem AllI.held {nk : Nat} {cs : List Ch} {hs : List HK} (i : AllI nk cs hs) (hl : cs.length ≤ 64) (hn : nk ≤ 8) : (hs.map fun h => asN h.aside).flatten.length ≤ 1000 := by
  have h1 := flat_le (f := fun h : HK => asN h.aside) (b := 64) (xs := hs) fun h hm => by
    obtain ⟨k, e⟩ := List.getElem?_of_mem hm
    have := (i.2 k h e).few
    rw [asN, List.length_map]
    omega
  have := i.1
  have h2 : hs.length * 64 ≤ 8 * 64 := Nat.mul_le_mul_right _ (by omega)
  omega
/-- the number's change is done -/
def Dn (cs : List Ch) (hs : List HK) (n : Int) : Prop := ∃ k h, hs[k]? = some h ∧ n ≤ h.upto ∧ IsN cs k n
section
variable {nk : Nat} {cs : List Ch} {hs : List HK} {l : Letter} {n : Int}
theorem Dn.hear (i : AllI nk cs hs) (hl : IsLet nk cs l) (h : Dn cs hs n) : Dn cs (hear hs l) n := by
  obtain ⟨k, g, e, h1, h2⟩ := h
  exact ⟨k, _, hear_get e, Int.le_trans h1 (i.told hl e).up, h2⟩
theorem heard_dn (i : AllI nk cs hs) (hl : IsLet nk cs l) (h : n ∈ heard hs l) : Dn cs (hear hs l) n ∧ ¬ Dn cs hs n := by
  obtain ⟨k, g, e1, e2⟩ := heard_mem h
  obtain ⟨q1, q2, q3⟩ := (i.told hl e1).num n e2
  refine ⟨⟨k, _, hear_get e1, q2, q3⟩, fun ⟨k', g', e3, q4, q5⟩ => ?_⟩
  have := q3.key q5
  subst this
  rw [e1] at e3
  cases e3
  omega
theorem flat_nodup : ∀ {xs : List (List Int)}, (∀ x ∈ xs, x.Nodup) → (∀ (i j : Nat) x y, xs[i]? = some x → xs[j]? = some y → i < j → ∀ n ∈ x, n ∉ y) → xs.flatten.Nodup
  | [], _, _ => by simp
  | x :: xs, h, q => by
    rw [List.flatten_cons]
    refine List.nodup_append.mpr ⟨h x List.mem_cons_self, flat_nodup (fun y hy => h y (List.mem_cons_of_mem _ hy)) fun i j y z ei ej hij => q (i + 1) (j + 1) y z (by simpa using ei) (by simpa using ej) (by omega), fun a ha b hb e => ?_⟩
    obtain ⟨y, hy, hby⟩ := List.mem_flatten.mp hb
    obtain ⟨j, hj⟩ := List.getElem?_of_mem hy
    subst e
    exact q 0 (j + 1) x y rfl (by simpa using hj) (by omega) a ha hby
theorem heard_nodup (i : AllI nk cs hs) (hl : IsLet nk cs l) : (heard hs l).Nodup := by
  have at_ : ∀ (j : Nat) (x : List Int), (hs.mapIdx fun k h => (hearK k h l).2)[j]? = some x → ∃ g, hs[j]? = some g ∧ x = (hearK j g l).2 := fun j x hx => by
    rw [List.getElem?_mapIdx] at hx
    cases eh : hs[j]? with
    | none =>
      rw [eh] at hx
      cases hx
    | some g =>
      rw [eh] at hx
      exact ⟨g, rfl, (Option.some.inj hx).symm⟩
  refine flat_nodup (fun x hx => ?_) fun a b x y ha hb hab m hm hm' => ?_
  · obtain ⟨j, hj⟩ := List.getElem?_of_mem hx
    obtain ⟨g, eg, rfl⟩ := at_ j x hj
    exact (i.told hl eg).rise.imp fun h => Int.ne_of_lt h
  · obtain ⟨g, eg, rfl⟩ := at_ a x ha
    obtain ⟨g', eg', rfl⟩ := at_ b y hb
    have := ((i.told hl eg).num m hm).2.2.key ((i.told hl eg').num m hm').2.2
    omega
theorem heard_bd (i : AllI nk cs hs) (hl : IsLet nk cs l) (h : n ∈ heard hs l) : 0 < n ∧ n ≤ cs.length := by
  obtain ⟨k, g, e1, e2⟩ := heard_mem h
  exact ((i.told hl e1).num n e2).2.2.bd
theorem heard_few (i : AllI nk cs hs) (hl : IsLet nk cs l) : (heard hs l).length ≤ cs.length := nodup_len (heard_nodup i hl) fun _ h => heard_bd i hl h
theorem held_not (i : AllI nk cs hs) (h : n ∈ heldM hs) : ¬ Dn cs hs n := by
  have h := (srt_perm _).mem_iff.mp h
  obtain ⟨x, hx, hn⟩ := List.mem_flatten.mp h
  obtain ⟨g, hg, rfl⟩ := List.mem_map.mp hx
  obtain ⟨k, ek⟩ := List.getElem?_of_mem hg
  obtain ⟨a, ha, rfl⟩ := List.mem_map.mp hn
  rintro ⟨k', g', e1, q1, q2⟩
  have hin := (i.2 k g ek).as a ha
  have := hin.isN.key q2
  subst this
  rw [ek] at e1
  cases e1
  have h1 := (i.2 k g ek).ahead a ha
  have h2 := hin.lt
  omega
theorem let_ok (hc : ∀ c ∈ cs, c.key < nk) (h : hs.length = nk) : IsLet nk cs l →
    match l with | .change _ ch _ => ch.key < hs.length | .part _ b rows => b + rows.length ≤ hs.length | .beat _ lasts => lasts.length = hs.length := by
  intro hl
  cases hl with
  | change e =>
    show _ < hs.length
    rw [h]
    exact hc _ (List.mem_of_getElem? e)
  | @part n b e hn hbe hek =>
    show b + (partRows cs n b (e - b)).length ≤ hs.length
    rw [partRows, List.length_map, List.length_range]
    omega
  | beat hn =>
    show ((List.range nk).map _).length = hs.length
    rw [List.length_map, List.length_range]
    omega
end
theorem set_srt {ns ms : List Int} (nd : ns.Nodup) (h1 : ms.Pairwise (· < ·)) (h2 : ∀ k : Int, k ∈ ms ↔ decide (k ∈ ns) = true) : ms = srt ns := by
  refine srt_eq ?_ (h1.imp fun h => Int.le_of_lt h)
  exact (List.perm_ext_iff_of_nodup (h1.imp fun h => Int.ne_of_lt h) nd).mpr fun a => by rw [h2 a, decide_eq_true_eq]
end Cu

namespace Cu
open PySem PySem.Spec PyProof.Rows L2
theorem mk_tr {H : Hp} {x dx C : Addr} (h1 : H x = none) (h2 : H dx = none) (n : dx ≠ x) : Tr H [] (upd (upd H dx (.own x)) x (.ins C dx [])) [(x, .ins C dx [])] :=
  ((Tr.refl H []).old h2).new (by rw [upd_ne n.symm]; exact h1) nins
theorem inV_ints (n : Int) (ns : List Int) : inV (.int n) (ns.map V.int) = decide (n ∈ ns) := by
  induction ns with
  | nil => rfl
  | cons m ns ih =>
    have e : inV (.int n) ((m :: ns).map V.int) = (eqV (.int m) (.int n) || inV (.int n) (ns.map V.int)) := rfl
    rw [e, ih]
    have e2 : eqV (.int m) (.int n) = decide (m = n) := by
      by_cases h : m = n <;> simp [eqV, h]
    rw [e2]
    by_cases h : m = n
    · simp [h]
    · simp [h, Ne.symm h]
theorem flat_ints (ns : List Int) : (ns.map V.int).all flatV = true := by
  rw [List.all_eq_true]
  intro x hx
  obtain ⟨n, _, rfl⟩ := List.mem_map.mp hx
  rfl
theorem int_get {ns : List Int} {i : Nat} {x : V} (h : (ns.map V.int)[i]? = some x) : ∃ n, ns[i]? = some n ∧ x = .int n := by
  rw [List.getElem?_map] at h
  cases e : ns[i]? with
  | none =>
    rw [e] at h
    cases h
  | some n =>
    rw [e] at h
    exact ⟨n, rfl, (Option.some.inj h).symm⟩
theorem Dp.ints' {K : PySem.W.Frag} {H : Hp} {a : Addr} {ns : List Int} (h : H a = some (.lst (ns.map V.int))) : Dp K H (.ref a) (ilst ns) := Dp.ints (SqL.of h)
theorem Dp.il {K : PySem.W.Frag} {H : Hp} {a : Addr} {ns : List Int} (h : SqL K H a (ns.map V.int)) : Dp K H (.ref a) (ilst ns) := Dp.ints h
def spLaw (K : PySem.W.Frag) : Sp := fun vs H Q _ => vs.length = 1 ∧ ∃ (c : Addr) (ns : List Int), vs = [.ref c] ∧ ns.length ≤ 63 ∧ FzL K H c (ns.map V.int) ∧ ∀ H', Q (.bl true) H'
end Cu

namespace Cu
open PySem PySem.Spec PyProof.Rows L2
/-! two hearers of a key, of which the one has heard more -/
def Closed (as : List As) (U : Int) : Prop := ∀ a ∈ as, (a.ahead : Int) ≤ U → (a.n : Int) ≤ U
theorem fstep_cases (st : HK × List Int) (n : Int) : HK.fstep st n = st ∨ (∃ a, findA st.1.aside n = some a ∧ n ≤ st.1.upto ∧ HK.fstep st n = ({ st.1 with aside := dropA st.1.aside n }, st.2)) ∨
    (∃ a, findA st.1.aside n = some a ∧ st.1.upto < n ∧ (a.ahead : Int) ≤ st.1.upto ∧ HK.fstep st n = (({ st.1 with aside := dropA st.1.aside n } : HK).done a.n false a.worth, st.2 ++ [n])) := by
  unfold HK.fstep
  cases h : findA st.1.aside n with
  | none => exact .inl rfl
  | some a =>
    dsimp only
    by_cases h1 : n ≤ st.1.upto
    · exact .inr (.inl ⟨a, rfl, h1, by rw [if_pos h1]⟩)
    · by_cases h2 : (a.ahead : Int) ≤ st.1.upto
      · exact .inr (.inr ⟨a, rfl, by omega, h2, by rw [if_neg h1, if_pos h2]⟩)
      · exact .inl (by rw [if_neg h1, if_neg h2])
theorem fold_le {U : Int} : ∀ {L : List Int} {st : HK × List Int}, st.1.upto ≤ U → Closed st.1.aside U → (L.foldl HK.fstep st).1.upto ≤ U
  | [], st, h, _ => h
  | n :: L, st, h, c => by
    rw [List.foldl_cons]
    rcases fstep_cases st n with e | ⟨a, ha, h1, e⟩ | ⟨a, ha, h1, h2, e⟩
    · rw [e]
      exact fold_le h c
    · rw [e]
      exact fold_le (st := ({ st.1 with aside := dropA st.1.aside n }, st.2)) h fun b hb => c b (dropA_mem.mp hb).1
    · rw [e]
      exact fold_le (st := (({ st.1 with aside := dropA st.1.aside n } : HK).done a.n false a.worth, st.2 ++ [n])) (c a (findA_mem ha) (Int.le_trans h2 h)) fun b hb => c b (dropA_mem.mp hb).1
theorem fold_keep : ∀ {L : List Int} {st : HK × List Int} {b : As}, b ∈ st.1.aside → b ∈ (L.foldl HK.fstep st).1.aside ∨ (b.n : Int) ≤ (L.foldl HK.fstep st).1.upto
  | [], _, _, h => .inl h
  | n :: L, st, b, h => by
    rw [List.foldl_cons]
    rcases fstep_cases st n with e | ⟨a, ha, h1, e⟩ | ⟨a, ha, h1, h2, e⟩
    · rw [e]
      exact fold_keep h
    · rw [e]
      by_cases hb : (b.n : Int) = n
      · exact .inr (Int.le_trans (by show (b.n : Int) ≤ st.1.upto; omega) fold_up)
      · exact fold_keep (st := ({ st.1 with aside := dropA st.1.aside n }, st.2)) (dropA_mem.mpr ⟨h, hb⟩)
    · rw [e]
      by_cases hb : (b.n : Int) = n
      · have := findA_n ha
        exact .inr (Int.le_trans (by show (b.n : Int) ≤ (a.n : Int); omega) fold_up)
      · exact fold_keep (st := (({ st.1 with aside := dropA st.1.aside n } : HK).done a.n false a.worth, st.2 ++ [n])) (dropA_mem.mpr ⟨h, hb⟩)
theorem fold_sub : ∀ {L : List Int} {st : HK × List Int} {b : As}, b ∈ (L.foldl HK.fstep st).1.aside → b ∈ st.1.aside
  | [], _, _, h => h
  | n :: L, st, b, h => by
    rw [List.foldl_cons] at h
    have h := fold_sub h
    rcases fstep_cases st n with e | ⟨a, ha, h1, e⟩ | ⟨a, ha, h1, h2, e⟩
    · rwa [e] at h
    · rw [e] at h
      exact (dropA_mem.mp h).1
    · rw [e] at h
      exact (dropA_mem.mp h).1
theorem putA_new (as : List As) (a : As) : a ∈ putA as a := by
  unfold putA
  split
  · rename_i h
    obtain ⟨x, hx, e⟩ := List.any_eq_true.mp h
    exact List.mem_map.mpr ⟨x, hx, if_pos (of_decide_eq_true e)⟩
  · simp
theorem putA_old {as : List As} {a b : As} (h : b ∈ as) : b ∈ putA as a ∨ b.n = a.n := by
  by_cases e : b.n = a.n
  · exact .inr e
  · left
    unfold putA
    split
    · exact List.mem_map.mpr ⟨b, h, if_neg e⟩
    · exact List.mem_append_left _ h
theorem AsIn.same {cs : List Ch} {k : Nat} {a b : As} (ha : AsIn cs k a) (hb : AsIn cs k b) (e : a.n = b.n) : a = b := by
  obtain ⟨m, e1, e2, e3⟩ := ha
  obtain ⟨m', e4, e5, e6⟩ := hb
  have : m = m' := by omega
  subst this
  rw [e2] at e5
  cases a
  cases b
  simp only at e e3 e6 e5
  cases e5
  simp_all
structure Rel (h1 h2 : HK) : Prop where
  up : h2.upto ≤ h1.upto
  as : ∀ a ∈ h2.aside, a ∈ h1.aside ∨ (a.n : Int) ≤ h1.upto
theorem Rel.refl (h : HK) : Rel h h := ⟨Int.le_refl _, fun _ h => .inl h⟩
section
variable {nk : Nat} {cs : List Ch} {k : Nat} {h h1 h2 : HK} {l : Letter}
theorem hearK_keep (i : KI cs k h) (hl : IsLet nk cs l) {b : As} (hb : b ∈ h.aside) : b ∈ (hearK k h l).1.aside ∨ (b.n : Int) ≤ (hearK k h l).1.upto := by
  cases hl with
  | @change n c e =>
    simp only [hearK]
    split
    · rename_i hck
      subst hck
      unfold HK.chg
      split
      · exact .inl hb
      · split
        · rename_i h1 h2
          rcases putA_old (a := ⟨n + 1, c.worth, lof (cs.take n) c.key⟩) hb with q | q
          · exact .inl q
          · have hin : AsIn cs c.key ⟨n + 1, c.worth, lof (cs.take n) c.key⟩ := by
              refine ⟨n, rfl, ?_, rfl⟩
              rw [e]
              cases c
              cases h2.1
              rfl
            rw [(i.as b hb).same hin q]
            exact .inl (putA_new _ _)
        · exact fold_keep (st := (h.done (n + 1) c.set c.worth, [])) hb
    · exact .inl hb
  | @part n b e hn hbe hek =>
    unfold partL
    simp only [hearK]
    split
    · split
      · unfold HK.row
        split
        · rename_i r _ _
          exact fold_keep (st := ({ h with worth := r.1, since := r.2, upto := n }, [])) hb
        · exact .inl hb
      · exact .inl hb
    · exact .inl hb
  | @beat n hn =>
    unfold beatL
    simp only [hearK]
    split
    · unfold HK.beat
      split
      · exact .inl hb
      · exact .inl hb
    · exact .inl hb
theorem Rel.lost (i : KI cs k h1) (hk : k < nk) (hl : IsLet nk cs l) (r : Rel h1 h2) : Rel (hearK k h1 l).1 h2 := by
  have up := (hearK_told i hk hl).up
  refine ⟨Int.le_trans r.up up, fun a ha => ?_⟩
  rcases r.as a ha with q | q
  · exact hearK_keep i hl q
  · exact .inr (Int.le_trans q up)
theorem Rel.closed (i : KI cs k h1) (hk : k < nk) (hl : IsLet nk cs l) (r : Rel h1 h2) : Closed h2.aside (hearK k h1 l).1.upto := fun a ha hah => by
  have t := hearK_told i hk hl
  rcases (r.lost i hk hl).as a ha with q | q
  · have := t.inv.ahead a q
    omega
  · exact q
theorem Rel.both (i1 : KI cs k h1) (i2 : KI cs k h2) (hk : k < nk) (hl : IsLet nk cs l) (r : Rel h1 h2) : Rel (hearK k h1 l).1 (hearK k h2 l).1 := by
  have rl := r.lost i1 hk hl
  have rc := r.closed i1 hk hl
  have t1 := hearK_told i1 hk hl
  cases hl with
  | @change n c e =>
    by_cases hck : c.key = k
    · by_cases q1 : ((n + 1 : Nat) : Int) ≤ h2.upto
      · have e2 : (hearK k h2 (.change (n + 1) c (lof (cs.take n) c.key))).1 = h2 := by
          simp only [hearK, if_pos hck, HK.chg, if_pos q1]
        rw [e2]
        exact rl
      · by_cases q2 : c.set = false ∧ h2.upto < (lof (cs.take n) c.key : Int)
        · have e2 : (hearK k h2 (.change (n + 1) c (lof (cs.take n) c.key))).1 = { h2 with aside := putA h2.aside ⟨n + 1, c.worth, lof (cs.take n) c.key⟩ } := by
            simp only [hearK, if_pos hck, HK.chg, if_neg q1, if_pos q2]
          rw [e2]
          refine ⟨rl.up, fun a ha => ?_⟩
          rcases putA_mem ha with q | q
          · subst q
            simp only [hearK, if_pos hck, HK.chg]
            split
            · exact .inr (by assumption)
            · split
              · exact .inl (putA_new _ _)
              · exact .inr (free_up (h1.done (n + 1) c.set c.worth))
          · exact rl.as a q
        · have e2 : (hearK k h2 (.change (n + 1) c (lof (cs.take n) c.key))).1 = ((h2.done (n + 1) c.set c.worth).free).1 := by
            simp only [hearK, if_pos hck, HK.chg, if_neg q1, if_neg q2]
          have hbase : ((n + 1 : Nat) : Int) ≤ (hearK k h1 (.change (n + 1) c (lof (cs.take n) c.key))).1.upto := by
            simp only [hearK, if_pos hck, HK.chg]
            split
            · assumption
            · split
              · rename_i q3 q4
                refine absurd ⟨q4.1, ?_⟩ q2
                have := r.up
                omega
              · exact free_up (h1.done (n + 1) c.set c.worth)
          rw [e2]
          exact ⟨fold_le (st := (h2.done (n + 1) c.set c.worth, [])) hbase rc, fun a ha => rl.as a (fold_sub (st := (h2.done (n + 1) c.set c.worth, [])) ha)⟩
    · have e2 : (hearK k h2 (.change (n + 1) c (lof (cs.take n) c.key))).1 = h2 := by
        simp only [hearK, if_neg hck]
      rw [e2]
      exact rl
  | @part n b e hn hbe hek =>
    unfold partL at rl rc t1 ⊢
    by_cases hbk : b ≤ k
    · cases er : (partRows cs n b (e - b))[k - b]? with
      | none =>
        have e2 : (hearK k h2 (.part n b (partRows cs n b (e - b)))).1 = h2 := by simp only [hearK, if_pos hbk, er]
        rw [e2]
        exact rl
      | some x =>
        by_cases q1 : h2.upto < (n : Int)
        · have e2 : (hearK k h2 (.part n b (partRows cs n b (e - b)))).1 = (({ h2 with worth := x.1, since := x.2, upto := n } : HK).free).1 := by simp only [hearK, if_pos hbk, er, HK.row, if_pos q1]
          have hbase : (n : Int) ≤ (hearK k h1 (.part n b (partRows cs n b (e - b)))).1.upto := by
            simp only [hearK, if_pos hbk, er, HK.row]
            split
            · exact free_up { h1 with worth := x.1, since := x.2, upto := n }
            · show (n : Int) ≤ h1.upto
              omega
          rw [e2]
          exact ⟨fold_le (st := ({ h2 with worth := x.1, since := x.2, upto := n }, [])) hbase rc, fun a ha => rl.as a (fold_sub (st := ({ h2 with worth := x.1, since := x.2, upto := n }, [])) ha)⟩
        · have e2 : (hearK k h2 (.part n b (partRows cs n b (e - b)))).1 = h2 := by simp only [hearK, if_pos hbk, er, HK.row, if_neg q1]
          rw [e2]
          exact rl
    · have e2 : (hearK k h2 (.part n b (partRows cs n b (e - b)))).1 = h2 := by simp only [hearK, if_neg hbk]
      rw [e2]
      exact rl
  | @beat n hn =>
    unfold beatL at rl rc t1 ⊢
    cases er : ((List.range nk).map fun k => lof (cs.take n) k)[k]? with
    | none =>
      have e2 : (hearK k h2 (.beat n ((List.range nk).map fun k => lof (cs.take n) k))).1 = h2 := by simp only [hearK, er]
      rw [e2]
      exact rl
    | some x =>
      have e2 : ∀ h : HK, (hearK k h (.beat n ((List.range nk).map fun k => lof (cs.take n) k))).1 = h.beat n x := fun h => by simp only [hearK, er]
      rw [e2, e2] at *
      by_cases q1 : (x : Int) ≤ h2.upto ∧ h2.upto < (n : Int)
      · have e3 : h2.beat n x = { h2 with upto := n } := by rw [HK.beat, if_pos q1]
        rw [e3]
        refine ⟨?_, rl.as⟩
        show (n : Int) ≤ (h1.beat n x).upto
        unfold HK.beat
        have := r.up
        split
        · exact Int.le_refl _
        · rename_i q2
          by_cases q3 : h1.upto < (n : Int)
          · exact absurd ⟨by omega, q3⟩ q2
          · show (n : Int) ≤ h1.upto
            omega
      · have e3 : h2.beat n x = h2 := by rw [HK.beat, if_neg q1]
        rw [e3]
        exact rl
/-- what is known up to the same number is the same -/
theorem look_same (i1 : KI cs k h1) (i2 : KI cs k h2) (e : h2.upto = h1.upto) : lookM h1 = lookM h2 := by
  unfold lookM
  rw [e]
  split
  · rfl
  · obtain ⟨u, hu⟩ : ∃ u : Nat, h1.upto = u := ⟨h1.upto.toNat, by omega⟩
    rw [(i1.ok u hu).1, (i1.ok u hu).2, (i2.ok u (e.trans hu)).1, (i2.ok u (e.trans hu)).2]
end
theorem min_le {hs : List HK} {m : Int} {k : Nat} {h : HK} (e : minU hs = m) (hk : hs[k]? = some h) : m ≤ h.upto := by
  unfold minU at e
  cases q : (hs.map fun h => h.upto).min? with
  | none =>
    rw [List.min?_eq_none_iff, List.map_eq_nil_iff] at q
    rw [q] at hk
    cases hk
  | some x =>
    rw [q] at e
    have e : x = m := e
    subst e
    exact (List.min?_eq_some_iff.mp q).2 _ (List.mem_map.mpr ⟨h, List.mem_of_getElem? hk, rfl⟩)
theorem le_max {hs : List HK} {k : Nat} {h : HK} (hk : hs[k]? = some h) : (h.since : Int) ≤ maxS hs := by
  unfold maxS
  cases q : (hs.map fun h => (h.since : Int)).max? with
  | none =>
    rw [List.max?_eq_none_iff, List.map_eq_nil_iff] at q
    rw [q] at hk
    cases hk
  | some x => exact (List.max?_eq_some_iff.mp q).2 _ (List.mem_map.mpr ⟨h, List.mem_of_getElem? hk, rfl⟩)
/-- whole is the board, at its number -/
theorem whole_row {nk : Nat} {cs : List Ch} {hs : List HK} {n : Int} {ws : List Int} (i : AllI nk cs hs) (hne : 0 < nk) (h : wholeM hs = some (n, ws)) : ∃ m : Nat, n = m ∧ m ≤ cs.length ∧ ws = wrow nk (cs.take m) := by
  unfold wholeM at h
  split at h
  · cases h
  · rename_i h1
    split at h
    · rename_i h2
      cases h
      obtain ⟨m, em⟩ : ∃ m : Nat, minU hs = m := ⟨(minU hs).toNat, by omega⟩
      have hm : m ≤ cs.length := by
        obtain ⟨g, eg⟩ : ∃ g, hs[0]? = some g := ⟨hs[0]'(by rw [i.1]; exact hne), List.getElem?_eq_getElem _⟩
        have := min_le em eg
        have := (i.2 0 g eg).hi
        omega
      refine ⟨m, em, hm, ?_⟩
      apply List.ext_getElem?
      intro k
      rw [List.getElem?_map]
      cases ek : hs[k]? with
      | none =>
        have := List.getElem?_eq_none_iff.mp ek
        rw [List.getElem?_eq_none (by rw [wrow_len]; have := i.1; omega)]
        rfl
      | some g =>
        have hk : k < nk := by
          have := (List.getElem?_eq_some_iff.mp ek).1
          have := i.1
          omega
        rw [wrow_get hk]
        have q1 := min_le em ek
        have q2 := le_max ek
        have ki := i.2 k g ek
        obtain ⟨u, hu⟩ : ∃ u : Nat, g.upto = u := ⟨g.upto.toNat, by omega⟩
        obtain ⟨w1, w2⟩ := ki.ok u hu
        have w3 := (wof_const (cs := cs) (k := k) (i := m) (j := u) (by omega) (by omega)).1
        show some g.worth = some (wof (cs.take m) k)
        rw [w1, w3]
    · cases h
end Cu

namespace Cu
open PySem PySem.Spec PyProof.Rows L2
/-! what has been heard of is known, or put aside -/
theorem fold_told : ∀ {L : List Int} {st : HK × List Int} {n : Int}, n ∈ (L.foldl HK.fstep st).2 → n ∈ st.2 ∨ n ∈ asN st.1.aside
  | [], _, _, h => .inl h
  | m :: L, st, n, h => by
    rw [List.foldl_cons] at h
    have h := fold_told h
    rcases fstep_cases st m with e | ⟨a, ha, h1, e⟩ | ⟨a, ha, h1, h2, e⟩
    · rwa [e] at h
    · rw [e] at h
      rcases h with h | h
      · exact .inl h
      · exact .inr ((asN_drop _ _).subset h)
    · rw [e] at h
      rcases h with h | h
      · rcases List.mem_append.mp h with h | h
        · exact .inl h
        · rw [List.mem_singleton] at h
          have := findA_n ha
          exact .inr (by rw [h, ← this]; exact asN_of (findA_mem ha))
      · exact .inr ((asN_drop _ _).subset h)
/-- a letter of changes behind n0 alone -/
def Fresh (n0 : Nat) : Letter → Prop
  | .change n _ _ => n0 < n
  | .part n _ _ => n0 ≤ n
  | .beat _ _ => True
def Lo (n0 : Nat) (h : HK) : Prop := ∀ a ∈ h.aside, n0 < a.n
theorem hearK_lo {n0 k : Nat} {h : HK} {l : Letter} (lo : Lo n0 h) (fr : Fresh n0 l) : Lo n0 (hearK k h l).1 ∧ ∀ n ∈ (hearK k h l).2, (n0 : Int) < n := by
  have fre : ∀ g : HK, g.aside = h.aside → Lo n0 g.free.1 ∧ ∀ n ∈ g.free.2, (n0 : Int) < n := fun g eg => by
    refine ⟨fun a ha => lo a (by rw [← eg]; exact fold_sub (st := (g, [])) ha), fun n hn => ?_⟩
    rcases fold_told (st := (g, [])) hn with q | q
    · cases q
    · obtain ⟨a, ha, e⟩ := List.mem_map.mp q
      have := lo a (by rw [← eg]; exact ha)
      omega
  have no : Lo n0 h ∧ ∀ n ∈ ([] : List Int), (n0 : Int) < n := ⟨lo, fun _ q => (nomatch q)⟩
  cases l with
  | change n c ahead =>
    simp only [hearK]
    split
    · unfold HK.chg
      split
      · exact no
      · split
        · refine ⟨fun a ha => ?_, fun _ q => (nomatch q)⟩
          rcases putA_mem ha with q | q
          · rw [q]
            exact fr
          · exact lo a q
        · obtain ⟨q1, q2⟩ := fre (h.done n c.set c.worth) rfl
          refine ⟨q1, fun m hm => ?_⟩
          rcases List.mem_cons.mp hm with q | q
          · have : n0 < n := fr
            omega
          · exact q2 m q
    · exact no
  | part n b rows =>
    simp only [hearK]
    split
    · split
      · unfold HK.row
        split
        · rename_i r _ _
          exact fre { h with worth := r.1, since := r.2, upto := n } rfl
        · exact no
      · exact no
    · exact no
  | beat n lasts =>
    simp only [hearK]
    split
    · unfold HK.beat
      split
      · exact no
      · exact no
    · exact no
def Got (k : Nat) (l : Letter) (h : HK) : Prop := match l with
  | .change n c _ => c.key = k → (n : Int) ≤ h.upto ∨ (c.set = false ∧ (n : Int) ∈ asN h.aside)
  | .part n b rows => b ≤ k → k < b + rows.length → (n : Int) ≤ h.upto
  | .beat _ _ => True
theorem got_self (k : Nat) (h : HK) (l : Letter) : Got k l (hearK k h l).1 := by
  cases l with
  | change n c ahead =>
    intro hk
    simp only [hearK, if_pos hk]
    unfold HK.chg
    split
    · exact .inl (by assumption)
    · split
      · rename_i q
        exact .inr ⟨q.1, asN_of (putA_new h.aside ⟨n, c.worth, ahead⟩)⟩
      · exact .inl (free_up (h.done n c.set c.worth))
  | part n b rows =>
    intro h1 h2
    simp only [hearK, if_pos h1]
    obtain ⟨r, er⟩ : ∃ r, rows[k - b]? = some r := ⟨rows[k - b], List.getElem?_eq_getElem (by omega)⟩
    rw [er]
    show (n : Int) ≤ (h.row n r.1 r.2).1.upto
    unfold HK.row
    split
    · exact free_up { h with worth := r.1, since := r.2, upto := n }
    · show (n : Int) ≤ h.upto
      omega
  | beat n lasts => trivial
theorem got_keep {nk : Nat} {cs : List Ch} {k : Nat} {h : HK} {l l' : Letter} (i : KI cs k h) (hk : k < nk) (hl : IsLet nk cs l') (g : Got k l h) : Got k l (hearK k h l').1 := by
  have up := (hearK_told i hk hl).up
  cases l with
  | change n c ahead =>
    intro q
    rcases g q with g | ⟨gs, g⟩
    · exact .inl (Int.le_trans g up)
    · obtain ⟨a, ha, e⟩ := List.mem_map.mp g
      rcases hearK_keep i hl ha with z | z
      · exact .inr ⟨gs, by rw [← e]; exact asN_of z⟩
      · exact .inl (by rw [← e]; exact z)
  | part n b rows => exact fun q1 q2 => Int.le_trans (g q1 q2) up
  | beat n lasts => trivial
theorem lof_is (cs : List Ch) (k : Nat) : lof cs k = 0 ∨ ∃ j c, cs[j]? = some c ∧ c.key = k ∧ lof cs k = j + 1 := by
  induction cs using snoc_ind with
  | h0 => exact .inl rfl
  | h1 cs c ih =>
    rw [lof_snoc]
    by_cases h : c.key = k
    · rw [if_pos h]
      exact .inr ⟨cs.length, c, by simp, h, rfl⟩
    · rw [if_neg h]
      rcases ih with q | ⟨j, d, q1, q2, q3⟩
      · exact .inl q
      · exact .inr ⟨j, d, by rw [List.getElem?_append_left (List.getElem?_eq_some_iff.mp q1).1]; exact q1, q2, q3⟩
theorem take_get {cs : List Ch} {m j : Nat} {c : Ch} (h : (cs.take m)[j]? = some c) : cs[j]? = some c ∧ j < m := by
  have hj : j < m := by
    have := (List.getElem?_eq_some_iff.mp h).1
    rw [List.length_take] at this
    omega
  rw [List.getElem?_take_of_lt hj] at h
  exact ⟨h, hj⟩
/-- all changes behind n0 have been heard of, and n0 is known: nothing is put aside, all is known -/
theorem got_end {cs : List Ch} {k n0 : Nat} {h : HK} (i : KI cs k h) (h0 : (n0 : Int) ≤ h.upto) (g : ∀ m c, cs[m]? = some c → c.key = k → n0 < m + 1 → ((m + 1 : Nat) : Int) ≤ h.upto ∨ ((m + 1 : Nat) : Int) ∈ asN h.aside) :
    h.aside = [] ∧ (lof cs k : Int) ≤ h.upto := by
  have ind : ∀ N, ∀ a ∈ h.aside, a.n ≤ N → False := fun N => by
    induction N with
    | zero =>
      intro a ha hn
      have := (i.as a ha).le
      omega
    | succ N ih =>
      intro a ha hn
      have q1 := i.ahead a ha
      obtain ⟨m, e1, e2, e3⟩ := i.as a ha
      rcases lof_is (cs.take m) k with q | ⟨j, c, e4, e5, e6⟩
      · omega
      · obtain ⟨e7, e8⟩ := take_get e4
        rcases g j c e7 e5 (by omega) with z | z
        · omega
        · obtain ⟨b, hb, eb⟩ := List.mem_map.mp z
          exact ih b hb (by omega)
  have e : h.aside = [] := by
    cases ha : h.aside with
    | nil => rfl
    | cons a as => exact (ind a.n a (by rw [ha]; exact List.mem_cons_self) (Nat.le_refl _)).elim
  refine ⟨e, ?_⟩
  rcases lof_is cs k with q | ⟨j, c, e4, e5, e6⟩
  · omega
  · by_cases hj : n0 < j + 1
    · rcases g j c e4 e5 hj with z | z
      · omega
      · rw [e] at z
        cases z
    · omega
theorem full_look {cs : List Ch} {k : Nat} {h : HK} (i : KI cs k h) (hl : (lof cs k : Int) ≤ h.upto) : h.worth = wof cs k ∧ h.since = lof cs k := by
  obtain ⟨u, hu⟩ : ∃ u : Nat, h.upto = u := ⟨h.upto.toNat, by omega⟩
  have hi := i.hi
  obtain ⟨w1, w2⟩ := i.ok u hu
  have := wof_const (cs := cs) (k := k) (i := u) (j := cs.length) (by omega) (by rw [List.take_length]; omega)
  rw [List.take_length] at this
  exact ⟨w1.trans this.1.symm, w2.trans this.2.symm⟩
/-- behind a beat all keys are known up to it -/
theorem beat_whole {nk : Nat} {cs : List Ch} {hs : List HK} (i : AllI nk cs hs) (hne : 0 < nk) (hl : ∀ (k : Nat) (h : HK), hs[k]? = some h → (lof cs k : Int) ≤ h.upto) :
    wholeM (hear hs (beatL nk cs cs.length)) = some ((cs.length : Int), wrow nk cs) ∧ ∀ (k : Nat) (h : HK), (hear hs (beatL nk cs cs.length))[k]? = some h → h.upto = cs.length := by
  have il : IsLet nk cs (beatL nk cs cs.length) := .beat (Nat.le_refl _)
  have i' := i.hear il
  have hup : ∀ (k : Nat) (h : HK), (hear hs (beatL nk cs cs.length))[k]? = some h → h.upto = cs.length := fun k h e => by
    obtain ⟨g, eg, rfl⟩ := hear_inv e
    have hk : k < nk := by
      have := (List.getElem?_eq_some_iff.mp eg).1
      have := i.1
      omega
    have hi := (i.2 k g eg).hi
    have := hl k g eg
    unfold beatL
    simp only [hearK]
    rw [List.getElem?_map, List.getElem?_range hk]
    show (g.beat cs.length (lof (cs.take cs.length) k)).upto = _
    rw [List.take_length]
    unfold HK.beat
    split
    · rfl
    · rename_i q
      by_cases z : g.upto < (cs.length : Int)
      · exact absurd ⟨this, z⟩ q
      · show g.upto = _
        omega
  refine ⟨?_, hup⟩
  have hlen := i'.1
  obtain ⟨g0, e0⟩ : ∃ g, (hear hs (beatL nk cs cs.length))[0]? = some g := ⟨(hear hs (beatL nk cs cs.length))[0]'(by omega), List.getElem?_eq_getElem _⟩
  have em : minU (hear hs (beatL nk cs cs.length)) = cs.length := by
    unfold minU
    rw [List.min?_eq_some_iff.mpr ⟨List.mem_map.mpr ⟨g0, List.mem_of_getElem? e0, hup 0 g0 e0⟩, fun b hb => ?_⟩]
    · rfl
    · obtain ⟨g, hg, rfl⟩ := List.mem_map.mp hb
      obtain ⟨k, ek⟩ := List.getElem?_of_mem hg
      rw [hup k g ek]
      exact Int.le_refl _
  have es : maxS (hear hs (beatL nk cs cs.length)) ≤ cs.length := by
    unfold maxS
    cases q : ((hear hs (beatL nk cs cs.length)).map fun h => (h.since : Int)).max? with
    | none => show (0 : Int) ≤ _; omega
    | some x =>
      obtain ⟨g, hg, e⟩ := List.mem_map.mp (List.max?_eq_some_iff.mp q).1
      obtain ⟨k, ek⟩ := List.getElem?_of_mem hg
      have := ((i'.2 k g ek).ok cs.length (hup k g ek)).2
      have := lof_take_le cs cs.length k
      show x ≤ _
      omega
  unfold wholeM
  rw [em, if_neg (by omega), if_pos (by omega)]
  congr 2
  apply List.ext_getElem?
  intro k
  rw [List.getElem?_map]
  cases ek : (hear hs (beatL nk cs cs.length))[k]? with
  | none =>
    have := List.getElem?_eq_none_iff.mp ek
    rw [List.getElem?_eq_none (by rw [wrow_len]; omega)]
    rfl
  | some g =>
    have hk : k < nk := by
      have := (List.getElem?_eq_some_iff.mp ek).1
      omega
    rw [wrow_get hk]
    show some g.worth = some (wof cs k)
    rw [((i'.2 k g ek).ok cs.length (hup k g ek)).1, List.take_length]
/-! a story that goes on -/
theorem IsLet.on {nk : Nat} {cs ds : List Ch} {l : Letter} (h : IsLet nk cs l) : IsLet nk (cs ++ ds) l := by
  have tk : ∀ {n : Nat}, n ≤ cs.length → (cs ++ ds).take n = cs.take n := fun hn => List.take_append_of_le_length hn
  cases h with
  | @change n c e =>
    have hn := (List.getElem?_eq_some_iff.mp e).1
    rw [← tk (Nat.le_of_lt hn)]
    exact .change (by rw [List.getElem?_append_left hn]; exact e)
  | @part n b e hn hbe hek =>
    have : partL cs n b e = partL (cs ++ ds) n b e := by
      unfold partL partRows
      rw [tk hn]
    rw [this]
    exact .part (by rw [List.length_append]; omega) hbe hek
  | @beat n hn =>
    have : beatL nk cs n = beatL nk (cs ++ ds) n := by
      unfold beatL
      rw [tk hn]
    rw [this]
    exact .beat (by rw [List.length_append]; omega)
theorem partL_on {cs ds : List Ch} {n b e : Nat} (hn : n ≤ cs.length) : partL (cs ++ ds) n b e = partL cs n b e := by
  unfold partL partRows
  rw [List.take_append_of_le_length hn]
theorem few_from {cs : List Ch} {k n0 : Nat} {h : HK} (i : KI cs k h) (lo : Lo n0 h) (hn : n0 ≤ cs.length) : h.aside.length + n0 ≤ cs.length := by
  have h1 := rise_len (a := n0) (b := cs.length) (srt_lt i.nd) fun n hn => by
    obtain ⟨a, ha, e⟩ := List.mem_map.mp ((srt_perm _).mem_iff.mp hn)
    have := lo a ha
    have := (i.as a ha).le
    omega
  rw [(srt_perm _).length_eq, asN, List.length_map, if_pos (by omega)] at h1
  omega
theorem nodup_from {l : List Int} {a b : Nat} (nd : l.Nodup) (h : ∀ n ∈ l, (a : Int) < n ∧ n ≤ b) (hab : a ≤ b) : l.length + a ≤ b := by
  have h1 := rise_len (a := a) (b := b) (srt_lt nd) fun n hn => h n ((srt_perm l).mem_iff.mp hn)
  rw [(srt_perm l).length_eq, if_pos (by omega)] at h1
  omega
end Cu

namespace Cu
open PySem PySem.Spec PyProof.Rows L2
/-! a board: where it lies -/
structure BA where
  p : Addr
  dx : Addr
  l1 : Addr
  l2 : Addr
  l3 : Addr
def bF (B : BA) (keep many : Int) : List (Str × V) := [("now", .ref B.l1), ("keep", .int keep), ("rows", .ref B.l2), ("many", .int many), ("last", .ref B.l3)]
/-- the letters that a board keeps -/
def tailL (keep : Nat) (cs : List Ch) : List Letter := (lets cs).drop (cs.length - keep)
structure BR (K : PySem.W.Frag) (C : Addr) (B : BA) (nk keep : Nat) (cs : List Ch) (H : Hp) (c : Lg) : Prop where
  ex : ∃ xs, c = [(B.p, HO.ins C B.dx (bF B keep cs.length)), (B.l1, HO.lst ((wrow nk cs).map V.int)), (B.l2, HO.lst xs), (B.l3, HO.lst ((lrow nk cs).map V.int))] ∧ RpL K H ((tailL keep cs).map Letter.enc) xs
section
variable {K : PySem.W.Frag} {C : Addr} {B : BA} {nk keep : Nat} {cs : List Ch} {H H' : Hp} {c : Lg}
theorem BR.mono (r : BR K C B nk keep cs H c) (m : Mono H H') : BR K C B nk keep cs H' c :=
  let ⟨xs, e, q⟩ := r.ex
  ⟨xs, e, q.mono m⟩
theorem BR.at_p (r : BR K C B nk keep cs H c) (h : Has H c) : H B.p = some (.ins C B.dx (bF B keep cs.length)) := by
  obtain ⟨xs, rfl, _⟩ := r.ex
  exact h.head
theorem BR.at1 (r : BR K C B nk keep cs H c) (h : Has H c) : H B.l1 = some (.lst ((wrow nk cs).map V.int)) := by
  obtain ⟨xs, rfl, _⟩ := r.ex
  exact h.tail.head
theorem BR.at3 (r : BR K C B nk keep cs H c) (h : Has H c) : H B.l3 = some (.lst ((lrow nk cs).map V.int)) := by
  obtain ⟨xs, rfl, _⟩ := r.ex
  exact h.tail.tail.tail.head
theorem BR.at2 (r : BR K C B nk keep cs H c) (h : Has H c) : ∃ xs, H B.l2 = some (.lst xs) ∧ RpL K H ((tailL keep cs).map Letter.enc) xs := by
  obtain ⟨xs, rfl, q⟩ := r.ex
  exact ⟨xs, h.tail.tail.head, q⟩
end
/-- what a class of boards is -/
structure CBo (K : PySem.W.Frag) (C : Addr) : Prop where
  cl : Cls K C
  n1 : NoAttr K C "now"
  n2 : NoAttr K C "keep"
  n3 : NoAttr K C "rows"
  n4 : NoAttr K C "many"
  n5 : NoAttr K C "last"
theorem bF1 (B : BA) (a b : Int) : (bF B a b).lookup ("now" : Str) = some (.ref B.l1) := by rfl
theorem bF2 (B : BA) (a b : Int) : (bF B a b).lookup ("keep" : Str) = some (.int a) := by rfl
theorem bF3 (B : BA) (a b : Int) : (bF B a b).lookup ("rows" : Str) = some (.ref B.l2) := by rfl
theorem bF4 (B : BA) (a b : Int) : (bF B a b).lookup ("many" : Str) = some (.int b) := by rfl
theorem bF5 (B : BA) (a b : Int) : (bF B a b).lookup ("last" : Str) = some (.ref B.l3) := by rfl
theorem tailL_len (keep : Nat) (cs : List Ch) : (tailL keep cs).length = min cs.length keep := by
  unfold tailL
  rw [List.length_drop, lets_length]
  omega
theorem tailL_snoc (keep : Nat) (cs : List Ch) (ch : Ch) : tailL keep (cs ++ [ch]) = if cs.length + 1 ≤ keep then tailL keep cs ++ [Letter.change (cs.length + 1) ch (lof cs ch.key)] else (tailL keep cs ++ [Letter.change (cs.length + 1) ch (lof cs ch.key)]).drop 1 := by
  unfold tailL
  rw [lets_snoc, List.length_append]
  show List.drop (cs.length + 1 - keep) _ = _
  split
  · rw [show cs.length + 1 - keep = 0 by omega, show cs.length - keep = 0 by omega]
    rfl
  · rw [List.drop_append, List.drop_append, List.drop_drop, List.length_drop, lets_length]
    rw [show cs.length - keep + 1 = cs.length + 1 - keep by omega, show cs.length + 1 - keep - cs.length = 1 - (cs.length - (cs.length - keep)) by omega]
theorem wdS (b : Bool) : decide (V.str (wd b) = V.str "set") = b := by cases b <;> decide +kernel
/-! promises -/
def spBinit (K : PySem.W.Frag) (C : Addr) : Sp := fun vs H Q _ => vs.length = 3 ∧ ∃ (p dx : Addr) (nk keep : Nat), vs = [.ref p, .int nk, .int keep] ∧ 0 < nk ∧ nk ≤ 8 ∧ keep ≤ 20 ∧ H p = some (.ins C dx []) ∧
  ∀ (B : BA) (c : Lg) (H' : Hp), B.p = p → BR K C B nk keep [] H' c → Tr H [(p, .ins C dx [])] H' c → Q .non H'
def spBnumber (K : PySem.W.Frag) (C : Addr) : Sp := fun vs H Q _ => vs.length = 1 ∧ ∃ (B : BA) (nk keep : Nat) (cs : List Ch) (c : Lg), vs = [.ref B.p] ∧ BR K C B nk keep cs H c ∧ Has H c ∧ Q (.int cs.length) H
def spBworths (K : PySem.W.Frag) (C : Addr) : Sp := fun vs H Q _ => vs.length = 1 ∧ ∃ (B : BA) (nk keep : Nat) (cs : List Ch) (c : Lg), vs = [.ref B.p] ∧ BR K C B nk keep cs H c ∧ Has H c ∧ ∀ (r : Addr) (H' : Hp), Tr H [] H' [(r, .lst ((wrow nk cs).map V.int))] → Q (.ref r) H'
def spBlasts (K : PySem.W.Frag) (C : Addr) : Sp := fun vs H Q _ => vs.length = 1 ∧ ∃ (B : BA) (nk keep : Nat) (cs : List Ch) (c : Lg), vs = [.ref B.p] ∧ BR K C B nk keep cs H c ∧ Has H c ∧ ∀ (r : Addr) (H' : Hp), Tr H [] H' [(r, .lst ((lrow nk cs).map V.int))] → Q (.ref r) H'
def spBtail (K : PySem.W.Frag) (C : Addr) : Sp := fun vs H Q _ => vs.length = 1 ∧ ∃ (B : BA) (nk keep : Nat) (cs : List Ch) (c : Lg), vs = [.ref B.p] ∧ BR K C B nk keep cs H c ∧ Has H c ∧
  ∀ (r : Addr) (xs : List V) (H' : Hp), Tr H [] H' [(r, .lst xs)] → RpL K H' ((tailL keep cs).map Letter.enc) xs → Q (.ref r) H'
def spBchange (K : PySem.W.Frag) (C : Addr) : Sp := fun vs H Q _ => vs.length = 4 ∧ ∃ (B : BA) (nk keep : Nat) (cs : List Ch) (c : Lg) (ch : Ch), vs = [.ref B.p, .int ch.key, .str (wd ch.set), .int ch.worth] ∧ BR K C B nk keep cs H c ∧ Has H c ∧ ch.key < nk ∧ nk ≤ 8 ∧ keep ≤ 20 ∧
  ∀ (v : V) (c' : Lg) (H' : Hp), BR K C B nk keep (cs ++ [ch]) H' c' → Tr H c H' c' → Rp K H' (Letter.change (cs.length + 1) ch (lof cs ch.key)).enc v → Q v H'
def spBpart (K : PySem.W.Frag) (C : Addr) : Sp := fun vs H Q _ => vs.length = 3 ∧ ∃ (B : BA) (nk keep : Nat) (cs : List Ch) (c : Lg) (b e : Nat), vs = [.ref B.p, .int b, .int e] ∧ BR K C B nk keep cs H c ∧ Has H c ∧ b < e ∧ e ≤ nk ∧ nk ≤ 8 ∧
  ∀ (v : V) (H' : Hp), Grow H H' → Rp K H' (partL cs cs.length b e).enc v → Q v H'
def spBbeat (K : PySem.W.Frag) (C : Addr) : Sp := fun vs H Q _ => vs.length = 1 ∧ ∃ (B : BA) (nk keep : Nat) (cs : List Ch) (c : Lg), vs = [.ref B.p] ∧ BR K C B nk keep cs H c ∧ Has H c ∧
  ∀ (v : V) (H' : Hp), Grow H H' → Rp K H' (beatL nk cs cs.length).enc v → Q v H'
abbrev s_Board_init : Stmt := (inClass (top 20) 0)
theorem sc_Board_init : FnScope ["self", "keys", "keep", "key"] ["self", "keys", "keep"] (defScope s_Board_init) := ⟨rfl, rfl, rfl, by decide +kernel, rfl, by decide +kernel, by decide +kernel⟩

abbrev s_Board_number : Stmt := (inClass (top 20) 2)
theorem sc_Board_number : FnScope ["self"] ["self"] (defScope s_Board_number) := ⟨rfl, rfl, rfl, by decide +kernel, rfl, by decide +kernel, by decide +kernel⟩

abbrev s_Board_worths : Stmt := (inClass (top 20) 3)
theorem sc_Board_worths : FnScope ["self"] ["self"] (defScope s_Board_worths) := ⟨rfl, rfl, rfl, by decide +kernel, rfl, by decide +kernel, by decide +kernel⟩

abbrev s_Board_lasts : Stmt := (inClass (top 20) 4)
theorem sc_Board_lasts : FnScope ["self"] ["self"] (defScope s_Board_lasts) := ⟨rfl, rfl, rfl, by decide +kernel, rfl, by decide +kernel, by decide +kernel⟩

abbrev s_Board_tail : Stmt := (inClass (top 20) 5)
theorem sc_Board_tail : FnScope ["self"] ["self"] (defScope s_Board_tail) := ⟨rfl, rfl, rfl, by decide +kernel, rfl, by decide +kernel, by decide +kernel⟩

abbrev s_Board_change : Stmt := (inClass (top 20) 6)
theorem sc_Board_change : FnScope ["self", "key", "word", "worth", "letter"] ["self", "key", "word", "worth"] (defScope s_Board_change) := ⟨rfl, rfl, rfl, by decide +kernel, rfl, by decide +kernel, by decide +kernel⟩

abbrev s_Board_part : Stmt := (inClass (top 20) 7)
theorem sc_Board_part : FnScope ["self", "begin", "end", "rows", "key"] ["self", "begin", "end"] (defScope s_Board_part) := ⟨rfl, rfl, rfl, by decide +kernel, rfl, by decide +kernel, by decide +kernel⟩

abbrev s_Board_beat : Stmt := (inClass (top 20) 8)
theorem sc_Board_beat : FnScope ["self"] ["self"] (defScope s_Board_beat) := ⟨rfl, rfl, rfl, by decide +kernel, rfl, by decide +kernel, by decide +kernel⟩

end Cu

namespace Cu
open PySem PySem.Spec PyProof.Rows L2
section
variable {P : Program} {w : World} {K : PySem.W.Frag} {mg : Str → Option Value} {base : Heap} {C : Addr}
theorem ok_Binit {tk tk2 : Tok} (F : Kd K mg "Board" C "Board.__init__" s_Board_init) (Bm : Blt mg) (CBoard : CBo K C) (km_MOST_KEYS : mg "MOST_KEYS" = some (.int 8 tk)) (km_MOST_TAIL : mg "MOST_TAIL" = some (.int 20 tk2)) : Kf P w K mg base 1 "Board" C ["self", "keys", "keep"] (spBinit K C) := by
  refine F.ok sc_Board_init (fun _ _ _ _ _ _ us hl => match us, hl with | [_, _, _], _ => rfl) len_of fun qual f cdv A0 outer s H vs Q E hr h => ?_
  obtain ⟨_, p, dx, nk, keep, rfl, hk, hk8, hkp, hp, go⟩ := h
  refine ⟨_, (pss_cons (ps_if (PW.pt (pw_or (pt_not (pt_chain op_le op_le pe_int (pv 1) (pe_glob (v := .int 8) rfl km_MOST_KEYS ⟨_, rfl⟩))) (pw_or1 (pt_not (pt_chain op_le op_le pe_int (pv 2) (pe_glob (v := .int 20) rfl km_MOST_TAIL ⟨_, rfl⟩))))))
        (pss_one ps_never)
        pss_nil)
      (pss_cons (ps_fld (pv 0) (pe_I (pe_lc (own := [("key", 3)]) (g := (gName 3)) (tt := tYes) rfl sc_Board_init.nd (pi_range1 rfl Bm.range (pa_cons (pv 1) pa_nil)) (blkOk_by (N := ["self", "keys", "keep", "key"]) (sc := defScope s_Board_init) (by decide +kernel)) (fun _ _ _ _ _ => (pg_name (i := 3) sc_Board_init.nd rfl (Or.inl rfl))) (fun _ _ _ _ _ => pts_nil) (fun _ _ _ _ _ => pe_int))) rfl)
      (pss_cons (ps_fld (pv 0) (pv 2) rfl)
      (pss_cons (ps_fld (pv 0) (pe_lst pa_nil) rfl)
      (pss_cons (ps_fld (pv 0) pe_int rfl)
      (pss_one (ps_fld (pv 0) (pe_I (pe_lc (own := [("key", 3)]) (g := (gName 3)) (tt := tYes) rfl sc_Board_init.nd (pi_range1 rfl Bm.range (pa_cons (pv 1) pa_nil)) (blkOk_by (N := ["self", "keys", "keep", "key"]) (sc := defScope s_Board_init) (by decide +kernel)) (fun _ _ _ _ _ => (pg_name (i := 3) sc_Board_init.nd rfl (Or.inl rfl))) (fun _ _ _ _ _ => pts_nil) (fun _ _ _ _ _ => pe_int))) rfl))))))), ?_⟩
  have h0 := Has.one hp nins
  refine ⟨_, rfl, _, _, rfl, rfl, _, rfl, iteP (decide_eq_true (by omega)) ⟨_, _, rfl, rfl, _, rfl, iteM (by simp; omega) ?_⟩⟩
  refine ⟨_, rfl, _, _, rfl, rfl, _, rfl, iteP (decide_eq_true (by omega)) ⟨_, _, rfl, rfl, _, rfl, iteM (by simp; omega) ?_⟩⟩
  refine rd_const (v := .int 0) (by rfl) hk8 (fun _ => rfl) (fun _ _ _ q => q) fun p1 H1 t1 => ?_
  have s1 := (show Tr H [(p, .ins C dx [])] H1 [(p1, .lst (List.replicate nk (.int 0))), (p, .ins C dx [])] from t1.right (D := [(p, .ins C dx [])])).swap2
  refine ⟨_, rfl, p, C, dx, [], rfl, (s1.now h0).head, CBoard.cl, CBoard.n1, (by show 0 < 1000; decide), ?_⟩
  have s2 := s1.put (o' := .ins C dx [("now", .ref p1)]) h0 nins
  refine ⟨_, rfl, _, rfl, p, C, dx, [("now", .ref p1)], rfl, (s2.now h0).head, CBoard.cl, CBoard.n2, (by show 1 < 1000; decide), ?_⟩
  have s3 := s2.put (o' := .ins C dx [("now", .ref p1), ("keep", .int keep)]) h0 nins
  refine ⟨(by show 0 ≤ sizeLine; decide), fun p2 hp2 => ?_⟩
  have s4 := (s3.new (o := .lst []) hp2 nl).swap2
  refine ⟨_, rfl, p, C, dx, [("now", .ref p1), ("keep", .int keep)], rfl, (s4.now h0).head, CBoard.cl, CBoard.n3, (by show 2 < 1000; decide), ?_⟩
  have s5 := s4.put (o' := .ins C dx [("now", .ref p1), ("keep", .int keep), ("rows", .ref p2)]) h0 nins
  refine ⟨_, rfl, p, C, dx, [("now", .ref p1), ("keep", .int keep), ("rows", .ref p2)], rfl, (s5.now h0).head, CBoard.cl, CBoard.n4, (by show 3 < 1000; decide), ?_⟩
  have s6 := s5.put (o' := .ins C dx [("now", .ref p1), ("keep", .int keep), ("rows", .ref p2), ("many", .int 0)]) h0 nins
  refine rd_const (v := .int 0) (by rfl) hk8 (fun _ => rfl) (fun _ _ _ q => q) fun p3 H3 t3 => ?_
  have s7 := (s6.trans (t3.right (D := [(p, .ins C dx [("now", .ref p1), ("keep", .int keep), ("rows", .ref p2), ("many", .int 0)]), (p2, .lst []), (p1, .lst (List.replicate nk (.int 0)))]))).swap2
  refine ⟨_, rfl, p, C, dx, [("now", .ref p1), ("keep", .int keep), ("rows", .ref p2), ("many", .int 0)], rfl, (s7.now h0).head, CBoard.cl, CBoard.n5, (by show 4 < 1000; decide), ?_⟩
  have s8 := s7.put (o' := .ins C dx [("now", .ref p1), ("keep", .int keep), ("rows", .ref p2), ("many", .int 0), ("last", .ref p3)]) h0 nins
  have e0 : ∀ n : Nat, (List.replicate n (0 : Int)).map V.int = List.replicate n (V.int 0) := fun n => List.map_replicate
  refine go ⟨p, dx, p1, p2, p3⟩ _ _ rfl ⟨[], ?_, by unfold tailL; rw [lets_nil, List.drop_nil]; exact .nil⟩ (s8.perm (List.Perm.cons _ (List.reverse_perm [(p1, HO.lst (List.replicate nk (V.int 0))), (p2, HO.lst []), (p3, HO.lst (List.replicate nk (V.int 0)))])))
  rw [wrow_nil, lrow_nil, e0]
  rfl
end
end Cu

namespace Cu
open PySem PySem.Spec PyProof.Rows L2
section
variable {P : Program} {w : World} {K : PySem.W.Frag} {mg : Str → Option Value} {base : Heap} {C : Addr}
theorem ok_Bnumber (F : Md K C "number" "Board.number" s_Board_number) (Bm : Blt mg) (CBoard : CBo K C) : Mf P w K mg base 1 C "number" ["self"] (spBnumber K C) := by
  refine F.ok sc_Board_number (fun _ _ _ _ _ _ us hl => match us, hl with | [_], _ => rfl) len_of fun qual f cdv A0 outer s H vs Q E hr h => ?_
  obtain ⟨_, B, nk, keep, cs, c, rfl, r, hc, go⟩ := h
  refine ⟨_, (pss_one (ps_ret (pe_fld (pv 0) rfl))), ?_⟩
  exact ⟨_, rfl, _, C, _, _, _, rfl, r.at_p hc, CBoard.cl, CBoard.n4, bF4 B _ _, go⟩
end
end Cu

namespace Cu
open PySem PySem.Spec PyProof.Rows L2
section
variable {P : Program} {w : World} {K : PySem.W.Frag} {mg : Str → Option Value} {base : Heap} {C : Addr}
theorem ok_Bworths (F : Md K C "worths" "Board.worths" s_Board_worths) (Bm : Blt mg) (CBoard : CBo K C) : Mf P w K mg base 1 C "worths" ["self"] (spBworths K C) := by
  refine F.ok sc_Board_worths (fun _ _ _ _ _ _ us hl => match us, hl with | [_], _ => rfl) len_of fun qual f cdv A0 outer s H vs Q E hr h => ?_
  obtain ⟨_, B, nk, keep, cs, c, rfl, r, hc, go⟩ := h
  refine ⟨_, (pss_one (ps_ret (pe_callTy call_list_of rfl Bm.list (by decide +kernel) (pa_cons (pe_fld (pv 0) rfl) pa_nil)))), ?_⟩
  exact ⟨_, rfl, _, C, _, _, _, rfl, r.at_p hc, CBoard.cl, CBoard.n1, bF1 B _ _, _, _, rfl, .inl (SqL.of (r.at1 hc)), fun l hl => go l _ ((Tr.refl H []).new hl nl)⟩
end
end Cu

namespace Cu
open PySem PySem.Spec PyProof.Rows L2
section
variable {P : Program} {w : World} {K : PySem.W.Frag} {mg : Str → Option Value} {base : Heap} {C : Addr}
theorem ok_Blasts (F : Md K C "lasts" "Board.lasts" s_Board_lasts) (Bm : Blt mg) (CBoard : CBo K C) : Mf P w K mg base 1 C "lasts" ["self"] (spBlasts K C) := by
  refine F.ok sc_Board_lasts (fun _ _ _ _ _ _ us hl => match us, hl with | [_], _ => rfl) len_of fun qual f cdv A0 outer s H vs Q E hr h => ?_
  obtain ⟨_, B, nk, keep, cs, c, rfl, r, hc, go⟩ := h
  refine ⟨_, (pss_one (ps_ret (pe_callTy call_list_of rfl Bm.list (by decide +kernel) (pa_cons (pe_fld (pv 0) rfl) pa_nil)))), ?_⟩
  exact ⟨_, rfl, _, C, _, _, _, rfl, r.at_p hc, CBoard.cl, CBoard.n5, bF5 B _ _, _, _, rfl, .inl (SqL.of (r.at3 hc)), fun l hl => go l _ ((Tr.refl H []).new hl nl)⟩
end
end Cu

namespace Cu
open PySem PySem.Spec PyProof.Rows L2
section
variable {P : Program} {w : World} {K : PySem.W.Frag} {mg : Str → Option Value} {base : Heap} {C : Addr}
theorem ok_Btail (F : Md K C "tail" "Board.tail" s_Board_tail) (Bm : Blt mg) (CBoard : CBo K C) : Mf P w K mg base 1 C "tail" ["self"] (spBtail K C) := by
  refine F.ok sc_Board_tail (fun _ _ _ _ _ _ us hl => match us, hl with | [_], _ => rfl) len_of fun qual f cdv A0 outer s H vs Q E hr h => ?_
  obtain ⟨_, B, nk, keep, cs, c, rfl, r, hc, go⟩ := h
  refine ⟨_, (pss_one (ps_ret (pe_callTy call_list_of rfl Bm.list (by decide +kernel) (pa_cons (pe_fld (pv 0) rfl) pa_nil)))), ?_⟩
  obtain ⟨xs, e2, q2⟩ := r.at2 hc
  exact ⟨_, rfl, _, C, _, _, _, rfl, r.at_p hc, CBoard.cl, CBoard.n3, bF3 B _ _, _, _, rfl, .inl (SqL.of e2), fun l hl => go l xs _ ((Tr.refl H []).new hl nl) (q2.mono (Mono.new hl))⟩
end
end Cu

namespace Cu
open PySem PySem.Spec PyProof.Rows L2
section
variable {P : Program} {w : World} {K : PySem.W.Frag} {mg : Str → Option Value} {base : Heap} {C : Addr}
theorem ok_Bpart (F : Md K C "part" "Board.part" s_Board_part) (Bm : Blt mg) (CBoard : CBo K C) : Mf P w K mg base 1 C "part" ["self", "begin", "end"] (spBpart K C) := by
  refine F.ok sc_Board_part (fun _ _ _ _ _ _ us hl => match us, hl with | [_, _, _], _ => rfl) len_of fun qual f cdv A0 outer s H vs Q E hr h => ?_
  obtain ⟨_, B, nk, keep, cs, c, b, e, rfl, r, hc, hbe, hek, hk8, go⟩ := h
  refine ⟨_, (pss_cons (ps_if (pt_not (pt_chain3 op_le op_lt op_le pe_int (pv 1) (pv 2) (pe_callB call_len_seq rfl Bm.len (by decide +kernel) (pa_cons (pe_fld (pv 0) rfl) pa_nil))))
        (pss_one ps_never)
        pss_nil)
      (pss_cons (ps_setLc (i := 3) (own := [("key", 4)]) (g := (gName 4)) (tt := tYes) rfl sc_Board_part.nd rfl rfl (sw_true rfl rfl rfl (by decide +kernel)) (pi_range2 rfl Bm.range (pa_cons (pv 1) (pa_cons (pv 2) pa_nil))) (blkOk_by (N := ["self", "begin", "end", "rows", "key"]) (sc := defScope s_Board_part) (by decide +kernel)) (fun _ _ _ _ _ => (pg_name (i := 4) sc_Board_part.nd rfl (Or.inl rfl))) (fun _ _ _ _ _ => pts_nil) (fun _ _ _ _ _ => (pe_tup (pa_cons (pe_ix (ix_listK K rfl) (pe_fldK K rfl (pv 0) rfl) (pv 4) (fun _ _ => rfl)) (pa_cons (pe_ix (ix_listK K rfl) (pe_fldK K rfl (pv 0) rfl) (pv 4) (fun _ _ => rfl)) pa_nil)))))
      (pss_one (ps_ret (pe_tup (pa_cons pe_str (pa_cons (pe_fld (pv 0) rfl) (pa_cons (pv 1) (pa_cons (pe_callTy call_tuple_of rfl Bm.tuple (by decide +kernel) (pa_cons (pv 3) pa_nil)) pa_nil))))))))), ?_⟩
  refine ⟨_, rfl, _, _, rfl, rfl, _, rfl, iteP (decide_eq_true (by omega)) ⟨_, rfl, _, _, rfl, rfl, _, rfl, iteP (decide_eq_true (by omega)) ⟨_, rfl, _, C, _, _, _, rfl, r.at_p hc, CBoard.cl, CBoard.n1, bF1 B _ _, _, _, rfl, .inl (SqL.of (r.at1 hc)), _, _, rfl, rfl, _, rfl, iteM (by rw [List.length_map, wrow_len]; simp; omega) ?_⟩⟩⟩
  have up : ∀ {H2 : Hp} {O : Lg}, Tr H [] H2 O → Has H2 c ∧ BR K C B nk keep cs H2 c := fun t => ⟨(t.has c hc).right, r.mono t.mono⟩
  refine ⟨_, rfl, _, rfl, _, _, rfl, ⟨by omega, by omega, by omega, by omega⟩, fun D hD => ?_⟩
  refine lc_range (lo := b) (n := ((e : Int) - b).toNat) (fun i H2 => ∃ xs, Tr H [] H2 [(D, .lst xs)] ∧ RpL K H2 ((partRows cs cs.length b i).map fun r => .tuple [.int r.1, .int r.2]) xs)
    ⟨[], (Tr.refl H []).new hD nl, .nil⟩ ?_ ?_
  · rintro i H2 hi ⟨xs, t2, rx⟩
    have hbi : b + i < nk := by omega
    have e1 : ((b : Int) + i) = ((b + i : Nat) : Int) := by omega
    have u := up t2
    refine ⟨rfl, ?_⟩
    refine ⟨_, rfl, _, C, _, _, _, rfl, u.2.at_p u.1, CBoard.cl, CBoard.n1, bF1 B _ _, _, rfl, _, _, _, _, rfl, rfl, SqL.of (u.2.at1 u.1), at_of (j := b + i) e1 (by rw [List.getElem?_map, wrow_get hbi]; rfl),
      _, rfl, _, C, _, _, _, rfl, u.2.at_p u.1, CBoard.cl, CBoard.n5, bF5 B _ _, _, rfl, _, _, _, _, rfl, rfl, SqL.of (u.2.at3 u.1), at_of (j := b + i) e1 (by rw [List.getElem?_map, lrow_get hbi]; rfl), ⟨(by show 2 ≤ sizeLine; decide), fun t ht => ?_⟩⟩
    obtain ⟨s3, r3⟩ := snoc_tup (K := K) (ds := [.int (wof cs (b + i)), .int (lof cs (b + i))]) t2.own ht (.cons .int (.cons .int .nil))
    have hx : xs.length = i := by rw [rx.length, List.length_map, partRows, List.length_map, List.length_range]
    refine ⟨xs, by rw [upd_ne (ne_of_none t2.own.head ht)]; exact t2.own.head, by rw [hx]; exact small1000 (by omega), xs ++ [.ref t], t2.trans s3, ?_⟩
    unfold partRows at rx ⊢
    rw [List.take_length] at rx ⊢
    rw [List.range_succ, List.map_append, List.map_append]
    exact (rx.mono s3.mono).snoc r3
  · rintro H2 ⟨xs, t2, rx⟩
    have e2 : ((e : Int) - b).toNat = e - b := by omega
    rw [e2] at rx
    have u := up t2
    refine ⟨_, rfl, _, C, _, _, _, rfl, u.2.at_p u.1, CBoard.cl, CBoard.n4, bF4 B _ _, _, rfl, _, rfl, D, xs, rfl, .inl ⟨SqL.of t2.own.head, fun l hl => ⟨(by show 4 ≤ sizeLine; decide), fun t ht => ?_⟩⟩⟩
    have g := ((t2.old (o := .tup xs) hl).old (o := .tup [.str "part", .int cs.length, .int b, .ref l]) ht).tail
    refine go _ _ g (.tup upd_same (.cons .str (.cons .int (.cons .int (.cons (.tup ((Mono.new ht) _ _ upd_same trivial) (rx.mono ((Mono.new hl).trans (Mono.new ht)))) .nil)))))
end
end Cu

namespace Cu
open PySem PySem.Spec PyProof.Rows L2
section
variable {P : Program} {w : World} {K : PySem.W.Frag} {mg : Str → Option Value} {base : Heap} {C : Addr}
theorem ok_Bchange (F : Md K C "change" "Board.change" s_Board_change) (Bm : Blt mg) (CBoard : CBo K C) : Mf P w K mg base 1 C "change" ["self", "key", "word", "worth"] (spBchange K C) := by
  refine F.ok sc_Board_change (fun _ _ _ _ _ _ us hl => match us, hl with | [_, _, _, _], _ => rfl) len_of fun qual f cdv A0 outer s H vs Q E hr h => ?_
  obtain ⟨_, B, nk, keep, cs, c, ch, rfl, r, hc, hk, hk8, hkp, go⟩ := h
  refine ⟨_, (pss_cons (ps_if (pt_not (pt_chain op_le op_lt pe_int (pv 1) (pe_callB call_len_seq rfl Bm.len (by decide +kernel) (pa_cons (pe_fld (pv 0) rfl) pa_nil))))
        (pss_one ps_never)
        pss_nil)
      (pss_cons (ps_if (pt_cmpR op_notIn_seq (pv 2) (pe_tup (pa_cons pe_str (pa_cons pe_str pa_nil))) (by rfl))
        (pss_one ps_never)
        pss_nil)
      (pss_cons (ps_fld (pv 0) (pe_op op_add (pe_fld (pv 0) rfl) pe_int) rfl)
      (pss_cons (ps_set (i := 4) sc_Board_change.nd rfl (Or.inl rfl) (pe_tup (pa_cons pe_str (pa_cons (pe_fld (pv 0) rfl) (pa_cons (pv 1) (pa_cons (pv 2) (pa_cons (pv 3) (pa_cons (pe_ix ix_list (pe_fld (pv 0) rfl) (pv 1) (fun _ _ => rfl)) pa_nil))))))))
      (pss_cons (ps_mid (ps_asg (pe_ifExp (pt_cmpR op_eq (pv 2) pe_str (nomark _)) (pv 3) (pe_op op_add (pe_ix ix_list (pe_fld (pv 0) rfl) (pv 1) (fun _ _ => rfl)) (pv 3))) (pg_sub (pe_fld (pv 0) rfl) (pv 1) set_list)))
      (pss_cons (ps_asg (pe_fld (pv 0) rfl) (pg_sub (pe_fld (pv 0) rfl) (pv 1) set_list))
      (pss_cons (ps_expr (pe_bm PySem.F.plainAttrs_list PySem.F.slot_list_append PySem.F.type_list_append mt_append (pe_fld (pv 0) rfl) (pa_cons (pv 4) pa_nil)))
      (pss_cons (ps_mid (ps_if (pt_cmpR op_gt (pe_callB call_len_seq rfl Bm.len (by decide +kernel) (pa_cons (pe_fld (pv 0) rfl) pa_nil)) (pe_fld (pv 0) rfl) (nomark _))
        (pss_one (ps_expr (pe_bm PySem.F.plainAttrs_list PySem.F.slot_list_pop PySem.F.type_list_pop mt_popAt (pe_fld (pv 0) rfl) (pa_cons pe_int pa_nil))))
        pss_nil))
      (pss_one (ps_ret (pv 4))))))))))), ?_⟩
  refine ⟨_, rfl, _, _, rfl, rfl, _, rfl, iteP (decide_eq_true (by omega)) ⟨_, rfl, _, C, _, _, _, rfl, r.at_p hc, CBoard.cl, CBoard.n1, bF1 B _ _, _, _, rfl, .inl (SqL.of (r.at1 hc)), _, _, rfl, rfl, _, rfl, iteM (by rw [List.length_map, wrow_len]; simp; omega) ?_⟩⟩
  refine ⟨_, rfl, ⟨(by show 2 ≤ sizeLine; decide), fun t1 ht1 => ⟨t1, _, rfl, .inr (SqT.of upd_same), rfl, rfl, _, rfl, iteM (by cases ch.set <;> decide +kernel) ?_⟩⟩⟩
  obtain ⟨xs, ec, rxs⟩ := r.ex
  subst ec
  have u0 := (Tr.refl H [(B.p, HO.ins C B.dx (bF B keep cs.length)), (B.l1, HO.lst ((wrow nk cs).map V.int)), (B.l2, HO.lst xs), (B.l3, HO.lst ((lrow nk cs).map V.int))]).old (o := .tup [V.str "set", .str "add"]) ht1
  have h0 := u0.now hc
  have n1 : ((cs.length : Int) + 1) = ((cs.length + 1 : Nat) : Int) := by omega
  refine ⟨_, rfl, _, C, _, _, _, rfl, h0.head, CBoard.cl, CBoard.n4, bF4 B _ _, _, _, rfl, rfl, _, rfl, B.p, C, B.dx, _, rfl, h0.head, CBoard.cl, CBoard.n4, (by show 5 < 1000; decide), ?_⟩
  have u1 := u0.put (o' := .ins C B.dx (bF B keep ((cs.length : Int) + 1))) hc nins
  have h1 := u1.now hc
  have gl : (lrow nk cs)[ch.key]? = some (lof cs ch.key : Int) := lrow_get hk
  have gw : (wrow nk cs)[ch.key]? = some (wof cs ch.key) := wrow_get hk
  -- letter
  refine ⟨_, rfl, _, C, _, _, _, rfl, h1.head, CBoard.cl, CBoard.n4, bF4 B _ _, _, rfl, _, rfl, _, rfl, _, rfl, _, C, _, _, _, rfl, h1.head, CBoard.cl, CBoard.n5, bF5 B _ _, _, rfl, _, _, _, _, rfl, rfl, SqL.of h1.tail.tail.tail.head, at_of (j := ch.key) rfl (by rw [List.getElem?_map, gl]; rfl), ⟨(by show 6 ≤ sizeLine; decide), fun tl htl => ?_⟩⟩
  have u2 := u1.old (o := .tup [V.str "change", .int ((cs.length : Int) + 1), .int ch.key, .str (wd ch.set), .int ch.worth, .int (lof cs ch.key)]) htl
  have h2 := u2.now hc
  have htl2 : (upd (upd (upd H t1 (.tup [V.str "set", .str "add"])) B.p (.ins C B.dx (bF B keep ((cs.length : Int) + 1)))) tl (.tup [V.str "change", .int ((cs.length : Int) + 1), .int ch.key, .str (wd ch.set), .int ch.worth, .int (lof cs ch.key)])) tl = some (HO.tup [V.str "change", .int ((cs.length : Int) + 1), .int ch.key, .str (wd ch.set), .int ch.worth, .int (lof cs ch.key)]) := upd_same
  -- self.now[key] = ..
  have ix1 : ∀ (g : List Int), g.length = nk → ixN (g.map V.int).length (ch.key : Int) = some ch.key := fun g e => ixN_nat (by rw [List.length_map, e]; exact hk)
  have ew : (wrow nk (cs ++ [ch])).map V.int = ((wrow nk cs).map V.int).set ch.key (.int (wst ch.key (wof cs ch.key) ch)) := by rw [wrow_snoc, List.map_set]
  have el : (lrow nk (cs ++ [ch])).map V.int = ((lrow nk cs).map V.int).set ch.key (.int ((cs.length + 1 : Nat) : Int)) := by rw [lrow_snoc, List.map_set]
  refine rd_mid (fun σ' H' => σ' = [some (.ref B.p), some (.int ch.key), some (.str (wd ch.set)), some (.int ch.worth), some (.ref tl)] ∧ H' = upd (upd (upd (upd H t1 (.tup [V.str "set", .str "add"])) B.p (.ins C B.dx (bF B keep ((cs.length : Int) + 1)))) tl (.tup [V.str "change", .int ((cs.length : Int) + 1), .int ch.key, .str (wd ch.set), .int ch.worth, .int (lof cs ch.key)])) B.l1 (.lst ((wrow nk (cs ++ [ch])).map V.int))) ?_ ?_
  · refine ⟨_, rfl, rfl, _, rfl, ite2 (fun hs => ?_) fun hs => ?_⟩
    · rw [wdS] at hs
      refine ⟨_, rfl, _, rfl, _, C, _, _, _, rfl, h2.head, CBoard.cl, CBoard.n1, bF1 B _ _, _, rfl, _, _, _, _, rfl, rfl, h2.tail.head, ix1 _ (wrow_len nk cs), rfl, ?_⟩
      exact congrArg (fun z => upd _ _ (HO.lst z)) (by rw [ew, wst, if_pos rfl, if_pos hs, Int.zero_add])
    · rw [wdS] at hs
      refine ⟨_, rfl, _, C, _, _, _, rfl, h2.head, CBoard.cl, CBoard.n1, bF1 B _ _, _, rfl, _, _, _, _, rfl, rfl, SqL.of h2.tail.head, at_of (j := ch.key) rfl (by rw [List.getElem?_map, gw]; rfl), _, rfl, _, _, rfl, rfl, ?_⟩
      refine ⟨_, rfl, _, C, _, _, _, rfl, h2.head, CBoard.cl, CBoard.n1, bF1 B _ _, _, rfl, _, _, _, _, rfl, rfl, h2.tail.head, ix1 _ (wrow_len nk cs), rfl, ?_⟩
      exact congrArg (fun z => upd _ _ (HO.lst z)) (by rw [ew, wst, if_pos rfl, if_neg hs])
  rintro _ _ ⟨rfl, rfl⟩
  have u3 := (u2.swap2.put (o' := .lst ((wrow nk (cs ++ [ch])).map V.int)) hc nl).swap2
  have h3 := u3.now hc
  -- self.last[key] = self.many
  refine ⟨_, rfl, _, C, _, _, _, rfl, h3.head, CBoard.cl, CBoard.n4, bF4 B _ _, _, rfl, _, C, _, _, _, rfl, h3.head, CBoard.cl, CBoard.n5, bF5 B _ _, _, rfl, _, _, _, _, rfl, rfl, h3.tail.tail.tail.head, ix1 _ (lrow_len nk cs), ?_⟩
  have u4 := ((u3.perm (List.reverse_perm _).symm).put (o' := .lst (((lrow nk cs).map V.int).set ch.key (.int ((cs.length : Int) + 1)))) hc nl).perm (List.reverse_perm _).symm
  have h4 := u4.now hc
  -- self.rows.append(letter)
  have hxs : xs.length ≤ 20 := by
    rw [rxs.length, List.length_map, tailL_len]
    omega
  refine ⟨_, rfl, _, C, _, _, _, rfl, h4.head, CBoard.cl, CBoard.n3, bF3 B _ _, .inl ⟨rfl, _, SqL.of h4.tail.tail.head⟩, _, rfl, _, _, _, rfl, rfl, h4.tail.tail.head, small1000 (by omega), ?_⟩
  have u5 := ((((u4.perm (List.reverse_perm _).symm).swap2.put (o' := .lst (xs ++ [.ref tl])) hc nl).swap2).perm (List.reverse_perm _).symm)
  have h5 := u5.now hc
  have m25 := ((h2.swap2.mono_put (o' := .lst ((wrow nk (cs ++ [ch])).map V.int))).trans ((h3.perm (List.reverse_perm _).symm).mono_put (o' := .lst (((lrow nk cs).map V.int).set ch.key (.int ((cs.length : Int) + 1)))))).trans ((h4.perm (List.reverse_perm _).symm).swap2.mono_put (o' := .lst (xs ++ [.ref tl])))
  have htl5 := m25 tl _ htl2 trivial
  have rl := Rp.tup (K := K) (ds := [.str "change", .int ((cs.length + 1 : Nat) : Int), .int ch.key, .str (wd ch.set), .int ch.worth, .int (lof cs ch.key)]) htl5 (by
    rw [← n1]
    exact .cons .str (.cons .int (.cons .int (.cons .str (.cons .int (.cons .int .nil))))))
  have rxs5 := (rxs.mono u5.mono).snoc rl
  have e5 : (tailL keep cs).map Letter.enc ++ [PyData.tuple [.str "change", .int ((cs.length + 1 : Nat) : Int), .int ch.key, .str (wd ch.set), .int ch.worth, .int (lof cs ch.key)]] = (tailL keep cs ++ [Letter.change (cs.length + 1) ch (lof cs ch.key)]).map Letter.enc := by
    rw [List.map_append]
    rfl
  rw [e5] at rxs5
  have hx5 : xs.length = min cs.length keep := by rw [rxs.length, List.length_map, tailL_len]
  have efin : ∀ (ys : List V) (H' : Hp), Tr H [(B.p, HO.ins C B.dx (bF B keep cs.length)), (B.l1, HO.lst ((wrow nk cs).map V.int)), (B.l2, HO.lst xs), (B.l3, HO.lst ((lrow nk cs).map V.int))] H'
      [(B.p, HO.ins C B.dx (bF B keep ((cs.length : Int) + 1))), (B.l1, HO.lst ((wrow nk (cs ++ [ch])).map V.int)), (B.l2, HO.lst ys), (B.l3, HO.lst (((lrow nk cs).map V.int).set ch.key (.int ((cs.length : Int) + 1))))] →
      RpL K H' ((tailL keep (cs ++ [ch])).map Letter.enc) ys → Rp K H' (Letter.change (cs.length + 1) ch (lof cs ch.key)).enc (.ref tl) → Q (.ref tl) H' := fun ys H' u q ql => by
    refine go _ _ H' ⟨ys, ?_, q⟩ u ql
    rw [n1, ← el, List.length_append]
    rfl
  refine rd_mid (fun σ' H' => σ' = [some (.ref B.p), some (.int ch.key), some (.str (wd ch.set)), some (.int ch.worth), some (.ref tl)] ∧ Q (.ref tl) H') ?_ ?_
  · refine ⟨_, rfl, _, C, _, _, _, rfl, h5.head, CBoard.cl, CBoard.n3, bF3 B _ _, _, _, rfl, .inl (SqL.of h5.tail.tail.head), _, rfl, _, C, _, _, _, rfl, h5.head, CBoard.cl, CBoard.n2, bF2 B _ _, _, _, rfl, rfl, _, rfl, ite2 (fun h0 => ?_) fun h0 => ?_⟩
    · have hgt := of_decide_eq_true h0
      rw [List.length_append, List.length_singleton] at hgt
      obtain ⟨y, ys, ey⟩ : ∃ y ys, xs ++ [V.ref tl] = y :: ys := by
        cases xs with
        | nil => exact ⟨_, _, rfl⟩
        | cons a b => exact ⟨_, _, rfl⟩
      refine ⟨_, rfl, _, C, _, _, _, rfl, h5.head, CBoard.cl, CBoard.n3, bF3 B _ _, .inl ⟨rfl, _, SqL.of h5.tail.tail.head⟩, B.l2, _, 0, 0, y, rfl, rfl, h5.tail.tail.head, by decide, by decide, (by rw [List.length_append, List.length_singleton]; simp [seqIndex?]), (by rw [ey]; rfl), rfl, ?_⟩
      have u6 := ((((u5.perm (List.reverse_perm _).symm).swap2.put (o' := .lst ((xs ++ [V.ref tl]).eraseIdx 0)) hc nl).swap2).perm (List.reverse_perm _).symm)
      have m6 := (h5.perm (List.reverse_perm _).symm).swap2.mono_put (o' := .lst ((xs ++ [V.ref tl]).eraseIdx 0))
      refine efin _ _ u6 ?_ (rl.mono m6)
      have ed : (xs ++ [V.ref tl]).drop 1 = (xs ++ [V.ref tl]).eraseIdx 0 := by rw [List.eraseIdx_zero, List.drop_one]
      have q := (rxs5.drop 1).mono m6
      rw [ed] at q
      rw [tailL_snoc, if_neg (by omega), List.map_drop]
      exact q
    · have hle : ¬ ((keep : Int) < ((xs ++ [V.ref tl]).length : Nat)) := fun q => h0 (decide_eq_true q)
      rw [List.length_append, List.length_singleton] at hle
      refine ⟨rfl, efin _ _ u5 ?_ rl⟩
      rw [tailL_snoc, if_pos (by omega)]
      exact rxs5
  rintro _ H9 ⟨rfl, q⟩
  exact ⟨_, rfl, q⟩
end
end Cu

namespace Cu
open PySem PySem.Spec PyProof.Rows L2
theorem bFno {B : BA} {a b : Int} {m : Str} (h : ((bF B a b).lookup m) = none := by rfl) : (bF B a b).lookup m = none := h
section
variable {K : PySem.W.Frag} {H : Hp} {C : Addr} {σ : L2.St} {Q : VK} {i : Nat} {B : BA} {nk keep : Nat} {cs : List Ch} {c : Lg}
theorem rd_bnumber (h1 : σ[i]? = some (some (.ref B.p))) (r : BR K C B nk keep cs H c) (hc : Has H c) (q : Q (.int cs.length) H) :
    tMeth C "number" (spBnumber K C) [] E0 (tVar i) tNil σ H Q := ⟨_, h1, B.p, _, _, rfl, r.at_p hc, bFno, rfl, B, nk, keep, cs, c, rfl, r, hc, q⟩
theorem rd_bworths (h1 : σ[i]? = some (some (.ref B.p))) (r : BR K C B nk keep cs H c) (hc : Has H c) (q : ∀ p H', Grow H H' → FzL K H' p ((wrow nk cs).map V.int) → Q (.ref p) H') :
    tFz (tMeth C "worths" (spBworths K C) [] E0 (tVar i) tNil) σ H Q :=
  rd_fz ⟨_, h1, B.p, _, _, rfl, r.at_p hc, bFno, rfl, B, nk, keep, cs, c, rfl, r, hc, fun _ _ t => ⟨_, _, rfl, t.own.head, fun _ => q _ _ (t.fz .nil) FzL.frz⟩⟩
theorem rd_blasts (h1 : σ[i]? = some (some (.ref B.p))) (r : BR K C B nk keep cs H c) (hc : Has H c) (q : ∀ p H', Grow H H' → FzL K H' p ((lrow nk cs).map V.int) → Q (.ref p) H') :
    tFz (tMeth C "lasts" (spBlasts K C) [] E0 (tVar i) tNil) σ H Q :=
  rd_fz ⟨_, h1, B.p, _, _, rfl, r.at_p hc, bFno, rfl, B, nk, keep, cs, c, rfl, r, hc, fun _ _ t => ⟨_, _, rfl, t.own.head, fun _ => q _ _ (t.fz .nil) FzL.frz⟩⟩
theorem rd_bbeat (h1 : σ[i]? = some (some (.ref B.p))) (r : BR K C B nk keep cs H c) (hc : Has H c) (q : ∀ v H', Grow H H' → Rp K H' (beatL nk cs cs.length).enc v → Q v H') :
    tMeth C "beat" (spBbeat K C) [] E0 (tVar i) tNil σ H Q := ⟨_, h1, B.p, _, _, rfl, r.at_p hc, bFno, rfl, B, nk, keep, cs, c, rfl, r, hc, q⟩
theorem rd_btail (h1 : σ[i]? = some (some (.ref B.p))) (r : BR K C B nk keep cs H c) (hc : Has H c) (q : ∀ p xs H', Grow H H' → FzL K H' p xs → RpL K H' ((tailL keep cs).map Letter.enc) xs → Q (.ref p) H') :
    tFz (tMeth C "tail" (spBtail K C) [] E0 (tVar i) tNil) σ H Q :=
  rd_fz ⟨_, h1, B.p, _, _, rfl, r.at_p hc, bFno, rfl, B, nk, keep, cs, c, rfl, r, hc, fun _ xs _ t rx => ⟨_, _, rfl, t.own.head, fun _ => q _ xs _ (t.fz .nil) FzL.frz (rx.mono t.own.mono_put)⟩⟩
end
end Cu

namespace Cu
open PySem PySem.Spec PyProof.Rows L2
abbrev s_made : Stmt := (top 33)
theorem sc_made : FnScope ["_law_keys", "_law_keep", "_law_changes_here", "_law_board", "_law_key", "_law_word", "_law_worth_here"] ["_law_keys", "_law_keep", "_law_changes_here"] (defScope s_made) := ⟨rfl, rfl, rfl, by decide +kernel, rfl, by decide +kernel, by decide +kernel⟩

def spMade (K : PySem.W.Frag) (C : Addr) : Sp := fun vs H Q _ => vs.length = 3 ∧ ∃ (nk keep : Nat) (cs : List Ch) (v : V), vs = [.int nk, .int keep, v] ∧ 0 < nk ∧ nk ≤ 8 ∧ keep ≤ 20 ∧ (∀ c ∈ cs, c.key < nk) ∧ Rp K H (.list (cs.map Ch.enc)) v ∧
  ∀ (B : BA) (c : Lg) (H' : Hp), BR K C B nk keep cs H' c → Tr H [] H' c → Q (.ref B.p) H'
theorem mk_trB {H : Hp} {x dx C : Addr} (h1 : H x = none) (h2 : H dx = none) (n : dx ≠ x) : Tr H [] (upd (upd H dx (.own x)) x (.ins C dx [])) [(x, .ins C dx [])] :=
  ((Tr.refl H []).old h2).new (by rw [upd_ne n.symm]; exact h1) nins
section
variable {P : Program} {w : World} {K : PySem.W.Frag} {mg : Str → Option Value} {base : Heap} {C : Addr}
theorem ok_made (F : Fd K mg "_law_made" s_made) (Bm : Blt mg) (CBoard : CBo K C) (k_Board : Kf P w K mg base 1 "Board" C ["self", "keys", "keep"] (spBinit K C)) (m_Board_change : Mf P w K mg base 1 C "change" ["self", "key", "word", "worth"] (spBchange K C)) :
    Gf P w K mg base 3 "_law_made" ["_law_keys", "_law_keep", "_law_changes_here"] (spMade K C) := by
  refine F.ok sc_made (fun _ _ _ _ _ _ us hl => match us, hl with | [_, _, _], _ => rfl) len_of fun qual f cdv A0 outer s H vs Q E hr h => ?_
  obtain ⟨_, nk, keep, cs, v, rfl, hk, hk8, hkp, hck, rv, go⟩ := h
  obtain ⟨al, xl, rfl, fl, rxl⟩ := rv.lst_inv
  have hxl : xl.length = cs.length := by rw [rxl.length, List.length_map]
  refine ⟨_, (pss_cons (ps_set (i := 3) sc_made.nd rfl (Or.inl rfl) (pk k_Board hr (pa_cons (pv 0) (pa_cons (pv 1) pa_nil))))
      (pss_cons (ps_for PassesOwn.never rfl (pi_list (pv 2)) (pg_tup rfl (pgs_cons (pg_name (i := 4) sc_made.nd rfl (Or.inl rfl)) (pgs_cons (pg_name (i := 5) sc_made.nd rfl (Or.inl rfl)) (pgs_cons (pg_name (i := 6) sc_made.nd rfl (Or.inl rfl)) pgs_nil))))
        (pss_one (ps_expr (pm (pv 3) CBoard.cl m_Board_change hr (pa_cons (pv 4) (pa_cons (pv 5) (pa_cons (pv 6) pa_nil)))))))
      (pss_one (ps_ret (pv 3))))), ?_⟩
  refine ⟨_, rfl, _, rfl, fun x1 dx1 hx1 hd1 hn1 => ?_⟩
  have t3 := mk_trB (C := C) hx1 hd1 hn1
  refine ⟨rfl, x1, dx1, nk, keep, rfl, hk, hk8, hkp, upd_same, fun B c1 H3 e1 R1 u3 => ⟨rfl, ?_⟩⟩
  subst e1
  have t4 := t3.trans u3
  refine ⟨_, rfl, al, rfl, ⟨_, (fl.mono t4.mono).sq⟩, for_list (K := K) (a := al) (xs := xl) (fun i σ H2 => ∃ (c : Lg) (v4 v5 v6 : Option V), σ = [some (.int nk), some (.int keep), some (.ref al), some (.ref B.p), v4, v5, v6] ∧ BR K C B nk keep (cs.take i) H2 c ∧ Tr H [] H2 c)
    ⟨c1, none, none, none, rfl, R1, t4⟩ (fun i σ H2 _ ⟨_, _, _, _, _, _, t⟩ => (fl.mono t.mono).sq) ?_ ?_⟩
  · rintro i x σ H2 hi ⟨c, v4, v5, v6, rfl, r, t⟩
    have hi' : i < cs.length := by
      have := (List.getElem?_eq_some_iff.mp hi).1
      omega
    obtain ⟨ch, ec⟩ : ∃ ch, cs[i]? = some ch := ⟨cs[i], List.getElem?_eq_getElem hi'⟩
    obtain ⟨u, eu, ru⟩ := (rxl.mono t.mono).get (i := i) (d := ch.enc) (by rw [List.getElem?_map, ec]; rfl)
    rw [hi] at eu
    cases eu
    obtain ⟨ac, rfl, hac⟩ := ru.ch_inv
    refine ⟨ac, _, rfl, SqT.of hac, rfl, _, _, rfl, _, _, rfl, _, _, rfl, rfl, ?_⟩
    refine ⟨_, rfl, B.p, _, _, rfl, r.at_p t.own, bFno, _, rfl, _, rfl, _, rfl, rfl, B, nk, keep, cs.take i, c, ch, rfl, r, t.own, hck ch (List.mem_of_getElem? ec), hk8, hkp, fun v c' H' r' t' _ => ?_⟩
    exact ⟨c', _, _, _, rfl, by rw [take_snoc ec]; exact r', t.trans t'⟩
  · rintro σ H2 ⟨c, v4, v5, v6, rfl, r, t⟩
    rw [List.take_of_length_le (by omega)] at r
    exact ⟨_, rfl, go B c H2 r t⟩
end
end Cu

namespace Cu
open PySem PySem.Spec PyProof.Rows L2
abbrev s_counts : Stmt := (top 26)
theorem sc_counts : FnScope ["_law_d", "_law_keys"] ["_law_d"] (defScope s_counts) := ⟨rfl, rfl, rfl, by decide +kernel, rfl, by decide +kernel, by decide +kernel⟩

def spCounts (K : PySem.W.Frag) : Sp := fun vs H Q _ => vs.length = 1 ∧ ∃ (a : Addr) (R : Lg), vs = [.ref a] ∧ Dice K H a R ∧
  ∀ (nk keep : Nat) (t : Addr) (H' : Hp), 0 < nk → nk ≤ 8 → keep ≤ 20 → Mono H H' → Dice K H' a R → H' t = some (.tup [.int nk, .int keep]) → Q (.ref t) H'
section
variable {P : Program} {w : World} {K : PySem.W.Frag} {mg : Str → Option Value} {base : Heap}
theorem ok_counts (F : Fd K mg "_law_counts" s_counts) (Bm : Blt mg) (g_next : Gf P w K mg base 1 "_law_next" ["_law_dice_here", "_law_many"] (spNext K)) : Gf P w K mg base 2 "_law_counts" ["_law_d"] (spCounts K) := by
  refine F.ok sc_counts (fun _ _ _ _ _ _ us hl => match us, hl with | [_], _ => rfl) len_of fun qual f cdv A outer s H vs Q E hr h => ?_
  obtain ⟨_, a, R, rfl, d, go⟩ := h
  refine ⟨_, (pss_cons (ps_set (i := 1) sc_counts.nd rfl (Or.inl rfl) (pe_ix ix_list (pe_lst (pa_cons (pe_op op_add pe_int (pc g_next hr (pa_cons (pv 0) (pa_cons pe_int pa_nil)))) (pa_cons (pe_op op_add pe_int (pc g_next hr (pa_cons (pv 0) (pa_cons pe_int pa_nil)))) pa_nil))) (pc g_next hr (pa_cons (pv 0) (pa_cons pe_int pa_nil))) (fun _ _ => rfl)))
      (pss_one (ps_ret (pe_tup (pa_cons (pv 1) (pa_cons (pe_ix ix_list (pe_lst (pa_cons (pc g_next hr (pa_cons (pv 0) (pa_cons pe_int pa_nil))) (pa_cons (pc g_next hr (pa_cons (pv 0) (pa_cons pe_int pa_nil))) pa_nil))) (pc g_next hr (pa_cons (pv 0) (pa_cons pe_int pa_nil))) (fun _ _ => rfl)) pa_nil)))))), ?_⟩
  refine ⟨_, rfl, rfl, a, 3, R, rfl, by decide, by decide, d, fun r1 H1 p1 q1 m1 d1 => ⟨_, _, rfl, rfl, ?_⟩⟩
  refine ⟨_, rfl, rfl, a, 8, R, rfl, by decide, by decide, d1, fun r2 H2 p2 q2 m2 d2 => ⟨_, _, rfl, rfl, ?_⟩⟩
  refine ⟨(by show 2 ≤ sizeLine; decide), fun l hl => ?_⟩
  refine ⟨_, rfl, rfl, a, 2, _, rfl, by decide, by decide, d2.new (o := .lst [.int (1 + r1), .int (1 + r2)]) hl nl, fun r3 H3 p3 q3 m3 d3 => ?_⟩
  obtain ⟨v, hv, hm⟩ := at_some (xs := [.int (1 + r1), .int (1 + r2)]) p3 q3
  obtain ⟨nk, rfl, hk, hk8⟩ : ∃ nk : Nat, v = V.int nk ∧ 0 < nk ∧ nk ≤ 8 := by
    simp only [List.mem_cons, List.not_mem_nil, or_false] at hm
    rcases hm with e | e
    · exact ⟨(1 + r1).toNat, by rw [e]; congr 1; omega, by omega, by omega⟩
    · exact ⟨(1 + r2).toNat, by rw [e]; congr 1; omega, by omega, by omega⟩
  refine ⟨l, _, _, _, rfl, rfl, SqL.of d3.at_, hv, ?_⟩
  have d4 := d3.tail
  refine ⟨_, rfl, _, rfl, rfl, a, 7, R, rfl, by decide, by decide, d4, fun r5 H5 p5 q5 m5 d5 => ?_⟩
  refine ⟨_, rfl, rfl, a, 21, R, rfl, by decide, by decide, d5, fun r6 H6 p6 q6 m6 d6 => ⟨(by show 2 ≤ sizeLine; decide), fun l2 hl2 => ?_⟩⟩
  refine ⟨_, rfl, rfl, a, 2, _, rfl, by decide, by decide, d6.new (o := .lst [.int r5, .int r6]) hl2 nl, fun r7 H7 p7 q7 m7 d7 => ?_⟩
  obtain ⟨v, hv, hm⟩ := at_some (xs := [.int r5, .int r6]) p7 q7
  obtain ⟨keep, rfl, hkp⟩ : ∃ keep : Nat, v = V.int keep ∧ keep ≤ 20 := by
    simp only [List.mem_cons, List.not_mem_nil, or_false] at hm
    rcases hm with e | e
    · exact ⟨r5.toNat, by rw [e]; congr 1; omega, by omega⟩
    · exact ⟨r6.toNat, by rw [e]; congr 1; omega, by omega⟩
  refine ⟨l2, _, _, _, rfl, rfl, SqL.of d7.at_, hv, ⟨(by show 2 ≤ sizeLine; decide), fun t ht => ?_⟩⟩
  exact go nk keep t _ hk hk8 hkp (((((((m1.trans m2).trans (Mono.new hl)).trans m3).trans m5).trans m6).trans (Mono.new hl2)).trans (m7.trans (Mono.new ht))) (d7.tail.old ht) upd_same
end
end Cu

namespace Cu
open PySem PySem.Spec PyProof.Rows L2
/-! min(t, u) of two tuples of ints -/
theorem tup_keeps {h h' : Heap} {p : Addr} {its : Array Value} (t : IsTup h p its) (k : ∀ b o, h.get? b = some o → h'.get? b = some o) : IsTup h' p its := by
  obtain ⟨o, ho, q⟩ := t
  exact ⟨o, k _ _ ho, q⟩
theorem min_pair {prog : Program} {w : World} {A : Around} {E : Value → Shared → Prop} {s : Shared} {p q : Addr} {i1 i2 : Array Value} {ns ms : List Int} {Q : Value → Shared → Prop} (hh : A.handled = none) (hp : IsTup s.heap p i1) (hq : IsTup s.heap q i2) (n1 : IntsAre i1.toList ns) (n2 : IntsAre i2.toList ms) (hu : A.units + 1 < cLine)
    (h : ∀ h' tk, (∀ c o, s.heap.get? c = some o → h'.get? c = some o) → Q (if HT.lexLt ms ns = true then .ref q else .ref p) { s with heap := h', toks := tk }) : wpAny (model prog w) A (call (.builtin "min") [.ref p, .ref q]) Q E s := by
  have nm : (toString "min" ++ toString ".loop" : String) = "min.loop" := by decide
  refine call_function_tree F.kind_min F.plain_min F.entry_min (F.args_min2 _ _) ?_; show wpAny _ A.in1 (Builtin.Builtins.bindParams "min" ["key", "default"] 0 ⟨[], []⟩ >>= _) _ _ s
  refine wpAny_bind (wpAny_of_eq (show Builtin.Builtins.bindParams "min" ["key", "default"] 0 ⟨[], []⟩ = pure [none, none] from rfl) ?_); show wpAny _ A.in1 (newTuple [.ref p, .ref q] >>= _) _ _ s
  refine wpAny_bind (wpAny_newObj_type (wpAny_bind (PySem.W.iter_tupleW (A := A.in1) (vs := #[.ref p, .ref q]) hh ⟨_, Heap.get?_push_size _ rfl, rfl, 0, rfl⟩ fun s2 e W st hfp hw hk => wpAny_bind (wpAny_newObj_type ?_))))
  have fr : s2.heap.objs.size ∉ [(s.heap.push { cls := .type "tuple", data := .seq #[.ref p, .ref q] }).objs.size, s.heap.objs.size] := fun hm => Nat.lt_irrefl _ (hfp _ hm)
  have k1 : ∀ b o, s.heap.get? b = some o → (s.heap.push { cls := .type "tuple", data := .seq #[.ref p, .ref q] }).get? b = some o := fun b o e => Heap.get?_push_of_some _ e
  have cmp : CmpIn prog w A.in1 .Lt (s.heap.push { cls := .type "tuple", data := .seq #[.ref p, .ref q] }) (fun i v => #[Value.ref p, .ref q][i]? = some v) (fun i j => HT.lexLt (if i = 0 then ns else ms) (if j = 0 then ns else ms)) := fun i j vi vj s' Q' E' hk' hi hj hq' => by
    have two : ∀ {i : Nat} {v : Value}, #[Value.ref p, .ref q][i]? = some v → ∃ r its, v = .ref r ∧ IsTup s'.heap r its ∧ IntsAre its.toList (if i = 0 then ns else ms) := fun {i v} hv => by
      match i, hv with
      | 0, hv => exact ⟨p, i1, by simpa using hv.symm, tup_keeps (tup_keeps hp k1) hk', n1⟩
      | 1, hv => exact ⟨q, i2, by simpa using hv.symm, tup_keeps (tup_keeps hq k1) hk', n2⟩
      | k + 2, hv => simp at hv
    obtain ⟨r, its, rfl, t1, t2⟩ := two hi
    obtain ⟨r', its', rfl, t3, t4⟩ := two hj
    exact HT.lt_tupInts t1 t3 t2 t4 (by show A.units + 1 < cLine; exact hu) hq'
  rw [nm]; refine wpAny_pure ⟨plainId_quiet F.plain_min_loop _, codeAny_min_loop_firstH W (s.heap.push { cls := .type "tuple", data := .seq #[.ref p, .ref q] }) hw _ cmp s2.heap.objs.size fr (fresh_in hk) _ (by show 0 < 2; decide) (fun b o e => Heap.get?_push_of_some _ (hk b o e)) (W.frame 0 s2 _ s2.toks st (Nat.le_refl _) fun b _ o e => Heap.get?_push_of_some _ e) (Heap.get?_push_size _ rfl) fun v s' hP hm => ?_⟩
  obtain ⟨h', tk, rfl, hk'⟩ := PySem.W.moved_old e rfl (Moved.drop_new (tk := s2.toks) hm (Nat.le_refl _))
  have hv : v = if HT.lexLt ms ns = true then Value.ref q else Value.ref p := by
    cases hc : HT.lexLt ms ns <;> simp [argBest, hc] at hP <;> simp [hP]
  rw [hv]
  exact h h' tk fun c o e => hk' c o (k1 c o e)
def rMin2T (K : PySem.W.Frag) : List V → Hp → VK → Prop := fun vs H Q => ∃ (p q : Addr) (i j i' j' : Int), vs = [.ref p, .ref q] ∧ SqT K H p [.int i, .int j] ∧ SqT K H q [.int i', .int j'] ∧ Q (if i' < i ∨ (i' = i ∧ j' < j) then .ref q else .ref p) H
theorem lex2 (i j i' j' : Int) : HT.lexLt [i', j'] [i, j] = decide (i' < i ∨ (i' = i ∧ j' < j)) := by
  rw [HT.lexLt_cons, HT.lexLt_cons, HT.lexLt_nil_nil]
  by_cases h1 : i' = i
  · by_cases h2 : j' = j
    · subst h1 h2
      simp
    · rw [if_pos h1, if_neg h2]
      subst h1
      simp
  · rw [if_neg h1]
    simp [h1]
theorem call_min2T {X : Cx} (hc : X.calm = true) (hu : X.A.units + 64 < cLine) : CallR X (.builtin "min") (rMin2T X.K) := by
  intro pins s σ H vs us Q I r h
  obtain ⟨p, q, i, j, i', j', rfl, hp, hq, go⟩ := h
  obtain ⟨u, w', rfl, r1, r2⟩ := vals2 r
  cases r1
  cases r2
  obtain ⟨t1, v1, p1, _⟩ := I.tuple hp
  obtain ⟨t2, v2, p2, _⟩ := I.tuple hq
  refine min_pair (I.ok.hd hc) p1 p2 (intsAre_of (ns := [i, j]) v1) (intsAre_of (ns := [i', j']) v2) (by omega) fun h' tk k => ⟨_, H, I.kept k, ?_, go⟩
  rw [lex2]
  by_cases z : i' < i ∨ (i' = i ∧ j' < j)
  · rw [if_pos z, if_pos (decide_eq_true z)]
    rfl
  · rw [if_neg z, if_neg (by rw [decide_eq_false z]; decide)]
    rfl
end Cu

namespace Cu
open PySem PySem.Spec PyProof.Rows L2
/-! what brings a key up; the least weights -/
def Letter.keyOf : Letter → Nat
  | .change _ c _ => c.key
  | _ => 0
def Letter.numOf : Letter → Nat
  | .change n _ _ => n
  | .part n _ _ => n
  | .beat n _ => n
def Letter.isSet : Letter → Bool
  | .change _ c _ => c.set
  | _ => false
def Letter.ahd : Letter → Nat
  | .change _ _ a => a
  | _ => 0
def Letter.wt : Letter → Nat
  | .part _ _ rows => 2 + rows.length
  | _ => 1
def wtL (ls : List Letter) : Nat := (ls.map Letter.wt).sum
theorem wtL_app (a b : List Letter) : wtL (a ++ b) = wtL a + wtL b := by simp [wtL]
def someL (keep : Nat) (cs : List Ch) (u : Int) (k : Nat) : List Letter := (tailL keep cs).filter fun l => decide (l.keyOf = k) && decide (u < (l.numOf : Int))
def setsL (ls : List Letter) : List Nat := (List.range ls.length).filter fun i => (ls[i]?.map Letter.isSet) == some true
def firstOk (sm : List Letter) (u : Int) : Bool := match sm with
  | [] => false
  | l :: _ => decide ((l.ahd : Int) ≤ u)
def wantS (sm : List Letter) (u : Int) : Option (List Letter) := match (setsL sm).getLast? with
  | some i => some (sm.drop i)
  | none => if firstOk sm u = true then some sm else none
theorem wantS_set {sm : List Letter} {u : Int} {ini : List Nat} {i : Nat} (e : setsL sm = ini ++ [i]) : wantS sm u = some (sm.drop i) := by
  unfold wantS
  rw [e]
  simp
theorem wantS_no {sm : List Letter} {u : Int} (e : setsL sm = []) : wantS sm u = if firstOk sm u = true then some sm else none := by
  unfold wantS
  rw [e]
  rfl
def wantL (keep : Nat) (cs : List Ch) (u : Int) (k : Nat) : Option (List Letter) := if (lof cs k : Int) ≤ u then some [] else wantS (someL keep cs u k) u
def costL (keep : Nat) (cs : List Ch) (ns : List Int) (k : Nat) : Option Nat := (wantL keep cs (ns.getD k 0) k).map List.length
def mn (p q : Int × Int) : Int × Int := if q.1 < p.1 ∨ (q.1 = p.1 ∧ q.2 < p.2) then q else p
def up1 (b : Option (Int × Int)) (q : Int × Int) : Int × Int := match b with
  | none => q
  | some p => mn p q
def moreK (F : List Int) (key b : Nat) : Int × Int := (F.getD b 0 + 2 + key + 1 - b, b)
def bestU (F : List Int) (key : Nat) (c : Option Nat) : Nat → Option (Int × Int)
  | 0 => c.map fun n => (F.getD key 0 + n, (0 : Int) - key - 1)
  | b + 1 => some (up1 (bestU F key c b) (moreK F key b))
def bestK (F : List Int) (key : Nat) (c : Option Nat) : Int × Int := up1 (bestU F key c key) (moreK F key key)
theorem bestU_all (F : List Int) (key : Nat) (c : Option Nat) : bestU F key c (key + 1) = some (bestK F key c) := rfl
def lev (cost : Nat → Option Nat) : Nat → List Int × List Int
  | 0 => ([0], [0])
  | k + 1 => ((lev cost k).1 ++ [(bestK (lev cost k).1 k (cost k)).1], (lev cost k).2 ++ [(bestK (lev cost k).1 k (cost k)).2])
theorem lev_len (cost : Nat → Option Nat) (n : Nat) : (lev cost n).1.length = n + 1 ∧ (lev cost n).2.length = n + 1 := by
  induction n with
  | zero => exact ⟨rfl, rfl⟩
  | succ n ih =>
    refine ⟨?_, ?_⟩
    · show ((lev cost n).1 ++ [_]).length = _
      rw [List.length_append, ih.1]
      rfl
    · show ((lev cost n).2 ++ [_]).length = _
      rw [List.length_append, ih.2]
      rfl
/-- the least weight for the keys ahead of e -/
def lwt (cost : Nat → Option Nat) (e : Nat) : Int := (lev cost e).1.getD e 0
def lbg (cost : Nat → Option Nat) (e : Nat) : Int := (lev cost e).2.getD e 0
theorem getD_last {xs : List Int} {x : Int} {n : Nat} (h : xs.length = n) : (xs ++ [x]).getD n 0 = x := by
  subst h
  simp
theorem getD_left {xs ys : List Int} {n : Nat} (h : n < xs.length) : (xs ++ ys).getD n 0 = xs.getD n 0 := by
  simp [List.getD_eq_getElem?_getD, List.getElem?_append_left h]
theorem lev_get (cost : Nat → Option Nat) {e n : Nat} (h : e ≤ n) : (lev cost n).1.getD e 0 = lwt cost e ∧ (lev cost n).2.getD e 0 = lbg cost e := by
  induction n with
  | zero =>
    have : e = 0 := by omega
    subst this
    exact ⟨rfl, rfl⟩
  | succ n ih =>
    by_cases q : e = n + 1
    · subst q
      exact ⟨rfl, rfl⟩
    · have hl := lev_len cost n
      obtain ⟨i1, i2⟩ := ih (by omega)
      refine ⟨?_, ?_⟩
      · show ((lev cost n).1 ++ [_]).getD e 0 = _
        rw [getD_left (by omega), i1]
      · show ((lev cost n).2 ++ [_]).getD e 0 = _
        rw [getD_left (by omega), i2]
theorem lwt_succ (cost : Nat → Option Nat) (k : Nat) : lwt cost (k + 1) = (bestK (lev cost k).1 k (cost k)).1 ∧ lbg cost (k + 1) = (bestK (lev cost k).1 k (cost k)).2 :=
  ⟨getD_last (lev_len cost k).1, getD_last (lev_len cost k).2⟩
theorem mn_le (p q : Int × Int) : (mn p q).1 ≤ p.1 ∧ (mn p q).1 ≤ q.1 ∧ (mn p q = p ∨ mn p q = q) := by
  unfold mn
  split
  · rename_i h
    exact ⟨by omega, Int.le_refl _, .inr rfl⟩
  · rename_i h
    exact ⟨Int.le_refl _, by omega, .inl rfl⟩
/-- what may be the best -/
def Cand (cost : Nat → Option Nat) (k b : Nat) (p : Int × Int) : Prop := (∃ n, cost k = some n ∧ p = (lwt cost k + n, (0 : Int) - k - 1)) ∨ ∃ j, j < b ∧ p = (lwt cost j + 2 + k + 1 - j, (j : Int))
theorem bestU_ok (cost : Nat → Option Nat) (k : Nat) : ∀ b, b ≤ k + 1 → match bestU (lev cost k).1 k (cost k) b with
    | none => b = 0 ∧ cost k = none
    | some p => Cand cost k b p ∧ (∀ n, cost k = some n → p.1 ≤ lwt cost k + n) ∧ ∀ j, j < b → p.1 ≤ lwt cost j + 2 + k + 1 - j := fun b => by
  induction b with
  | zero =>
    intro _
    cases hc : cost k with
    | none => exact ⟨rfl, rfl⟩
    | some n =>
      show Cand cost k 0 ((lev cost k).1.getD k 0 + n, (0 : Int) - k - 1) ∧ _
      rw [(lev_get cost (Nat.le_refl k)).1]
      refine ⟨.inl ⟨n, hc, rfl⟩, fun m hm => ?_, fun j h => absurd h (Nat.not_lt_zero j)⟩
      cases hm
      exact Int.le_refl _
  | succ b ih =>
    intro hb
    have ih := ih (by omega)
    have em : moreK (lev cost k).1 k b = (lwt cost b + 2 + k + 1 - b, (b : Int)) := by
      unfold moreK
      rw [(lev_get cost (show b ≤ k by omega)).1]
    have lift : ∀ {p}, Cand cost k b p → Cand cost k (b + 1) p := fun h => by
      rcases h with h | ⟨j, h1, h2⟩
      · exact .inl h
      · exact .inr ⟨j, by omega, h2⟩
    cases hu : bestU (lev cost k).1 k (cost k) b with
    | none =>
      rw [hu] at ih
      have e : bestU (lev cost k).1 k (cost k) (b + 1) = some (moreK (lev cost k).1 k b) := by
        show some (up1 (bestU (lev cost k).1 k (cost k) b) _) = _
        rw [hu]
        rfl
      rw [e, em]
      refine ⟨.inr ⟨b, Nat.lt_succ_self b, rfl⟩, fun n hn => ?_, fun j hj => ?_⟩
      · rw [ih.2] at hn
        cases hn
      · have : j = b := by omega
        subst this
        exact Int.le_refl _
    | some p =>
      rw [hu] at ih
      have e : bestU (lev cost k).1 k (cost k) (b + 1) = some (mn p (moreK (lev cost k).1 k b)) := by
        show some (up1 (bestU (lev cost k).1 k (cost k) b) _) = _
        rw [hu]
        rfl
      rw [e]
      obtain ⟨m1, m2, m3⟩ := mn_le p (moreK (lev cost k).1 k b)
      rw [em] at m1 m2 m3 ⊢
      obtain ⟨c1, c2, c3⟩ := ih
      refine ⟨?_, fun n hn => Int.le_trans m1 (c2 n hn), fun j hj => ?_⟩
      · rcases m3 with m3 | m3
        · rw [m3]
          exact lift c1
        · rw [m3]
          exact .inr ⟨b, Nat.lt_succ_self b, rfl⟩
      · by_cases q : j = b
        · subst q
          exact m2
        · exact Int.le_trans m1 (c3 j (by omega))
theorem lev_ok (cost : Nat → Option Nat) (k : Nat) : Cand cost k (k + 1) (lwt cost (k + 1), lbg cost (k + 1)) ∧ (∀ n, cost k = some n → lwt cost (k + 1) ≤ lwt cost k + n) ∧ ∀ j, j ≤ k → lwt cost (k + 1) ≤ lwt cost j + 2 + k + 1 - j := by
  have h := bestU_ok cost k (k + 1) (Nat.le_refl _)
  rw [bestU_all] at h
  obtain ⟨h1, h2, h3⟩ := h
  rw [(lwt_succ cost k).1, (lwt_succ cost k).2]
  exact ⟨h1, h2, fun j hj => h3 j (by omega)⟩
theorem lwt_zero (cost : Nat → Option Nat) : lwt cost 0 = 0 := rfl
theorem lwt_nonneg (cost : Nat → Option Nat) : ∀ e, 0 ≤ lwt cost e := fun e => by
  have : ∀ n e, e ≤ n → 0 ≤ lwt cost e := fun n => by
    induction n with
    | zero =>
      intro e he
      have : e = 0 := by omega
      subst this
      exact Int.le_refl _
    | succ n ih =>
      intro e he
      cases e with
      | zero => exact Int.le_refl _
      | succ k =>
        rcases (lev_ok cost k).1 with ⟨m, _, h⟩ | ⟨j, hj, h⟩
        · have h1 : lwt cost (k + 1) = lwt cost k + m := congrArg Prod.fst h
          have := ih k (by omega)
          omega
        · have h1 : lwt cost (k + 1) = lwt cost j + 2 + k + 1 - j := congrArg Prod.fst h
          have := ih j (by omega)
          omega
  exact this e e (Nat.le_refl _)
/-- letters that bring up the keys ahead of e -/
inductive Brings (keep : Nat) (cs : List Ch) (ns : List Int) : Nat → List Letter → Prop
  | nil : Brings keep cs ns 0 []
  | want {e : Nat} {ls w : List Letter} : Brings keep cs ns e ls → wantL keep cs (ns.getD e 0) e = some w → Brings keep cs ns (e + 1) (ls ++ w)
  | part {b e : Nat} {ls : List Letter} : Brings keep cs ns b ls → b < e → Brings keep cs ns e (ls ++ [partL cs cs.length b e])
theorem filter_sub_mem {α : Type} {p : α → Bool} {xs : List α} {x : α} (h : x ∈ xs.filter p) : x ∈ xs := (List.mem_filter.mp h).1
theorem lets_mem {cs : List Ch} {l : Letter} (h : l ∈ lets cs) : ∃ m c, cs[m]? = some c ∧ l = .change (m + 1) c (lof (cs.take m) c.key) := by
  obtain ⟨m, hm⟩ := List.getElem?_of_mem h
  have hl := (List.getElem?_eq_some_iff.mp hm).1
  rw [lets_length] at hl
  refine ⟨m, cs[m], List.getElem?_eq_getElem hl, ?_⟩
  rw [lets_get (List.getElem?_eq_getElem hl)] at hm
  exact (Option.some.inj hm).symm
theorem tailL_mem {keep : Nat} {cs : List Ch} {l : Letter} (h : l ∈ tailL keep cs) : ∃ m c, cs[m]? = some c ∧ l = .change (m + 1) c (lof (cs.take m) c.key) := lets_mem (List.mem_of_mem_drop h)
theorem wantS_mem {sm : List Letter} {u : Int} {w : List Letter} (h : wantS sm u = some w) : ∀ l ∈ w, l ∈ sm := by
  rcases List.eq_nil_or_concat (setsL sm) with es | ⟨ini, i, es⟩
  · rw [wantS_no es] at h
    split at h
    · cases h
      exact fun _ q => q
    · cases h
  · rw [List.concat_eq_append] at es
    rw [wantS_set es] at h
    cases h
    exact fun l hl => List.mem_of_mem_drop hl
theorem wantL_mem {keep : Nat} {cs : List Ch} {u : Int} {k : Nat} {w : List Letter} (h : wantL keep cs u k = some w) : ∀ l ∈ w, l ∈ someL keep cs u k := by
  unfold wantL at h
  split at h
  · cases h
    exact fun _ q => (nomatch q)
  · exact wantS_mem h
theorem wantS_len {sm : List Letter} {u : Int} {w : List Letter} (h : wantS sm u = some w) : w.length ≤ sm.length := by
  rcases List.eq_nil_or_concat (setsL sm) with es | ⟨ini, i, es⟩
  · rw [wantS_no es] at h
    split at h
    · cases h
      exact Nat.le_refl _
    · cases h
  · rw [List.concat_eq_append] at es
    rw [wantS_set es] at h
    cases h
    rw [List.length_drop]
    omega
theorem wtL_chg : ∀ {w : List Letter}, (∀ l ∈ w, l.wt = 1) → wtL w = w.length
  | [], _ => rfl
  | l :: w, h => by
    have ih := wtL_chg (w := w) fun x hx => h x (List.mem_cons_of_mem _ hx)
    have h1 := h l List.mem_cons_self
    show (l.wt :: w.map Letter.wt).sum = _
    rw [List.sum_cons, h1, show (w.map Letter.wt).sum = w.length from ih, List.length_cons]
    omega
theorem wantL_wt {keep : Nat} {cs : List Ch} {u : Int} {k : Nat} {w : List Letter} (h : wantL keep cs u k = some w) : wtL w = w.length := wtL_chg fun l hl => by
  obtain ⟨m, c, _, rfl⟩ := tailL_mem (filter_sub_mem (wantL_mem h l hl))
  rfl
theorem partL_wt (cs : List Ch) (n b e : Nat) : (partL cs n b e).wt = 2 + (e - b) := by
  show 2 + (partRows cs n b (e - b)).length = _
  rw [partRows, List.length_map, List.length_range]
theorem Brings.least {keep : Nat} {cs : List Ch} {ns : List Int} {e : Nat} {ls : List Letter} (h : Brings keep cs ns e ls) : lwt (costL keep cs ns) e ≤ wtL ls := by
  induction h with
  | nil => exact Int.le_refl _
  | @want e ls w _ hw ih =>
    rw [wtL_app, wantL_wt hw]
    have := (lev_ok (costL keep cs ns) e).2.1 w.length (by rw [costL, hw]; rfl)
    omega
  | @part b e ls _ hbe ih =>
    rw [wtL_app]
    have h1 : wtL [partL cs cs.length b e] = 2 + (e - b) := by
      show (partL cs cs.length b e).wt + 0 = _
      rw [partL_wt]
      rfl
    rw [h1]
    obtain ⟨k, rfl⟩ : ∃ k, e = k + 1 := ⟨e - 1, by omega⟩
    have := (lev_ok (costL keep cs ns) k).2.2 b (by omega)
    omega
/-- numbers that may be known of a board -/
structure Kn (nk : Nat) (cs : List Ch) (ns : List Int) : Prop where
  len : ns.length = nk
  bd : ∀ n ∈ ns, -1 ≤ n ∧ n ≤ cs.length
end Cu

namespace Cu
open PySem PySem.Spec PyProof.Rows L2
abbrev s_wanted : Stmt := (top 11)
theorem sc_wanted : FnScope ["board", "known", "key", "some", "sets", "letter", "at"] ["board", "known", "key"] (defScope s_wanted) := ⟨rfl, rfl, rfl, by decide +kernel, rfl, by decide +kernel, by decide +kernel⟩

/-- a list that stays as long as nothing that is owned is written -/
def StL (K : PySem.W.Frag) (H : Hp) (a : Addr) (xs : List V) : Prop := ∀ (H' : Hp) (O : Lg), Tr H [] H' O → SqL K H' a xs
section
variable {K : PySem.W.Frag} {H H' : Hp} {a : Addr} {xs : List V} {O c : Lg}
theorem StL.tr (s : StL K H a xs) (t : Tr H [] H' O) : StL K H' a xs := fun H2 O2 t2 => s H2 (O2 ++ O) (t.trans (by simpa using t2.right (D := O)))
theorem StL.sq (s : StL K H a xs) : SqL K H a xs := s H [] (Tr.refl H [])
theorem StL.fz (f : FzL K H a xs) : StL K H a xs := fun _ _ t => (f.mono t.mono).sq
theorem StL.has (h : Has H c) (m : (a, HO.lst xs) ∈ c) : StL K H a xs := fun _ _ t => SqL.of ((t.has c h).right.mem m)
end
theorem getD_at {ns : List Int} {k : Nat} (h : k < ns.length) : atI (ns.map V.int) (k : Int) = some (V.int (ns.getD k 0)) :=
  at_of (j := k) rfl (by rw [List.getElem?_map, List.getElem?_eq_getElem h, List.getD_eq_getElem?_getD, List.getElem?_eq_getElem h]; rfl)
def spWanted (K : PySem.W.Frag) (CB : Addr) : Sp := fun vs H Q _ => vs.length = 3 ∧ ∃ (B : BA) (nk keep : Nat) (cs : List Ch) (c : Lg) (kn : Addr) (ns : List Int) (k : Nat), vs = [.ref B.p, .ref kn, .int k] ∧ BR K CB B nk keep cs H c ∧ Has H c ∧ StL K H kn (ns.map V.int) ∧ ns.length = nk ∧ k < nk ∧ keep ≤ 20 ∧
  (wantL keep cs (ns.getD k 0) k = none → ∀ H', Grow H H' → Q .non H') ∧
  (∀ w, wantL keep cs (ns.getD k 0) k = some w → ∀ (r : Addr) (xs : List V) (H' : Hp), Tr H [] H' [(r, .lst xs)] → RpL K H' (w.map Letter.enc) xs → Q (.ref r) H')
theorem someL_len (keep : Nat) (cs : List Ch) (u : Int) (k : Nat) : (someL keep cs u k).length ≤ keep := by
  have h1 : (someL keep cs u k).length ≤ (tailL keep cs).length := List.length_filter_le _ _
  rw [tailL_len] at h1
  omega
section
variable {P : Program} {w : World} {K : PySem.W.Frag} {mg : Str → Option Value} {base : Heap} {CB : Addr}
theorem ok_wanted (F : Fd K mg "wanted" s_wanted) (Bm : Blt mg) (CBoard : CBo K CB) (m_Board_lasts : Mf P w K mg base 1 CB "lasts" ["self"] (spBlasts K CB)) (m_Board_tail : Mf P w K mg base 1 CB "tail" ["self"] (spBtail K CB)) :
    Gf P w K mg base 2 "wanted" ["board", "known", "key"] (spWanted K CB) := by
  refine F.ok sc_wanted (fun _ _ _ _ _ _ us hl => match us, hl with | [_, _, _], _ => rfl) len_of fun qual f cdv A0 outer s H vs Q E hr h => ?_
  obtain ⟨_, B, nk, keep, cs, c, kn, ns, k, rfl, r, hc, st, hlen, hk, hkp, gN, gS⟩ := h
  refine ⟨_, (pss_cons (ps_if (pt_cmpR op_le (pe_ix ix_list (pe_fz (pm0 (pv 0) CBoard.cl m_Board_lasts hr)) (pv 2) (fun _ _ => rfl)) (pe_ix ix_list (pv 1) (pv 2) (fun _ _ => rfl)) (nomark _))
        (pss_one (ps_ret (pe_lst pa_nil)))
        pss_nil)
      (pss_cons (ps_set (i := 3) sc_wanted.nd rfl (Or.inr rfl) (pe_lc (own := [("letter", 5)]) (g := (gName 5)) rfl sc_wanted.nd (pi_list (pe_fz (pm0 (pv 0) CBoard.cl m_Board_tail hr))) (blkOk_by (N := ["board", "known", "key", "some", "sets", "letter", "at"]) (sc := defScope s_wanted) (by decide +kernel)) (fun _ _ _ _ _ => (pg_name (i := 5) sc_wanted.nd rfl (Or.inl rfl))) (fun _ _ _ _ _ => (pts_one (PW.pt (pw_and (pt_cmpR op_eq (pe_ix (ix_tupK K rfl) (pv 5) pe_int (fun _ _ => rfl)) (pv 2) (nomark _)) (pw_and1 (pt_cmpR op_gt (pe_ix (ix_tupK K rfl) (pv 5) pe_int (fun _ _ => rfl)) (pe_ix (ix_listK K rfl) (pv 1) (pv 2) (fun _ _ => rfl)) (nomark _))))))) (fun _ _ _ _ _ => (pv 5))))
      (pss_cons (ps_setLc (i := 4) (own := [("at", 6)]) (g := (gName 6)) rfl sc_wanted.nd rfl rfl (sw_true rfl rfl rfl (by decide +kernel)) (pi_range1 rfl Bm.range (pa_cons (pe_callB call_len_seq rfl Bm.len (by decide +kernel) (pa_cons (pv 3) pa_nil)) pa_nil)) (blkOk_by (N := ["board", "known", "key", "some", "sets", "letter", "at"]) (sc := defScope s_wanted) (by decide +kernel)) (fun _ _ _ _ _ => (pg_name (i := 6) sc_wanted.nd rfl (Or.inl rfl))) (fun _ _ _ _ _ => (pts_one (pt_cmpR op_eq (pe_ix (ix_tupK K rfl) (pe_ix (ix_listK K rfl) (pv 3) (pv 6) (fun _ _ => rfl)) pe_int (fun _ _ => rfl)) pe_str (nomark _)))) (fun _ _ _ _ _ => (pv 6)))
      (pss_cons (ps_if (pt_cmpR (op_neD hr.units) (pv 4) (pe_lst pa_nil) (nomark _))
        (pss_one (ps_ret (pe_slice sl_list (pv 3) (po_some (pe_ix ix_list (pv 4) (pe_un un_neg pe_int) (fun _ _ => rfl))) po_none)))
        pss_nil)
      (pss_one (ps_ret (pe_ifExp (PW.pt (pw_and (pt_cmpR (op_neD hr.units) (pv 3) (pe_lst pa_nil) (nomark _)) (pw_and1 (pt_cmpR op_le (pe_ix ix_tup (pe_ix ix_list (pv 3) pe_int (fun _ _ => rfl)) pe_int (fun _ _ => rfl)) (pe_ix ix_list (pv 1) (pv 2) (fun _ _ => rfl)) (nomark _))))) (pv 3) pe_non))))))), ?_⟩
  have hat := getD_at (ns := ns) (k := k) (by omega)
  generalize eu : ns.getD k 0 = u at hat gN gS
  have z0 : 0 ≤ sizeLine := by decide
  have up : ∀ {H2 : Hp} {O : Lg}, Tr H [] H2 O → Has H2 c ∧ BR K CB B nk keep cs H2 c ∧ SqL K H2 kn (ns.map V.int) := fun t => ⟨(t.has c hc).right, r.mono t.mono, (st.tr t).sq⟩
  refine rd_blasts (by rfl) r hc fun p1 H1 g1 f1 => ?_
  refine ⟨_, rfl, p1, _, _, _, rfl, rfl, f1.sq, at_of (j := k) rfl (by rw [List.getElem?_map, lrow_get hk]; rfl), _, rfl, _, rfl, kn, _, _, _, rfl, rfl, (up g1).2.2, hat, _, _, rfl, rfl, _, rfl, ite2 (fun h0 => ?_) fun h0 => ?_⟩
  · refine ⟨z0, fun l hl => gS [] ?_ l [] _ (Tr.new g1 hl nl) .nil⟩
    unfold wantL
    rw [if_pos (of_decide_eq_true h0)]
  have h0' := ndec h0
  refine rd_btail (by rfl) (up g1).2.1 (up g1).1 fun p2 xs2 H2 g2 f2 rx2 => ?_
  have g12 := g1.trans g2
  have hx2 : xs2.length = (tailL keep cs).length := by rw [rx2.length, List.length_map]
  refine ⟨p2, rfl, ⟨_, f2.sq⟩, fun D hD => ?_⟩
  refine lc_list (K := K) (a := p2) (xs := xs2) (fun i H3 => ∃ ys, Tr H [] H3 [(D, .lst ys)] ∧ Mono H2 H3 ∧ RpL K H3 ((((tailL keep cs).take i).filter fun l => decide (l.keyOf = k) && decide (u < (l.numOf : Int))).map Letter.enc) ys)
    ⟨[], g12.new hD nl, Mono.new hD, .nil⟩ (fun i H3 _ ⟨_, _, m, _⟩ => (f2.mono m).sq) ?_ ?_
  · rintro i x H3 hi ⟨ys, t3, m3, ry⟩
    have hi' : i < (tailL keep cs).length := by
      have := (List.getElem?_eq_some_iff.mp hi).1
      omega
    obtain ⟨l, el⟩ : ∃ l, (tailL keep cs)[i]? = some l := ⟨(tailL keep cs)[i], List.getElem?_eq_getElem hi'⟩
    obtain ⟨x', ex, rx⟩ := (rx2.mono m3).get (i := i) (d := l.enc) (by rw [List.getElem?_map, el]; rfl)
    rw [hi] at ex
    cases ex
    obtain ⟨m, ch, _, rfl⟩ := tailL_mem (List.mem_of_getElem? el)
    obtain ⟨a, rfl, ha⟩ := rx.chg_inv
    have hy : ys.length ≤ 20 := by
      rw [ry.length, List.length_map]
      refine Nat.le_trans (List.length_filter_le _ _) ?_
      have := tailL_len keep cs
      rw [List.length_take]
      omega
    have no : (decide ((Letter.change (m + 1) ch (lof (cs.take m) ch.key)).keyOf = k) && decide (u < ((Letter.change (m + 1) ch (lof (cs.take m) ch.key)).numOf : Int))) = false → ∃ ys, Tr H [] H3 [(D, .lst ys)] ∧ Mono H2 H3 ∧ RpL K H3 ((((tailL keep cs).take (i + 1)).filter fun l => decide (l.keyOf = k) && decide (u < (l.numOf : Int))).map Letter.enc) ys := fun q => by
      refine ⟨ys, t3, m3, ?_⟩
      rw [take_snoc el, List.filter_append, List.filter_cons_of_neg (by rw [q]; decide), List.filter_nil, List.append_nil]
      exact ry
    have hu3 := (up t3).2.2
    refine ⟨rfl, _, rfl, a, _, _, _, rfl, rfl, SqT.of ha, rfl, _, rfl, rfl, _, rfl, ite2 (fun h1 => ?_) fun h1 => ?_⟩
    · have h1' : ch.key = k := by
        have := of_decide_eq_true h1
        injection this with q
        omega
      refine ⟨_, rfl, a, _, _, _, rfl, rfl, SqT.of ha, rfl, _, rfl, _, rfl, kn, _, _, _, rfl, rfl, hu3, hat, _, _, rfl, rfl, _, rfl, ite2 (fun h2 => ?_) fun h2 => ?_⟩
      · have h2' := of_decide_eq_true h2
        refine ⟨_, rfl, ys, t3.own.head, small1000 (by omega), ys ++ [.ref a], t3.put .nil nl, m3.trans t3.own.mono_put, ?_⟩
        have q : (decide ((Letter.change (m + 1) ch (lof (cs.take m) ch.key)).keyOf = k) && decide (u < ((Letter.change (m + 1) ch (lof (cs.take m) ch.key)).numOf : Int))) = true := by
          rw [Bool.and_eq_true]
          exact ⟨decide_eq_true h1', decide_eq_true h2'⟩
        have e1 : List.filter (fun l => decide (l.keyOf = k) && decide (u < (l.numOf : Int))) [Letter.change (m + 1) ch (lof (cs.take m) ch.key)] = [Letter.change (m + 1) ch (lof (cs.take m) ch.key)] := List.filter_cons_of_pos (l := []) q
        rw [take_snoc el, List.filter_append, e1, List.map_append]
        exact (ry.snoc rx).mono t3.own.mono_put
      · refine no ?_
        rw [Bool.and_eq_false_iff]
        exact .inr (decide_eq_false (ndec h2))
    · refine iteM (by decide) (no ?_)
      rw [Bool.and_eq_false_iff]
      exact .inl (decide_eq_false fun q => h1 (decide_eq_true (by show V.int (ch.key : Int) = V.int (k : Int); rw [show ch.key = k from q])))
  rintro H3 ⟨ys, t3, m3, ry⟩
  rw [List.take_of_length_le (by omega)] at ry
  change RpL K H3 ((someL keep cs u k).map Letter.enc) ys at ry
  have hsl := someL_len keep cs u k
  have hall : ∀ l ∈ someL keep cs u k, ∃ m c, cs[m]? = some c ∧ l = .change (m + 1) c (lof (cs.take m) c.key) := fun l hl => tailL_mem (filter_sub_mem hl)
  have hw : wantL keep cs u k = wantS (someL keep cs u k) u := by
    unfold wantL
    rw [if_neg h0']
  generalize someL keep cs u k = sm at *
  have hy : ys.length = sm.length := by rw [ry.length, List.length_map]
  -- sets
  refine ⟨_, rfl, D, ys, rfl, .inl (SqL.of t3.own.head), _, rfl, by omega, by omega, fun D2 hD2 => ?_⟩
  refine lc_range (lo := 0) (n := (ys.length : Int).toNat) (fun i H4 => Tr H [] H4 [(D2, .lst ((((List.range i).filter fun i => (sm[i]?.map Letter.isSet) == some true).map fun (i : Nat) => (i : Int)).map V.int)), (D, .lst ys)] ∧ Mono H3 H4)
    ⟨t3.new hD2 nl, Mono.new hD2⟩ ?_ ?_
  · rintro i H4 hi ⟨t4, m4⟩
    have hi' : i < sm.length := by omega
    obtain ⟨l, el⟩ : ∃ l, sm[i]? = some l := ⟨sm[i], List.getElem?_eq_getElem hi'⟩
    obtain ⟨y, ey, rl⟩ := (ry.mono m4).get (i := i) (d := l.enc) (by rw [List.getElem?_map, el]; rfl)
    obtain ⟨m, ch, _, rfl⟩ := hall l (List.mem_of_getElem? el)
    obtain ⟨a, rfl, ha⟩ := rl.chg_inv
    have ez : ((0 : Int) + i) = (i : Int) := by omega
    refine ⟨rfl, _, rfl, _, rfl, D, _, _, _, rfl, rfl, SqL.of t4.own.tail.head, at_of (j := i) ez ey, a, _, _, _, rfl, rfl, SqT.of ha, rfl, rfl, _, rfl, ?_⟩
    rw [wdS]
    have es : ((sm[i]?.map Letter.isSet) == some true) = ch.set := by
      rw [el]
      show (some ch.set == some true) = ch.set
      cases ch.set <;> rfl
    refine ite2 (fun h1 => ?_) fun h1 => ?_
    · refine ⟨_, rfl, _, t4.own.head, ?_, ?_, m4.trans t4.own.mono_put⟩
      · rw [List.length_map, List.length_map]
        refine Nat.lt_of_le_of_lt (List.length_filter_le _ _) ?_
        rw [List.length_range]
        exact small1000 (by omega)
      · have := t4.put (o' := .lst (((((List.range i).filter fun i => (sm[i]?.map Letter.isSet) == some true).map fun (i : Nat) => (i : Int)).map V.int) ++ [V.int ((0 : Int) + i)])) .nil nl
        rw [List.range_succ, List.filter_append, List.filter_cons_of_pos (by rw [es]; exact h1), List.filter_nil, List.map_append, List.map_append]
        rw [ez] at this ⊢
        exact this
    · refine ⟨?_, m4⟩
      rw [List.range_succ, List.filter_append, List.filter_cons_of_neg (by rw [es]; exact h1), List.filter_nil, List.append_nil]
      exact t4
  rintro H4 ⟨t4, m4⟩
  have e4 : ((List.range (ys.length : Int).toNat).filter fun i => (sm[i]?.map Letter.isSet) == some true) = setsL sm := by
    rw [Int.toNat_natCast, hy]
    rfl
  rw [e4] at t4
  have ry4 := ry.mono m4
  refine ⟨_, rfl, z0, fun e0 he0 => ?_⟩
  have t5 := t4.old (o := .lst []) he0
  have me := Mono.new (o := .lst []) he0
  refine ⟨ilst ((setsL sm).map fun (i : Nat) => (i : Int)), .list [], Dp.ints' t5.own.head, Dp.nil upd_same, (Gd.ilst (n := 0) _).shaped, (Gd.nil (n := 0)).shaped, _, rfl, ?_⟩
  rw [ilst, eqv_nil]
  have ry5 := ry4.mono me
  generalize hH5 : upd H4 e0 (.lst []) = H5 at t5 ry5
  rcases List.eq_nil_or_concat (setsL sm) with es | ⟨ini, i, es⟩
  · rw [wantS_no es] at hw
    rw [es]
    refine iteM (by decide) ?_
    -- some if some != [] and ..
    refine ⟨_, rfl, z0, fun e1 he1 => ?_⟩
    have t6 := t5.old (o := .lst []) he1
    have ry6 := ry5.mono (Mono.new (o := .lst []) he1)
    refine ⟨.list (sm.map Letter.enc), .list [], .lst (SqL.of t6.own.tail.head) ry6.dp, Dp.nil upd_same, (Gd.letters sm).shaped, (Gd.nil (n := 0)).shaped, _, rfl, ?_⟩
    rw [eqv_nil]
    cases sm with
    | nil =>
      have hw : wantL keep cs u k = none := hw
      refine iteM (by decide) ?_
      exact iteM (by decide) (gN hw _ (t6.sub (List.nil_sublist _)))
    | cons l ls =>
      refine iteP (by rfl) ?_
      obtain ⟨y, ey, rl⟩ := ry6.get (i := 0) (d := l.enc) rfl
      obtain ⟨m, ch, _, rfl⟩ := hall l List.mem_cons_self
      obtain ⟨a, rfl, ha⟩ := rl.chg_inv
      refine ⟨_, rfl, D, _, _, _, rfl, rfl, SqL.of t6.own.tail.head, at_of (j := 0) rfl ey, a, _, _, _, rfl, rfl, SqT.of ha, rfl, _, rfl, _, rfl, kn, _, _, _, rfl, rfl, (up t6).2.2, hat, _, _, rfl, rfl, _, rfl, ite2 (fun h1 => ?_) fun h1 => ?_⟩
      · have h1' := of_decide_eq_true h1
        rw [if_pos (show firstOk (Letter.change (m + 1) ch (lof (cs.take m) ch.key) :: ls) u = true from decide_eq_true h1')] at hw
        exact ⟨_, rfl, gS _ hw D ys _ t6.tail ry6⟩
      · have h1' := ndec h1
        rw [if_neg (show ¬ firstOk (Letter.change (m + 1) ch (lof (cs.take m) ch.key) :: ls) u = true from fun q => h1' (of_decide_eq_true q))] at hw
        exact gN hw _ (t6.sub (List.nil_sublist _))
  · have es : setsL sm = ini ++ [i] := by rw [es, List.concat_eq_append]
    rw [wantS_set es] at hw
    rw [es] at t5 ⊢
    have hil : i < sm.length := by
      have : i ∈ setsL sm := by rw [es]; simp
      have := (List.mem_filter.mp this).1
      exact List.mem_range.mp this
    refine iteP (by simp) ?_
    refine ⟨_, rfl, _, rfl, _, rfl, D2, _, _, _, rfl, rfl, SqL.of t5.own.head, (by rw [List.map_append, List.map_append]; exact atI_last _ _), _, rfl, D, ys, rfl, SqL.of t5.own.tail.head, fun p6 hp6 => ?_⟩
    rw [cutV_from (by omega)]
    refine gS _ hw p6 _ _ ((t5.new hp6 nl).sub (List.Sublist.cons_cons _ (List.nil_sublist _))) ?_
    rw [List.map_drop]
    exact (ry5.drop i).mono (Mono.new hp6)
end
end Cu

namespace Cu
open PySem PySem.Spec PyProof.Rows L2
abbrev s_Board_size : Stmt := (inClass (top 20) 1)
theorem sc_Board_size : FnScope ["self"] ["self"] (defScope s_Board_size) := ⟨rfl, rfl, rfl, by decide +kernel, rfl, by decide +kernel, by decide +kernel⟩

def spBsize (K : PySem.W.Frag) (C : Addr) : Sp := fun vs H Q _ => vs.length = 1 ∧ ∃ (B : BA) (nk keep : Nat) (cs : List Ch) (c : Lg), vs = [.ref B.p] ∧ BR K C B nk keep cs H c ∧ Has H c ∧ Q (.int nk) H
theorem rd_bsize {K : PySem.W.Frag} {H : Hp} {C : Addr} {σ : L2.St} {Q : VK} {i : Nat} {B : BA} {nk keep : Nat} {cs : List Ch} {c : Lg} (h1 : σ[i]? = some (some (.ref B.p))) (r : BR K C B nk keep cs H c) (hc : Has H c) (q : Q (.int nk) H) :
    tMeth C "size" (spBsize K C) [] E0 (tVar i) tNil σ H Q := ⟨_, h1, B.p, _, _, rfl, r.at_p hc, bFno, rfl, B, nk, keep, cs, c, rfl, r, hc, q⟩
section
variable {P : Program} {w : World} {K : PySem.W.Frag} {mg : Str → Option Value} {base : Heap} {C : Addr}
theorem ok_Bsize (F : Md K C "size" "Board.size" s_Board_size) (Bm : Blt mg) (CBoard : CBo K C) : Mf P w K mg base 1 C "size" ["self"] (spBsize K C) := by
  refine F.ok sc_Board_size (fun _ _ _ _ _ _ us hl => match us, hl with | [_], _ => rfl) len_of fun qual f cdv A0 outer s H vs Q E hr h => ?_
  obtain ⟨_, B, nk, keep, cs, c, rfl, r, hc, go⟩ := h
  refine ⟨_, (pss_one (ps_ret (pe_callB call_len_seq rfl Bm.len (by decide +kernel) (pa_cons (pe_fld (pv 0) rfl) pa_nil)))), ?_⟩
  have e : (((wrow nk cs).map V.int).length : Int) = (nk : Int) := by rw [List.length_map, wrow_len]
  refine ⟨_, rfl, _, C, _, _, _, rfl, r.at_p hc, CBoard.cl, CBoard.n1, bF1 B _ _, _, _, rfl, .inl (SqL.of (r.at1 hc)), ?_⟩
  rw [e]
  exact go
end
end Cu

namespace Cu
open PySem PySem.Spec PyProof.Rows L2
abbrev s_need_known : Stmt := (top 10)
theorem sc_need_known : FnScope ["board", "known", "key"] ["board", "known"] (defScope s_need_known) := ⟨rfl, rfl, rfl, by decide +kernel, rfl, by decide +kernel, by decide +kernel⟩

def spNeed (K : PySem.W.Frag) (CB : Addr) : Sp := fun vs H Q _ => vs.length = 2 ∧ ∃ (B : BA) (nk keep : Nat) (cs : List Ch) (c : Lg) (kn : Addr) (ns : List Int), vs = [.ref B.p, .ref kn] ∧ BR K CB B nk keep cs H c ∧ Has H c ∧ SqL K H kn (ns.map V.int) ∧ Kn nk cs ns ∧ nk ≤ 8 ∧ Q .non H
theorem getD_mem {ns : List Int} {k : Nat} (h : k < ns.length) : ns.getD k 0 ∈ ns := by
  rw [List.getD_eq_getElem?_getD, List.getElem?_eq_getElem h]
  exact List.getElem_mem h
section
variable {P : Program} {w : World} {K : PySem.W.Frag} {mg : Str → Option Value} {base : Heap} {CB : Addr}
theorem ok_need_known (F : Fd K mg "need_known" s_need_known) (Bm : Blt mg) (CBoard : CBo K CB) (m_Board_size : Mf P w K mg base 1 CB "size" ["self"] (spBsize K CB)) (m_Board_number : Mf P w K mg base 1 CB "number" ["self"] (spBnumber K CB)) :
    Gf P w K mg base 2 "need_known" ["board", "known"] (spNeed K CB) := by
  refine F.ok sc_need_known (fun _ _ _ _ _ _ us hl => match us, hl with | [_, _], _ => rfl) len_of fun qual f cdv A0 outer s H vs Q E hr h => ?_
  obtain ⟨_, B, nk, keep, cs, c, kn, ns, rfl, r, hc, hs, ⟨hlen, hb⟩, h8, go⟩ := h
  refine ⟨_, (pss_cons (ps_for PassesOwn.never rfl (pi_range1 rfl Bm.range (pa_cons (pm0 (pv 0) CBoard.cl m_Board_size hr) pa_nil)) (pg_name (i := 2) sc_need_known.nd rfl (Or.inl rfl))
        (pss_one (ps_if (PW.pt (pw_or (pt_cmpR op_ge (pv 2) (pe_callB call_len_seq rfl Bm.len (by decide +kernel) (pa_cons (pv 1) pa_nil)) (nomark _)) (pw_or1 (pt_not (pt_chain op_le op_le (pe_un un_neg pe_int) (pe_ix ix_list (pv 1) (pv 2) (fun _ _ => rfl)) (pm0 (pv 0) CBoard.cl m_Board_number hr))))))
          (pss_one ps_never)
          pss_nil)))
      (pss_one (ps_if (pt_cmpR op_gt (pe_callB call_len_seq rfl Bm.len (by decide +kernel) (pa_cons (pv 1) pa_nil)) (pm0 (pv 0) CBoard.cl m_Board_size hr) (nomark _))
        (pss_one ps_never)
        pss_nil))), ?_⟩
  refine rd_bsize (by rfl) r hc ⟨_, rfl, by omega, by omega, for_range (lo := 0) (n := (nk : Int).toNat) (fun i σ H' => ∃ v, σ = [some (.ref B.p), some (.ref kn), v] ∧ H' = H) ⟨none, rfl, rfl⟩ ?_ ?_⟩
  · rintro i σ H' hi ⟨v, rfl, rfl⟩
    have hi' : i < ns.length := by omega
    have ez : ((0 : Int) + i) = (i : Int) := by omega
    have hat := getD_at hi'
    have hbd := hb _ (getD_mem hi')
    refine ⟨_, rfl, _, rfl, kn, _, rfl, .inl hs, _, _, rfl, rfl, _, rfl, iteM (by rw [List.length_map]; simp; omega) ?_⟩
    refine ⟨_, rfl, _, rfl, _, rfl, kn, _, _, _, rfl, rfl, hs, (by rw [← ez] at hat; exact hat), _, _, rfl, rfl, _, rfl, iteP (decide_eq_true hbd.1) ?_⟩
    refine rd_bnumber (by rfl) r hc ⟨_, _, rfl, rfl, _, rfl, ?_⟩
    exact iteM (by simp; exact hbd.2) ⟨_, rfl, rfl⟩
  · rintro σ H' ⟨v, rfl, rfl⟩
    refine ⟨_, rfl, kn, _, rfl, .inl hs, ?_⟩
    refine rd_bsize (by rfl) r hc ⟨_, _, rfl, rfl, _, rfl, ?_⟩
    exact iteM (by rw [List.length_map]; simp; omega) go
end
end Cu

namespace Cu
open PySem PySem.Spec PyProof.Rows L2
abbrev s_levels : Stmt := (top 12)
theorem sc_levels : FnScope ["board", "known", "found", "begins", "key", "some", "best", "begin", "more"] ["board", "known"] (defScope s_levels) := ⟨rfl, rfl, rfl, by decide +kernel, rfl, by decide +kernel, by decide +kernel⟩

def spLevels (K : PySem.W.Frag) (CB : Addr) : Sp := fun vs H Q _ => vs.length = 2 ∧ ∃ (B : BA) (nk keep : Nat) (cs : List Ch) (c : Lg) (kn : Addr) (ns : List Int), vs = [.ref B.p, .ref kn] ∧ BR K CB B nk keep cs H c ∧ Has H c ∧ StL K H kn (ns.map V.int) ∧ ns.length = nk ∧ nk ≤ 8 ∧ keep ≤ 20 ∧
  ∀ (t p q : Addr) (H' : Hp), Tr H [] H' [(q, .lst ((lev (costL keep cs ns) nk).2.map V.int)), (p, .lst ((lev (costL keep cs ns) nk).1.map V.int))] → H' t = some (.tup [.ref p, .ref q]) → Q (.ref t) H'
/-- what is best so far -/
def BestV (H : Hp) : Option (Int × Int) → V → Prop
  | none, v => v = .non
  | some x, v => ∃ t, v = .ref t ∧ H t = some (.tup [.int x.1, .int x.2])
theorem BestV.mono {H H' : Hp} (m : Mono H H') : ∀ {o : Option (Int × Int)} {v : V}, BestV H o v → BestV H' o v
  | none, _, h => h
  | some _, _, ⟨t, e, h⟩ => ⟨t, e, m _ _ h trivial⟩
theorem lev_at {cost : Nat → Option Nat} {i b : Nat} (h : b ≤ i) {z : Int} (ez : z = b) : atI ((lev cost i).1.map V.int) z = some (V.int ((lev cost i).1.getD b 0)) := by
  have hl := (lev_len cost i).1
  subst ez
  exact getD_at (by omega)
section
variable {P : Program} {w : World} {K : PySem.W.Frag} {mg : Str → Option Value} {base : Heap} {CB : Addr}
theorem ok_levels {tk : Tok} (F : Fd K mg "levels" s_levels) (Bm : Blt mg) (CBoard : CBo K CB) (km_PART : mg "PART" = some (.int 2 tk)) (m_Board_size : Mf P w K mg base 1 CB "size" ["self"] (spBsize K CB)) (g_wanted : Gf P w K mg base 2 "wanted" ["board", "known", "key"] (spWanted K CB)) :
    Gf P w K mg base 3 "levels" ["board", "known"] (spLevels K CB) := by
  refine F.ok sc_levels (fun _ _ _ _ _ _ us hl => match us, hl with | [_, _], _ => rfl) len_of fun qual f cdv A0 outer s H vs Q E hr h => ?_
  obtain ⟨_, B, nk, keep, cs, c, kn, ns, rfl, r, hc, st, hlen, h8, hkp, go⟩ := h
  refine ⟨_, (pss_cons (ps_set (i := 2) sc_levels.nd rfl (Or.inl rfl) (pe_lst (pa_cons pe_int pa_nil)))
      (pss_cons (ps_set (i := 3) sc_levels.nd rfl (Or.inl rfl) (pe_lst (pa_cons pe_int pa_nil)))
      (pss_cons (ps_for PassesOwn.never rfl (pi_range1 rfl Bm.range (pa_cons (pm0 (pv 0) CBoard.cl m_Board_size hr) pa_nil)) (pg_name (i := 4) sc_levels.nd rfl (Or.inl rfl))
        (pss_cons (ps_mid (ps_set (i := 5) sc_levels.nd rfl (Or.inl rfl) (pc g_wanted hr (pa_cons (pv 0) (pa_cons (pv 1) (pa_cons (pv 4) pa_nil))))))
        (pss_cons (ps_set (i := 6) sc_levels.nd rfl (Or.inl rfl) pe_non)
        (pss_cons (ps_mid (ps_if (pt_cmpR op_notN (pv 5) pe_non (nomark _))
          (pss_one (ps_set (i := 6) sc_levels.nd rfl (Or.inl rfl) (pe_tup (pa_cons (pe_op op_add (pe_ix ix_list (pv 2) (pv 4) (fun _ _ => rfl)) (pe_callB call_len_seq rfl Bm.len (by decide +kernel) (pa_cons (pv 5) pa_nil))) (pa_cons (pe_op op_sub (pe_op op_sub pe_int (pv 4)) pe_int) pa_nil)))))
          pss_nil))
        (pss_cons (ps_for PassesOwn.never rfl (pi_range1 rfl Bm.range (pa_cons (pe_op op_add (pv 4) pe_int) pa_nil)) (pg_name (i := 7) sc_levels.nd rfl (Or.inl rfl))
          (pss_cons (ps_set (i := 8) sc_levels.nd rfl (Or.inl rfl) (pe_tup (pa_cons (pe_op op_sub (pe_op op_add (pe_op op_add (pe_op op_add (pe_ix ix_list (pv 2) (pv 7) (fun _ _ => rfl)) (pe_glob (v := .int 2) rfl km_PART ⟨_, rfl⟩)) (pv 4)) pe_int) (pv 7)) (pa_cons (pv 7) pa_nil))))
          (pss_one (ps_mid (ps_set (i := 6) sc_levels.nd rfl (Or.inl rfl) (pe_ifExp (pt_cmpR op_isN (pv 6) pe_non (nomark _)) (pv 8) (pe_callB (call_min2T rfl hr.units) rfl Bm.min (by decide +kernel) (pa_cons (pv 6) (pa_cons (pv 8) pa_nil)))))))))
        (pss_cons (ps_expr (pe_bm PySem.F.plainAttrs_list PySem.F.slot_list_append PySem.F.type_list_append mt_append (pv 2) (pa_cons (pe_ix ix_tup (pv 6) pe_int (fun _ _ => rfl)) pa_nil)))
        (pss_one (ps_expr (pe_bm PySem.F.plainAttrs_list PySem.F.slot_list_append PySem.F.type_list_append mt_append (pv 3) (pa_cons (pe_ix ix_tup (pv 6) pe_int (fun _ _ => rfl)) pa_nil))))))))))
      (pss_one (ps_ret (pe_tup (pa_cons (pv 2) (pa_cons (pv 3) pa_nil)))))))), ?_⟩
  have up : ∀ {H2 : Hp} {O : Lg}, Tr H [] H2 O → Has H2 c ∧ BR K CB B nk keep cs H2 c ∧ StL K H2 kn (ns.map V.int) := fun t => ⟨(t.has c hc).right, r.mono t.mono, st.tr t⟩
  generalize ec : costL keep cs ns = cost at go
  refine ⟨(by show 1 ≤ sizeLine; decide), fun p hp => ⟨(by show 1 ≤ sizeLine; decide), fun q hq => ?_⟩⟩
  have t1 := ((Tr.refl H []).new (o := .lst [.int 0]) hp nl).new (o := .lst [.int 0]) hq nl
  refine rd_bsize (by rfl) (up t1).2.1 (up t1).1 ⟨_, rfl, by omega, by omega, for_range (lo := 0) (n := (nk : Int).toNat) (fun i σ H' => ∃ v4 v5 v6 v7 v8, σ = [some (.ref B.p), some (.ref kn), some (.ref p), some (.ref q), v4, v5, v6, v7, v8] ∧
      Tr H [] H' [(q, .lst ((lev cost i).2.map V.int)), (p, .lst ((lev cost i).1.map V.int))]) ⟨none, none, none, none, none, rfl, t1⟩ ?_ ?_⟩
  · rintro i σ H2 hi ⟨v4, v5, v6, v7, v8, rfl, t2⟩
    have hi' : i < nk := by omega
    have ez : ((0 : Int) + i) = (i : Int) := by omega
    have ecost : cost i = (wantL keep cs (ns.getD i 0) i).map List.length := by rw [← ec]; rfl
    -- some = wanted(board, known, key)
    refine rd_mid (fun σ H3 => ∃ v5, σ = [some (.ref B.p), some (.ref kn), some (.ref p), some (.ref q), some (.int (0 + i)), some v5, v6, v7, v8] ∧ Tr H [] H3 [(q, .lst ((lev cost i).2.map V.int)), (p, .lst ((lev cost i).1.map V.int))] ∧
        ((cost i = none ∧ v5 = .non) ∨ ∃ n r xs, cost i = some n ∧ v5 = .ref r ∧ H3 r = some (.lst xs) ∧ xs.length = n)) ?_ ?_
    · refine ⟨_, rfl, _, rfl, _, rfl, rfl, B, nk, keep, cs, c, kn, ns, i, (by rw [ez]; rfl), (up t2).2.1, (up t2).1, (up t2).2.2, hlen, hi', hkp, fun hw H3 g3 => ?_, fun w hw rr xs H3 t3 rx => ?_⟩
      · exact ⟨_, rfl, t2.grow g3, .inl ⟨by rw [ecost, hw]; rfl, rfl⟩⟩
      · have t4 := t2.trans (by simpa using t3.right (D := [(q, HO.lst ((lev cost i).2.map V.int)), (p, HO.lst ((lev cost i).1.map V.int))]))
        exact ⟨_, rfl, t4.tail, .inr ⟨w.length, rr, xs, by rw [ecost, hw]; rfl, rfl, t4.own.head, by rw [rx.length, List.length_map]⟩⟩
    rintro σ H3 ⟨v5, rfl, t3, h3⟩
    -- best = None; if some is not None
    refine rd_mid (fun σ H4 => ∃ v6, σ = [some (.ref B.p), some (.ref kn), some (.ref p), some (.ref q), some (.int (0 + i)), some v5, some v6, v7, v8] ∧ Tr H [] H4 [(q, .lst ((lev cost i).2.map V.int)), (p, .lst ((lev cost i).1.map V.int))] ∧ BestV H4 (bestU (lev cost i).1 i (cost i) 0) v6) ?_ ?_
    · rcases h3 with ⟨hc0, rfl⟩ | ⟨n, rr, xs, hc0, rfl, hr3, hxn⟩
      · refine ⟨_, rfl, rfl, _, rfl, iteM (by decide) ?_⟩
        refine ⟨_, rfl, t3, ?_⟩
        rw [hc0]
        rfl
      · refine ⟨_, rfl, rfl, _, rfl, iteP (by rfl) ?_⟩
        refine ⟨_, rfl, _, rfl, p, _, _, _, rfl, rfl, SqL.of t3.own.tail.head, lev_at (Nat.le_refl i) ez, _, rfl, rr, xs, rfl, .inl (SqL.of hr3), _, _, rfl, rfl, _, rfl, _, _, rfl, rfl, _, _, rfl, rfl, (by show 2 ≤ sizeLine; decide), fun t ht => ?_⟩
        refine ⟨_, rfl, t3.old ht, ?_⟩
        rw [hc0]
        refine ⟨t, rfl, ?_⟩
        rw [hxn, ez]
        exact upd_same
    rintro σ H4 ⟨v6, rfl, t4, h4⟩
    -- for begin in range(key + 1)
    refine ⟨_, rfl, _, _, rfl, rfl, _, rfl, by omega, by omega, for_range (lo := 0) (n := ((0 : Int) + i + 1).toNat) (fun j σ H5 => ∃ v6 v7 v8, σ = [some (.ref B.p), some (.ref kn), some (.ref p), some (.ref q), some (.int (0 + i)), some v5, some v6, v7, v8] ∧
        Tr H [] H5 [(q, .lst ((lev cost i).2.map V.int)), (p, .lst ((lev cost i).1.map V.int))] ∧ BestV H5 (bestU (lev cost i).1 i (cost i) j) v6) ⟨v6, v7, v8, rfl, t4, h4⟩ ?_ ?_⟩
    · rintro j σ H5 hj ⟨v6, v7, v8, rfl, t5, h5⟩
      have hj' : j ≤ i := by omega
      have ezj : ((0 : Int) + j) = (j : Int) := by omega
      refine ⟨_, rfl, _, rfl, p, _, _, _, rfl, rfl, SqL.of t5.own.tail.head, lev_at hj' ezj, _, _, rfl, rfl, _, rfl, _, _, rfl, rfl, _, _, rfl, rfl, _, rfl, _, _, rfl, rfl, _, rfl, (by show 2 ≤ sizeLine; decide), fun t ht => ?_⟩
      have t6 := t5.old (o := .tup [.int ((lev cost i).1.getD j 0 + 2 + (0 + i) + 1 - (0 + j)), .int (0 + j)]) ht
      have m6 := Mono.new (o := .tup [.int ((lev cost i).1.getD j 0 + 2 + (0 + i) + 1 - (0 + j)), .int (0 + j)]) ht
      have ht6 : (upd H5 t (.tup [.int ((lev cost i).1.getD j 0 + 2 + (0 + i) + 1 - (0 + j)), .int (0 + j)])) t = some (HO.tup [.int (moreK (lev cost i).1 i j).1, .int (moreK (lev cost i).1 i j).2]) := by
        rw [ez, ezj]
        exact upd_same
      have h6 := h5.mono m6
      refine rd_mid (fun σ H7 => ∃ v6, σ = [some (.ref B.p), some (.ref kn), some (.ref p), some (.ref q), some (.int (0 + i)), some v5, some v6, some (.int (0 + j)), some (.ref t)] ∧
          Tr H [] H7 [(q, .lst ((lev cost i).2.map V.int)), (p, .lst ((lev cost i).1.map V.int))] ∧ BestV H7 (bestU (lev cost i).1 i (cost i) (j + 1)) v6) ?_ ?_
      · have eb : bestU (lev cost i).1 i (cost i) (j + 1) = some (up1 (bestU (lev cost i).1 i (cost i) j) (moreK (lev cost i).1 i j)) := rfl
        rw [eb]
        cases hb : bestU (lev cost i).1 i (cost i) j with
        | none =>
          rw [hb] at h6
          cases h6
          exact ⟨_, rfl, rfl, _, rfl, iteP (by rfl) ⟨_, rfl, _, rfl, t6, t, rfl, ht6⟩⟩
        | some x =>
          rw [hb] at h6
          obtain ⟨t7, rfl, ht7⟩ := h6
          refine ⟨_, rfl, rfl, _, rfl, iteM (fun z => nomatch (of_decide_eq_true z)) ?_⟩
          refine ⟨_, rfl, _, rfl, t7, t, x.1, x.2, (moreK (lev cost i).1 i j).1, (moreK (lev cost i).1 i j).2, rfl, SqT.of ht7, SqT.of ht6, ?_⟩
          refine ⟨_, rfl, t6, ?_⟩
          show BestV _ (some (mn x (moreK (lev cost i).1 i j))) _
          unfold mn
          by_cases z : (moreK (lev cost i).1 i j).1 < x.1 ∨ ((moreK (lev cost i).1 i j).1 = x.1 ∧ (moreK (lev cost i).1 i j).2 < x.2)
          · rw [if_pos z, if_pos z]
            exact ⟨t, rfl, ht6⟩
          · rw [if_neg z, if_neg z]
            exact ⟨t7, rfl, ht7⟩
      · rintro σ H7 ⟨v6, rfl, t7, h7⟩
        exact ⟨_, _, _, rfl, t7, h7⟩
    · rintro σ H5 ⟨v6, v7, v8, rfl, t5, h5⟩
      have e1 : ((0 : Int) + i + 1).toNat = i + 1 := by omega
      rw [e1, bestU_all] at h5
      obtain ⟨t, rfl, ht⟩ := h5
      have hl := lev_len cost i
      refine ⟨_, rfl, .inl ⟨rfl, _, SqL.of t5.own.tail.head⟩, _, rfl, t, _, _, _, rfl, rfl, SqT.of ht, rfl, _, _, _, rfl, rfl, t5.own.tail.head, by rw [List.length_map, hl.1]; exact small1000 (by omega), ?_⟩
      have t6 := (t5.swap2.put (o' := .lst ((lev cost i).1.map V.int ++ [.int (bestK (lev cost i).1 i (cost i)).1])) .nil nl).swap2
      have m6 := t5.own.swap2.mono_put (o' := .lst ((lev cost i).1.map V.int ++ [.int (bestK (lev cost i).1 i (cost i)).1]))
      refine ⟨_, rfl, .inl ⟨rfl, _, SqL.of t6.own.head⟩, _, rfl, t, _, _, _, rfl, rfl, SqT.of (m6 _ _ ht trivial), rfl, _, _, _, rfl, rfl, t6.own.head, by rw [List.length_map, hl.2]; exact small1000 (by omega), ?_⟩
      have t7 := t6.put (o' := .lst ((lev cost i).2.map V.int ++ [.int (bestK (lev cost i).1 i (cost i)).2])) .nil nl
      refine ⟨_, _, _, _, _, rfl, ?_⟩
      have ea : (lev cost (i + 1)).1.map V.int = (lev cost i).1.map V.int ++ [.int (bestK (lev cost i).1 i (cost i)).1] := by
        show ((lev cost i).1 ++ [_]).map V.int = _
        rw [List.map_append]
        rfl
      have eb : (lev cost (i + 1)).2.map V.int = (lev cost i).2.map V.int ++ [.int (bestK (lev cost i).1 i (cost i)).2] := by
        show ((lev cost i).2 ++ [_]).map V.int = _
        rw [List.map_append]
        rfl
      rw [ea, eb]
      exact t7
  · rintro σ H2 ⟨v4, v5, v6, v7, v8, rfl, t2⟩
    rw [Int.toNat_natCast] at t2
    exact ⟨_, rfl, _, rfl, (by show 2 ≤ sizeLine; decide), fun t ht => go t p q _ (t2.old ht) upd_same⟩
end
end Cu

namespace Cu
open PySem PySem.Spec PyProof.Rows L2
abbrev s_answer : Stmt := (top 14)
theorem sc_answer : FnScope ["board", "known", "begins", "found", "end", "begin"] ["board", "known"] (defScope s_answer) := ⟨rfl, rfl, rfl, by decide +kernel, rfl, by decide +kernel, by decide +kernel⟩

def spAnswer (K : PySem.W.Frag) (CB : Addr) : Sp := fun vs H Q _ => vs.length = 2 ∧ ∃ (B : BA) (nk keep : Nat) (cs : List Ch) (c : Lg) (kn : Addr) (ns : List Int), vs = [.ref B.p, .ref kn] ∧ BR K CB B nk keep cs H c ∧ Has H c ∧ StL K H kn (ns.map V.int) ∧ Kn nk cs ns ∧ nk ≤ 8 ∧ keep ≤ 20 ∧
  ∀ (r : Addr) (xs : List V) (ls : List Letter) (H' : Hp), Tr H [] H' [(r, .lst xs)] → RpL K H' (ls.map Letter.enc) xs → Brings keep cs ns nk ls → (wtL ls : Int) = lwt (costL keep cs ns) nk → ls.length ≤ 21 * nk → Q (.ref r) H'
section
variable {P : Program} {w : World} {K : PySem.W.Frag} {mg : Str → Option Value} {base : Heap} {CB : Addr}
theorem ok_answer (F : Fd K mg "answer" s_answer) (Bm : Blt mg) (CBoard : CBo K CB) (g_need_known : Gf P w K mg base 2 "need_known" ["board", "known"] (spNeed K CB)) (g_levels : Gf P w K mg base 3 "levels" ["board", "known"] (spLevels K CB)) (g_wanted : Gf P w K mg base 2 "wanted" ["board", "known", "key"] (spWanted K CB))
    (m_Board_size : Mf P w K mg base 1 CB "size" ["self"] (spBsize K CB)) (m_Board_part : Mf P w K mg base 1 CB "part" ["self", "begin", "end"] (spBpart K CB)) : Gf P w K mg base 4 "answer" ["board", "known"] (spAnswer K CB) := by
  refine F.ok sc_answer (fun _ _ _ _ _ _ us hl => match us, hl with | [_, _], _ => rfl) len_of fun qual f cdv A0 outer s H vs Q E hr h => ?_
  obtain ⟨_, B, nk, keep, cs, c, kn, ns, rfl, r, hc, st, kk, h8, hkp, go⟩ := h
  refine ⟨_, (pss_cons (ps_expr (pc g_need_known hr (pa_cons (pv 0) (pa_cons (pv 1) pa_nil))))
      (pss_cons (ps_set (i := 2) sc_answer.nd rfl (Or.inl rfl) (pe_ix ix_tup (pc g_levels hr (pa_cons (pv 0) (pa_cons (pv 1) pa_nil))) pe_int (fun _ _ => rfl)))
      (pss_cons (ps_set (i := 3) sc_answer.nd rfl (Or.inl rfl) (pe_lst pa_nil))
      (pss_cons (ps_set (i := 4) sc_answer.nd rfl (Or.inl rfl) (pm0 (pv 0) CBoard.cl m_Board_size hr))
      (pss_cons (ps_while PassesOwn.never (pt_cmpR op_gt (pv 4) pe_int (nomark _))
        (pss_cons (ps_set (i := 5) sc_answer.nd rfl (Or.inl rfl) (pe_ix ix_list (pv 2) (pv 4) (fun _ _ => rfl)))
        (pss_one (ps_if (pt_cmpR op_lt (pv 5) pe_int (nomark _))
          (pss_cons (ps_set (i := 3) sc_answer.nd rfl (Or.inl rfl) (pe_op op_cat (pc g_wanted hr (pa_cons (pv 0) (pa_cons (pv 1) (pa_cons (pe_op op_sub (pv 4) pe_int) pa_nil)))) (pv 3)))
          (pss_one (ps_set (i := 4) sc_answer.nd rfl (Or.inl rfl) (pe_op op_sub (pv 4) pe_int))))
          (pss_cons (ps_set (i := 3) sc_answer.nd rfl (Or.inl rfl) (pe_op op_cat (pe_lst (pa_cons (pm (pv 0) CBoard.cl m_Board_part hr (pa_cons (pv 5) (pa_cons (pv 4) pa_nil))) pa_nil)) (pv 3)))
          (pss_one (ps_set (i := 4) sc_answer.nd rfl (Or.inl rfl) (pv 5))))))))
      (pss_one (ps_ret (pv 3)))))))), ?_⟩
  have up : ∀ {H2 : Hp} {O : Lg}, Tr H [] H2 O → Has H2 c ∧ BR K CB B nk keep cs H2 c ∧ StL K H2 kn (ns.map V.int) := fun t => ⟨(t.has c hc).right, r.mono t.mono, st.tr t⟩
  have hlen := kk.len
  refine ⟨_, rfl, _, rfl, rfl, B, nk, keep, cs, c, kn, ns, rfl, r, hc, st.sq, kk, h8, ?_⟩
  refine ⟨_, rfl, _, rfl, rfl, B, nk, keep, cs, c, kn, ns, rfl, r, hc, st, hlen, h8, hkp, fun t p q H1 t1 ht => ?_⟩
  generalize ec : costL keep cs ns = cost at t1 go
  refine ⟨t, _, _, _, rfl, rfl, SqT.of ht, rfl, (by show 0 ≤ sizeLine; decide), fun p0 hp0 => ?_⟩
  have t2 := (t1.sub (C2 := [(q, .lst ((lev cost nk).2.map V.int))]) (List.Sublist.cons_cons _ (List.nil_sublist _))).new (o := .lst []) hp0 nl
  refine rd_bsize (by rfl) (up t2).2.1 (up t2).1 ?_
  obtain ⟨W, hW⟩ : ∃ W : Nat → L2.St → Hp → Prop, ∀ m σ H2, W m σ H2 ↔ ∃ (e : Nat) (fnd : Addr) (xs : List V) (S : List Letter) (v5 : Option V), m = e ∧ e ≤ nk ∧ σ = [some (.ref B.p), some (.ref kn), some (.ref q), some (.ref fnd), some (.int e), v5] ∧
      Tr H [] H2 [(fnd, .lst xs), (q, .lst ((lev cost nk).2.map V.int))] ∧ RpL K H2 (S.map Letter.enc) xs ∧ (∀ ls, Brings keep cs ns e ls → Brings keep cs ns nk (ls ++ S)) ∧ lwt cost e + wtL S = lwt cost nk ∧ S.length + 21 * e ≤ 21 * nk := ⟨_, fun _ _ _ => Iff.rfl⟩
  refine ⟨W, ⟨nk, (hW _ _ _).mpr ⟨nk, p0, [], [], none, rfl, Nat.le_refl _, rfl, t2, .nil, fun ls h => by rw [List.append_nil]; exact h, by show _ + ((0 : Nat) : Int) = _; omega, by show 0 + _ ≤ _; omega⟩⟩, fun m σ H2 hw => ?_⟩
  obtain ⟨e, fnd, xs, S, v5, rfl, he, rfl, t3, rx, hbr, hwt, hsl⟩ := (hW _ _ _).mp hw
  have hxs : xs.length = S.length := by rw [rx.length, List.length_map]
  refine ⟨_, rfl, _, _, rfl, rfl, _, rfl, ite2 (fun h0 => ?_) fun h0 => ?_⟩
  · obtain ⟨k, rfl⟩ : ∃ k, m = k + 1 := ⟨m - 1, by have := of_decide_eq_true h0; omega⟩
    refine ⟨fun σ' H' => ∃ m', m' < k + 1 ∧ W m' σ' H', fun _ _ h => h, ?_⟩
    have hl := lev_len cost nk
    have hg : atI ((lev cost nk).2.map V.int) ((k + 1 : Nat) : Int) = some (V.int (lbg cost (k + 1))) := by
      rw [← (lev_get cost he).2]
      exact getD_at (by omega)
    refine ⟨_, rfl, _, rfl, q, _, _, _, rfl, rfl, SqL.of t3.own.tail.head, hg, ?_⟩
    obtain ⟨hcand, _, _⟩ := lev_ok cost k
    refine ⟨_, rfl, _, _, rfl, rfl, _, rfl, ite2 (fun h1 => ?_) fun h1 => ?_⟩
    · have h1' := of_decide_eq_true h1
      rcases hcand with ⟨n, hn, hq⟩ | ⟨j, hj, hq⟩
      · have hq1 : lwt cost (k + 1) = lwt cost k + n := congrArg Prod.fst hq
        have ez : (((k + 1 : Nat) : Int) - 1) = (k : Int) := by omega
        have hcost : (wantL keep cs (ns.getD k 0) k).map List.length = some n := by
          have : costL keep cs ns k = some n := by rw [ec]; exact hn
          exact this
        refine ⟨_, rfl, _, rfl, _, rfl, _, _, rfl, rfl, rfl, B, nk, keep, cs, c, kn, ns, k, (congrArg (fun z => [V.ref B.p, V.ref kn, V.int z]) ez), (up t3).2.1, (up t3).1, (up t3).2.2, hlen, by omega, hkp, fun hw0 => ?_, fun w hw0 rr ys H4 t4 ry => ?_⟩
        · rw [hw0] at hcost
          cases hcost
        · rw [hw0] at hcost
          have hn' : w.length = n := Option.some.inj hcost
          have hyl : ys.length = w.length := by rw [ry.length, List.length_map]
          have hw20 : w.length ≤ 20 := by
            have h1 := someL_len keep cs (ns.getD k 0) k
            have : w.length ≤ (someL keep cs (ns.getD k 0) k).length := by
              unfold wantL at hw0
              split at hw0
              · cases hw0
                exact Nat.zero_le _
              · exact wantS_len hw0
            omega
          have t5 := t3.trans (by simpa using t4.right (D := [(fnd, HO.lst xs), (q, HO.lst ((lev cost nk).2.map V.int))]))
          refine ⟨_, rfl, rr, fnd, _, _, rfl, rfl, t5.own.head, t5.own.tail.head, Nat.le_trans (show _ ≤ 1000 by omega) (by decide), fun f2 hf2 => ?_⟩
          have t6 := (t5.new (o := .lst (ys ++ xs)) hf2 nl).sub (C2 := [(f2, .lst (ys ++ xs)), (q, .lst ((lev cost nk).2.map V.int))]) (List.Sublist.cons_cons _ (List.Sublist.cons _ (List.Sublist.cons _ (List.Sublist.refl _))))
          refine ⟨_, rfl, _, _, rfl, rfl, k, by omega, (hW _ _ _).mpr ⟨k, f2, ys ++ xs, w ++ S, some (V.int (lbg cost (k + 1))), rfl, by omega, (congrArg (fun z => [some (V.ref B.p), some (V.ref kn), some (V.ref q), some (V.ref f2), some (V.int z), some (V.int (lbg cost (k + 1)))]) ez), t6, ?_, fun ls hls => ?_, ?_, ?_⟩⟩
          · rw [List.map_append]
            exact (ry.append (rx.mono t4.mono)).mono (Mono.new hf2)
          · rw [← List.append_assoc]
            exact hbr _ (.want hls hw0)
          · rw [wtL_app, wantL_wt hw0]
            omega
          · rw [List.length_append]
            omega
      · have : lbg cost (k + 1) = (j : Int) := congrArg Prod.snd hq
        omega
    · have h1' := ndec h1
      rcases hcand with ⟨n, hn, hq⟩ | ⟨j, hj, hq⟩
      · have : lbg cost (k + 1) = (0 : Int) - k - 1 := congrArg Prod.snd hq
        omega
      · have hq1 : lwt cost (k + 1) = lwt cost j + 2 + k + 1 - j := congrArg Prod.fst hq
        have hq2 : lbg cost (k + 1) = (j : Int) := congrArg Prod.snd hq
        rw [hq2]
        refine ⟨_, rfl, B.p, _, _, rfl, (up t3).2.1.at_p (up t3).1, bFno, _, rfl, _, rfl, rfl, B, nk, keep, cs, c, j, k + 1, rfl, (up t3).2.1, (up t3).1, hj, by omega, h8, fun v4 H4 g4 r4 => ⟨(by show 1 ≤ sizeLine; decide), fun l4 hl4 => ?_⟩⟩
        have t5 := (t3.grow g4).new (o := .lst [v4]) hl4 nl
        refine ⟨_, rfl, l4, fnd, _, _, rfl, rfl, t5.own.head, t5.own.tail.head, Nat.le_trans (show 1 + xs.length ≤ 1000 by omega) (by decide), fun f2 hf2 => ?_⟩
        have t6 := (t5.new (o := .lst ([v4] ++ xs)) hf2 nl).sub (C2 := [(f2, .lst ([v4] ++ xs)), (q, .lst ((lev cost nk).2.map V.int))]) (List.Sublist.cons_cons _ (List.Sublist.cons _ (List.Sublist.cons _ (List.Sublist.refl _))))
        refine ⟨_, rfl, j, by omega, (hW _ _ _).mpr ⟨j, f2, [v4] ++ xs, [partL cs cs.length j (k + 1)] ++ S, _, rfl, by omega, rfl, t6, ?_, fun ls hls => ?_, ?_, ?_⟩⟩
        · exact ((RpL.cons r4 (rx.mono g4.mono)).mono (Mono.new hl4)).mono (Mono.new hf2)
        · rw [← List.append_assoc]
          exact hbr _ (.part hls hj)
        · have hp1 : wtL [partL cs cs.length j (k + 1)] = 2 + (k + 1 - j) := by
            show (partL cs cs.length j (k + 1)).wt + 0 = _
            rw [partL_wt]
            rfl
          rw [wtL_app, hp1]
          omega
        · rw [List.length_append]
          show 1 + S.length + _ ≤ _
          omega
  · have h0' := ndec h0
    have : m = 0 := by omega
    subst this
    refine ⟨_, rfl, go fnd xs S H2 (t3.sub (List.Sublist.cons_cons _ (List.nil_sublist _))) rx ?_ ?_ (by omega)⟩
    · have := hbr [] .nil
      rwa [List.nil_append] at this
    · rw [lwt_zero] at hwt
      omega
end
end Cu

namespace Cu
open PySem PySem.Spec PyProof.Rows L2
/-! a hearer that is up to date -/
theorem KI.on {cs : List Ch} {k : Nat} {h : HK} (i : KI cs k h) (ds : List Ch) : KI (cs ++ ds) k h := by
  have hi := i.hi
  refine ⟨⟨i.lo, by rw [List.length_append]; omega, fun u hu => ?_, fun a ha => ?_, i.nd⟩, i.ahead⟩
  · rw [List.take_append_of_le_length (by omega)]
    exact i.ok u hu
  · obtain ⟨m, e1, e2, e3⟩ := i.as a ha
    have hm := (List.getElem?_eq_some_iff.mp e2).1
    exact ⟨m, e1, by rw [List.getElem?_append_left hm]; exact e2, by rw [List.take_append_of_le_length (Nat.le_of_lt hm)]; exact e3⟩
theorem AllI.on {nk : Nat} {cs : List Ch} {hs : List HK} (i : AllI nk cs hs) (ds : List Ch) : AllI nk (cs ++ ds) hs := ⟨i.1, fun k h e => (i.2 k h e).on ds⟩
theorem up_nil {cs : List Ch} {k : Nat} {h : HK} (i : KI cs k h) (hl : (lof cs k : Int) ≤ h.upto) : h.aside = [] := by
  cases ha : h.aside with
  | nil => rfl
  | cons a as =>
    exfalso
    have hm : a ∈ h.aside := by rw [ha]; exact List.mem_cons_self
    have q1 := i.ahead a hm
    obtain ⟨m, e1, e2, e3⟩ := i.as a hm
    have hml := (List.getElem?_eq_some_iff.mp e2).1
    have := lof_mono (cs := cs) (k := k) (show m ≤ cs.length by omega)
    rw [List.take_length] at this
    omega
theorem srt_nil : srt [] = [] := by simp [srt]
theorem free_nil {h : HK} (e : h.aside = []) : h.free = (h, []) := by
  unfold HK.free
  rw [e]
  show (srt []).foldl _ _ = _
  rw [srt_nil]
  rfl
theorem hearK_part_nil {k n b : Nat} {h : HK} {rows : List (Int × Nat)} (e : h.aside = []) : (hearK k h (.part n b rows)).2 = [] ∧ (hearK k h (.part n b rows)).1.aside = [] := by
  simp only [hearK]
  split
  · split
    · unfold HK.row
      split
      · rename_i r _ _
        rw [free_nil (h := { h with worth := r.1, since := r.2, upto := n }) e]
        exact ⟨rfl, e⟩
      · exact ⟨rfl, e⟩
    · exact ⟨rfl, e⟩
  · exact ⟨rfl, e⟩
theorem heard_nil {hs : List HK} {l : Letter} (h : ∀ (k : Nat) (g : HK), hs[k]? = some g → (hearK k g l).2 = []) : heard hs l = [] := by
  refine List.eq_nil_iff_forall_not_mem.mpr fun n hn => ?_
  obtain ⟨k, g, e, q⟩ := heard_mem hn
  rw [h k g e] at q
  cases q
/-- a change heard by one that is up to date -/
theorem change_now {nk : Nat} {cs : List Ch} {hs : List HK} {ch : Ch} (i : AllI nk cs hs) (up : ∀ (k : Nat) (h : HK), hs[k]? = some h → (lof cs k : Int) ≤ h.upto) (hk : ch.key < nk) :
    heard hs (.change (cs.length + 1) ch (lof cs ch.key)) = [((cs.length + 1 : Nat) : Int)] ∧ AllI nk (cs ++ [ch]) (hear hs (.change (cs.length + 1) ch (lof cs ch.key))) ∧
    (∀ (k : Nat) (h : HK), (hear hs (.change (cs.length + 1) ch (lof cs ch.key)))[k]? = some h → (lof (cs ++ [ch]) k : Int) ≤ h.upto ∧ (k = ch.key → h.upto = ((cs.length + 1 : Nat) : Int))) ∧
    ∀ (k : Nat) (g h : HK), hs[k]? = some g → (hear hs (.change (cs.length + 1) ch (lof cs ch.key)))[k]? = some h → g.upto ≤ h.upto := by
  have il : IsLet nk (cs ++ [ch]) (.change (cs.length + 1) ch (lof cs ch.key)) := by
    have := IsLet.change (nk := nk) (cs := cs ++ [ch]) (n := cs.length) (c := ch) (by simp)
    rwa [List.take_append_of_le_length (Nat.le_refl _), List.take_length] at this
  have i' := (i.on [ch]).hear il
  obtain ⟨g, eg⟩ : ∃ g, hs[ch.key]? = some g := ⟨hs[ch.key]'(by rw [i.1]; exact hk), List.getElem?_eq_getElem _⟩
  have ua := up_nil (i.2 _ g eg) (up _ g eg)
  have hi := (i.2 _ g eg).hi
  have hu := up _ g eg
  have ec : g.chg (cs.length + 1) ch (lof cs ch.key) = (g.done (cs.length + 1) ch.set ch.worth, [((cs.length + 1 : Nat) : Int)]) := by
    unfold HK.chg
    rw [if_neg (by omega), if_neg (by omega), free_nil (h := g.done (cs.length + 1) ch.set ch.worth) ua]
  obtain ⟨e1, e2⟩ := hear_change (n := cs.length + 1) (ahead := lof cs ch.key) eg
  rw [ec] at e1 e2
  have toldup : ∀ (k : Nat) (g h : HK), hs[k]? = some g → (hear hs (.change (cs.length + 1) ch (lof cs ch.key)))[k]? = some h → g.upto ≤ h.upto := fun k g h e1 e2 => by
    rw [hear_get e1] at e2
    cases e2
    exact ((i.on [ch]).told il e1).up
  refine ⟨e2, i', fun k h eh => ?_, toldup⟩
  rw [lof_snoc]
  by_cases q : ch.key = k
  · subst q
    rw [e1, List.getElem?_set_self (List.getElem?_eq_some_iff.mp eg).1] at eh
    cases eh
    rw [if_pos rfl]
    exact ⟨Int.le_refl _, fun _ => rfl⟩
  · rw [if_neg q]
    refine ⟨?_, fun z => absurd z.symm q⟩
    obtain ⟨g', eg', _⟩ := hear_inv eh
    exact Int.le_trans (up k g' eg') (toldup k g' h eg' eh)
theorem lwt_none {cost : Nat → Option Nat} : ∀ {n : Nat}, (∀ k, k < n → cost k = some 0) → lwt cost n = 0
  | 0, _ => rfl
  | n + 1, h => by
    have ih := lwt_none (cost := cost) (n := n) fun k hk => h k (by omega)
    have h1 := (lev_ok cost n).2.1 0 (h n (by omega))
    have h2 := lwt_nonneg cost (n + 1)
    omega
theorem wt_pos (l : Letter) : 0 < l.wt := by
  cases l with
  | part n b rows =>
    show 0 < 2 + rows.length
    omega
  | change n c a => exact Nat.one_pos
  | beat n ls => exact Nat.one_pos
theorem wtL_zero {ls : List Letter} (h : wtL ls = 0) : ls = [] := by
  cases ls with
  | nil => rfl
  | cons l ls =>
    have := wt_pos l
    have e : wtL (l :: ls) = l.wt + wtL ls := by simp [wtL]
    omega
/-- of one who is up to date nothing is wanted -/
theorem cost_none {keep : Nat} {cs : List Ch} {ns : List Int} {nk : Nat} (h : ∀ k, k < nk → (lof cs k : Int) ≤ ns.getD k 0) : lwt (costL keep cs ns) nk = 0 := lwt_none fun k hk => by
  unfold costL wantL
  rw [if_pos (h k hk)]
  rfl
theorem ups_getD {hs : List HK} {k : Nat} {h : HK} (e : hs[k]? = some h) : (hs.map fun h => h.upto).getD k 0 = h.upto := by
  rw [List.getD_eq_getElem?_getD, List.getElem?_map, e]
  rfl
theorem AllI.kn {nk : Nat} {cs : List Ch} {hs : List HK} (i : AllI nk cs hs) : Kn nk cs (hs.map fun h => h.upto) := by
  refine ⟨by rw [List.length_map]; exact i.1, fun n hn => ?_⟩
  obtain ⟨g, hg, rfl⟩ := List.mem_map.mp hn
  obtain ⟨k, ek⟩ := List.getElem?_of_mem hg
  exact ⟨(i.2 k g ek).lo, (i.2 k g ek).hi⟩
theorem flat_up {nk : Nat} {cs : List Ch} {hs : List HK} (i : AllI nk cs hs) (up : ∀ (k : Nat) (h : HK), hs[k]? = some h → (lof cs k : Int) ≤ h.upto) : (hs.map fun h => asN h.aside).flatten = [] := flat_nil fun x hx => by
  obtain ⟨g, hg, rfl⟩ := List.mem_map.mp hx
  obtain ⟨k, ek⟩ := List.getElem?_of_mem hg
  rw [up_nil (i.2 k g ek) (up k g ek)]
  rfl
theorem wf_up {nk : Nat} {cs : List Ch} {hs : List HK} (i : AllI nk cs hs) (up : ∀ (k : Nat) (h : HK), hs[k]? = some h → (lof cs k : Int) ≤ h.upto) : ∀ h ∈ hs, Wf h := fun h hh => by
  obtain ⟨k, ek⟩ := List.getElem?_of_mem hh
  refine ⟨(i.2 k h ek).nd, ?_⟩
  rw [up_nil (i.2 k h ek) (up k h ek)]
  decide
end Cu

namespace Cu
open PySem PySem.Spec PyProof.Rows L2
theorem RpL.erase {K : PySem.W.Frag} {H : Hp} {ds : List PyData} {vs : List V} (k : Nat) (h : RpL K H ds vs) : RpL K H (ds.eraseIdx k) (vs.eraseIdx k) := by
  rw [List.eraseIdx_eq_take_drop_succ, List.eraseIdx_eq_take_drop_succ]
  exact (h.take k).append (h.drop (k + 1))
theorem mem_erase {α : Type} {xs : List α} {k : Nat} {x y : α} (e : xs[k]? = some x) (h : y ∈ xs) : y = x ∨ y ∈ xs.eraseIdx k := by
  obtain ⟨i, hi⟩ := List.getElem?_of_mem h
  by_cases q : i = k
  · subst q
    rw [hi] at e
    exact .inl (Option.some.inj e)
  · exact .inr (List.mem_eraseIdx_iff_getElem?.mpr ⟨i, q, hi⟩)
theorem erase_mem {α : Type} {xs : List α} {k : Nat} {y : α} (h : y ∈ xs.eraseIdx k) : y ∈ xs := List.mem_of_mem_eraseIdx h
theorem seqIx {i : Int} {n : Nat} (h0 : 0 ≤ i) (h1 : i < n) : seqIndex? i n = some i.toNat := by
  have h : ixN n i = some i.toNat := by
    unfold ixN
    rw [if_pos h0, if_pos h1]
  exact (ixN_seq h).1
theorem erase_map {α β : Type} (f : α → β) (xs : List α) (k : Nat) : (xs.eraseIdx k).map f = (xs.map f).eraseIdx k := by
  rw [List.eraseIdx_eq_take_drop_succ, List.eraseIdx_eq_take_drop_succ, List.map_append, List.map_take, List.map_drop]
/-! letters told behind n0 changes: all the changes behind, and parts -/
structure Pool (nk n0 : Nat) (cs : List Ch) (ls : List Letter) : Prop where
  le : n0 ≤ cs.length
  lt : ∀ l ∈ ls, IsLet nk cs l ∧ Fresh n0 l
  all : ∀ (m : Nat) (c : Ch), n0 ≤ m → cs[m]? = some c → Letter.change (m + 1) c (lof (cs.take m) c.key) ∈ ls
def Covd (n0 : Nat) (cs : List Ch) (ls : List Letter) (p : Nat × Nat) : Prop := ∃ n, n0 ≤ n ∧ n ≤ cs.length ∧ partL cs n p.1 p.2 ∈ ls
section
variable {nk n0 : Nat} {cs : List Ch} {ls : List Letter}
theorem Pool.ini (cs : List Ch) : Pool nk cs.length cs [] := ⟨Nat.le_refl _, fun _ h => (nomatch h), fun m c h e => by
  have := (List.getElem?_eq_some_iff.mp e).1
  omega⟩
theorem Pool.change (p : Pool nk n0 cs ls) (ch : Ch) : Pool nk n0 (cs ++ [ch]) (ls ++ [.change (cs.length + 1) ch (lof cs ch.key)]) := by
  have h0 := p.le
  refine ⟨by rw [List.length_append]; omega, fun l hl => ?_, fun m c hm e => ?_⟩
  · rcases List.mem_append.mp hl with hl | hl
    · exact ⟨(p.lt l hl).1.on, (p.lt l hl).2⟩
    · rw [List.mem_singleton.mp hl]
      refine ⟨?_, by show n0 < cs.length + 1; omega⟩
      have := IsLet.change (nk := nk) (cs := cs ++ [ch]) (n := cs.length) (c := ch) (by simp)
      rwa [List.take_append_of_le_length (Nat.le_refl _), List.take_length] at this
  · by_cases h : m < cs.length
    · rw [List.getElem?_append_left h] at e
      rw [List.take_append_of_le_length (Nat.le_of_lt h)]
      exact List.mem_append_left _ (p.all m c hm e)
    · have hm' := (List.getElem?_eq_some_iff.mp e).1
      rw [List.length_append, List.length_singleton] at hm'
      have : m = cs.length := by omega
      subst this
      rw [List.take_append_of_le_length (Nat.le_refl _), List.take_length]
      have : c = ch := by simpa using e.symm
      subst this
      exact List.mem_append_right _ (List.mem_singleton_self _)
theorem Pool.part (p : Pool nk n0 cs ls) {b e : Nat} (h1 : b < e) (h2 : e ≤ nk) : Pool nk n0 cs (ls ++ [partL cs cs.length b e]) := by
  refine ⟨p.le, fun l hl => ?_, fun m c hm e => List.mem_append_left _ (p.all m c hm e)⟩
  rcases List.mem_append.mp hl with hl | hl
  · exact p.lt l hl
  · rw [List.mem_singleton.mp hl]
    exact ⟨.part (Nat.le_refl _) h1 h2, p.le⟩
theorem Pool.more (p : Pool nk n0 cs ls) {ms : List Letter} (h : ∀ l ∈ ms, l ∈ ls) : Pool nk n0 cs (ls ++ ms) :=
  ⟨p.le, fun l hl => p.lt l ((List.mem_append.mp hl).elim id (h l)), fun m c hm e => List.mem_append_left _ (p.all m c hm e)⟩
theorem Covd.on {p : Nat × Nat} (h : Covd n0 cs ls p) (ds : List Ch) (ms : List Letter) : Covd n0 (cs ++ ds) (ls ++ ms) p := by
  obtain ⟨n, h1, h2, h3⟩ := h
  exact ⟨n, h1, by rw [List.length_append]; omega, by rw [partL_on h2]; exact List.mem_append_left _ h3⟩
theorem Covd.on1 {p : Nat × Nat} (h : Covd n0 cs ls p) (ms : List Letter) : Covd n0 cs (ls ++ ms) p := by
  have := h.on [] ms
  rwa [List.append_nil] at this
theorem pool_end {hs : List HK} (i : AllI nk cs hs) (pl : Pool nk n0 cs ls) (cov : ∀ k, k < nk → ∃ p : Nat × Nat, (p.1 ≤ k ∧ k < p.2) ∧ Covd n0 cs ls p) (got : ∀ l ∈ ls, ∀ (k : Nat) (h : HK), hs[k]? = some h → Got k l h) :
    ∀ (k : Nat) (h : HK), hs[k]? = some h → h.aside = [] ∧ (lof cs k : Int) ≤ h.upto ∧ 0 ≤ h.upto := fun k h eh => by
  have hk : k < nk := by
    have := (List.getElem?_eq_some_iff.mp eh).1
    have := i.1
    omega
  obtain ⟨p, hp, n, h1, h2, h3⟩ := cov k hk
  have h4 : (n : Int) ≤ h.upto := got _ h3 k h eh hp.1 (by
    rw [partRows, List.length_map, List.length_range]
    omega)
  obtain ⟨q1, q2⟩ := got_end (n0 := n0) (i.2 k h eh) (by omega) fun m c em ek hm => by
    have q : ((m + 1 : Nat) : Int) ≤ h.upto ∨ (c.set = false ∧ ((m + 1 : Nat) : Int) ∈ asN h.aside) := got _ (pl.all m c (by omega) em) k h eh ek
    exact q.imp id And.right
  exact ⟨q1, q2, by omega⟩
theorem Dp.nil' {K : PySem.W.Frag} {H : Hp} {a : Addr} (h : FzL K H a []) : Dp K H (.ref a) (.list []) := .lst h.sq .nil
theorem held_nil {hs : List HK} (h : ∀ (k : Nat) (g : HK), hs[k]? = some g → g.aside = []) : heldM hs = [] := by
  refine List.eq_nil_iff_forall_not_mem.mpr fun n hn => ?_
  have hn := (srt_perm _).mem_iff.mp hn
  obtain ⟨x, hx, hn⟩ := List.mem_flatten.mp hn
  obtain ⟨g, hg, rfl⟩ := List.mem_map.mp hx
  obtain ⟨k, ek⟩ := List.getElem?_of_mem hg
  rw [h k g ek] at hn
  cases hn
end
end Cu

namespace Cu
open PySem PySem.Spec PyProof.Rows L2
/-! letters that bring a hearer up -/
theorem letsP (cs : List Ch) : (lets cs).Pairwise fun a b => a.numOf < b.numOf := by
  induction cs using snoc_ind with
  | h0 => exact List.Pairwise.nil
  | h1 cs c ih =>
    rw [lets_snoc]
    refine List.pairwise_append.mpr ⟨ih, List.pairwise_singleton _ _, fun a ha b hb => ?_⟩
    rw [List.mem_singleton] at hb
    subst hb
    obtain ⟨m, d, e, rfl⟩ := lets_mem ha
    have := (List.getElem?_eq_some_iff.mp e).1
    show m + 1 < cs.length + 1
    omega
theorem someL_pw (keep : Nat) (cs : List Ch) (u : Int) (k : Nat) : (someL keep cs u k).Pairwise fun a b => a.numOf < b.numOf := ((letsP cs).sublist (List.drop_sublist _ _)).filter _
/-- a change of the key behind one that is kept is kept, too -/
theorem someL_in {keep : Nat} {cs : List Ch} {u : Int} {k m j : Nat} {c : Ch} {l : Letter} (hl : l ∈ someL keep cs u k) (hm : l.numOf = m + 1) (hj : cs[j]? = some c) (hk : c.key = k) (hmj : m ≤ j) (hu : u < ((j + 1 : Nat) : Int)) :
    Letter.change (j + 1) c (lof (cs.take j) c.key) ∈ someL keep cs u k := by
  obtain ⟨h1, h2⟩ := List.mem_filter.mp hl
  refine List.mem_filter.mpr ⟨?_, ?_⟩
  · obtain ⟨i, hi⟩ := List.getElem?_of_mem h1
    unfold tailL at hi ⊢
    rw [List.getElem?_drop] at hi
    have hil := (List.getElem?_eq_some_iff.mp hi).1
    rw [lets_length] at hil
    rw [lets_get (List.getElem?_eq_getElem hil)] at hi
    have e := Option.some.inj hi
    subst e
    have hmi : cs.length - keep + i + 1 = m + 1 := hm
    refine List.mem_of_getElem? (i := j - (cs.length - keep)) ?_
    rw [List.getElem?_drop, show cs.length - keep + (j - (cs.length - keep)) = j by omega]
    exact lets_get hj
  · rw [Bool.and_eq_true]
    exact ⟨decide_eq_true hk, decide_eq_true hu⟩
theorem pw_drop {sm : List Letter} {i : Nat} {l l' : Letter} (pw : sm.Pairwise fun a b => a.numOf < b.numOf) (hi : sm[i]? = some l) (hm : l' ∈ sm) (h : l.numOf < l'.numOf) : l' ∈ sm.drop i := by
  obtain ⟨j, hj⟩ := List.getElem?_of_mem hm
  have hjl := (List.getElem?_eq_some_iff.mp hj).1
  have hil := (List.getElem?_eq_some_iff.mp hi).1
  by_cases q : i ≤ j
  · refine List.mem_of_getElem? (i := j - i) ?_
    rw [List.getElem?_drop, show i + (j - i) = j by omega]
    exact hj
  · have := (List.pairwise_iff_getElem.mp pw) j i hjl hil (by omega)
    rw [(List.getElem?_eq_some_iff.mp hj).2, (List.getElem?_eq_some_iff.mp hi).2] at this
    omega
/-- what a want gives: a number from which on all is wanted -/
theorem want_base {keep : Nat} {cs : List Ch} {u : Int} {k : Nat} {w : List Letter} (hu : -1 ≤ u) (h : wantL keep cs u k = some w) :
    ∃ n0 : Nat, (((n0 : Int) ≤ u) ∨ ∃ c a, Letter.change n0 c a ∈ w ∧ c.key = k ∧ c.set = true) ∧ n0 ≤ max cs.length u.toNat ∧
      ∀ (j : Nat) (c : Ch), cs[j]? = some c → c.key = k → n0 < j + 1 → Letter.change (j + 1) c (lof (cs.take j) c.key) ∈ w := by
  unfold wantL at h
  by_cases h0 : (lof cs k : Int) ≤ u
  · refine ⟨u.toNat, .inl (by omega), Nat.le_max_right _ _, fun j c hj hk hn => ?_⟩
    have hjl := (List.getElem?_eq_some_iff.mp hj).1
    have := lof_ge (j := cs.length) hj hk hjl
    rw [List.take_length] at this
    omega
  · rw [if_neg h0] at h
    rcases List.eq_nil_or_concat (setsL (someL keep cs u k)) with es | ⟨ini, i, es⟩
    · rw [wantS_no es] at h
      split at h
      · rename_i hf
        cases h
        cases hsm : someL keep cs u k with
        | nil =>
          rw [hsm] at hf
          cases hf
        | cons l0 ls =>
          rw [hsm] at hf
          have hf : (l0.ahd : Int) ≤ u := of_decide_eq_true hf
          have hl0 : l0 ∈ someL keep cs u k := by rw [hsm]; exact List.mem_cons_self
          obtain ⟨m, c0, e0, rfl⟩ := tailL_mem (filter_sub_mem hl0)
          have hk0 : c0.key = k := of_decide_eq_true (Bool.and_eq_true _ _ ▸ (List.mem_filter.mp hl0).2).1
          have hf : (lof (cs.take m) c0.key : Int) ≤ u := hf
          refine ⟨u.toNat, .inl (by omega), Nat.le_max_right _ _, fun j c hj hk hn => ?_⟩
          rw [← hsm]
          refine someL_in hl0 (m := m) rfl hj hk ?_ (by omega)
          by_cases q : m ≤ j
          · exact q
          · have := lof_ge (j := m) hj hk (by omega)
            rw [hk0] at hf
            omega
      · cases h
    · rw [List.concat_eq_append] at es
      rw [wantS_set es] at h
      cases h
      have hi : i ∈ setsL (someL keep cs u k) := by rw [es]; simp
      obtain ⟨h1, h2⟩ := List.mem_filter.mp hi
      have h1 := List.mem_range.mp h1
      obtain ⟨l, el⟩ : ∃ l, (someL keep cs u k)[i]? = some l := ⟨(someL keep cs u k)[i], List.getElem?_eq_getElem h1⟩
      have hl := List.mem_of_getElem? el
      obtain ⟨m, c0, e0, rfl⟩ := tailL_mem (filter_sub_mem hl)
      have hk0 : c0.key = k := of_decide_eq_true (Bool.and_eq_true _ _ ▸ (List.mem_filter.mp hl).2).1
      have hu0 : u < ((m + 1 : Nat) : Int) := of_decide_eq_true (Bool.and_eq_true _ _ ▸ (List.mem_filter.mp hl).2).2
      have hs0 : c0.set = true := by
        rw [el] at h2
        have h2 : (some c0.set == some true) = true := h2
        simpa using h2
      have hml := (List.getElem?_eq_some_iff.mp e0).1
      refine ⟨m + 1, .inr ⟨c0, lof (cs.take m) c0.key, ?_, hk0, hs0⟩, by omega, fun j c hj hk hn => ?_⟩
      · refine List.mem_of_getElem? (i := 0) ?_
        rw [List.getElem?_drop]
        exact el
      · exact pw_drop (someL_pw keep cs u k) el (someL_in hl (m := m) rfl hj hk (by omega) (by omega)) (by show m + 1 < j + 1; omega)
theorem Brings.cover {keep : Nat} {cs : List Ch} {ns : List Int} {e : Nat} {ls : List Letter} (h : Brings keep cs ns e ls) : ∀ k, k < e → (∃ b e', b ≤ k ∧ k < e' ∧ partL cs cs.length b e' ∈ ls) ∨ ∃ w, wantL keep cs (ns.getD k 0) k = some w ∧ ∀ l ∈ w, l ∈ ls := by
  induction h with
  | nil => exact fun k hk => absurd hk (Nat.not_lt_zero k)
  | @want e ls w _ hw ih =>
    intro k hk
    by_cases q : k = e
    · subst q
      exact .inr ⟨w, hw, fun l hl => List.mem_append_right _ hl⟩
    · rcases ih k (by omega) with ⟨b, e', h1, h2, h3⟩ | ⟨w', h1, h2⟩
      · exact .inl ⟨b, e', h1, h2, List.mem_append_left _ h3⟩
      · exact .inr ⟨w', h1, fun l hl => List.mem_append_left _ (h2 l hl)⟩
  | @part b e ls _ hbe ih =>
    intro k hk
    by_cases q : b ≤ k
    · exact .inl ⟨b, e, q, hk, List.mem_append_right _ (List.mem_singleton_self _)⟩
    · rcases ih k (by omega) with ⟨b', e', h1, h2, h3⟩ | ⟨w', h1, h2⟩
      · exact .inl ⟨b', e', h1, h2, List.mem_append_left _ h3⟩
      · exact .inr ⟨w', h1, fun l hl => List.mem_append_left _ (h2 l hl)⟩
/-- what brings up brings up, with all the changes behind -/
theorem bring_up {nk keep : Nat} {cs ds : List Ch} {ns : List Int} {ls ms : List Letter} {hs : List HK} (i : AllI nk (cs ++ ds) hs) (br : Brings keep cs ns nk ls) (kn : Kn nk cs ns) (hns : ∀ (k : Nat) (h : HK), hs[k]? = some h → ns.getD k 0 ≤ h.upto)
    (hls : ∀ l ∈ ls, l ∈ ms) (hds : ∀ (j : Nat) (c : Ch), cs.length ≤ j → (cs ++ ds)[j]? = some c → Letter.change (j + 1) c (lof ((cs ++ ds).take j) c.key) ∈ ms)
    (got : ∀ l ∈ ms, ∀ (k : Nat) (h : HK), hs[k]? = some h → Got k l h) : ∀ (k : Nat) (h : HK), hs[k]? = some h → (lof (cs ++ ds) k : Int) ≤ h.upto := fun k h eh => by
  have hk : k < nk := by
    have := (List.getElem?_eq_some_iff.mp eh).1
    have := i.1
    omega
  have hkn : k < ns.length := by rw [kn.len]; exact hk
  have hb := kn.bd _ (getD_mem hkn)
  have old : ∀ (j : Nat) (c : Ch), (cs ++ ds)[j]? = some c → j < cs.length → cs[j]? = some c ∧ (cs ++ ds).take j = cs.take j := fun j c e hj => by
    rw [List.getElem?_append_left hj] at e
    exact ⟨e, List.take_append_of_le_length (Nat.le_of_lt hj)⟩
  have gchg : ∀ (j : Nat) (c : Ch) (a : Nat), Letter.change (j + 1) c a ∈ ms → c.key = k → ((j + 1 : Nat) : Int) ≤ h.upto ∨ ((j + 1 : Nat) : Int) ∈ asN h.aside := fun j c a hm hck => by
    have q : ((j + 1 : Nat) : Int) ≤ h.upto ∨ (c.set = false ∧ ((j + 1 : Nat) : Int) ∈ asN h.aside) := got _ hm k h eh hck
    exact q.imp id And.right
  have fin : ∀ n0 : Nat, (n0 : Int) ≤ h.upto → (∀ (j : Nat) (c : Ch), cs[j]? = some c → c.key = k → n0 < j + 1 → Letter.change (j + 1) c (lof (cs.take j) c.key) ∈ ms) → (lof (cs ++ ds) k : Int) ≤ h.upto := fun n0 h0 hw =>
    (got_end (n0 := n0) (i.2 k h eh) h0 fun j c ej ek hj => by
      by_cases q : j < cs.length
      · obtain ⟨e1, e2⟩ := old j c ej q
        exact gchg j c _ (hw j c e1 ek hj) ek
      · exact gchg j c _ (hds j c (by omega) ej) ek).2
  rcases br.cover k hk with ⟨b, e', h1, h2, h3⟩ | ⟨w, hw, hwl⟩
  · have h4 : (cs.length : Int) ≤ h.upto := got _ (hls _ h3) k h eh h1 (by
      rw [partRows, List.length_map, List.length_range]
      omega)
    refine fin cs.length h4 fun j c ej ek hj => ?_
    have := (List.getElem?_eq_some_iff.mp ej).1
    omega
  · obtain ⟨n0, hn0, _, hall⟩ := want_base hb.1 hw
    refine fin n0 ?_ fun j c ej ek hj => hls _ (hwl _ (hall j c ej ek hj))
    rcases hn0 with q | ⟨c, a, q1, q2, q3⟩
    · exact Int.le_trans q (hns k h eh)
    · have q : ((n0 : Nat) : Int) ≤ h.upto ∨ (c.set = false ∧ ((n0 : Nat) : Int) ∈ asN h.aside) := got _ (hls _ (hwl _ q1)) k h eh q2
      rcases q with q | q
      · exact q
      · rw [q3] at q
        cases q.1
theorem Brings.lets {nk keep : Nat} {cs : List Ch} {ns : List Int} {e : Nat} {ls : List Letter} (h : Brings keep cs ns e ls) : e ≤ nk → ∀ l ∈ ls, IsLet nk cs l := by
  induction h with
  | nil => exact fun _ _ q => (nomatch q)
  | @want e ls w _ hw ih =>
    intro he l hl
    rcases List.mem_append.mp hl with hl | hl
    · exact ih (by omega) l hl
    · obtain ⟨m, c, e1, rfl⟩ := tailL_mem (filter_sub_mem (wantL_mem hw l hl))
      exact .change e1
  | @part b e ls _ hbe ih =>
    intro he l hl
    rcases List.mem_append.mp hl with hl | hl
    · exact ih (by omega) l hl
    · rw [List.mem_singleton.mp hl]
      exact .part (Nat.le_refl _) hbe he
theorem bring_up0 {nk keep : Nat} {cs : List Ch} {ns : List Int} {ls ms : List Letter} {hs : List HK} (i : AllI nk cs hs) (br : Brings keep cs ns nk ls) (kn : Kn nk cs ns) (hns : ∀ (k : Nat) (h : HK), hs[k]? = some h → ns.getD k 0 ≤ h.upto)
    (hls : ∀ l ∈ ls, l ∈ ms) (got : ∀ l ∈ ms, ∀ (k : Nat) (h : HK), hs[k]? = some h → Got k l h) : ∀ (k : Nat) (h : HK), hs[k]? = some h → (lof cs k : Int) ≤ h.upto := fun k h eh => by
  have := bring_up (ds := []) (i.on []) br kn hns hls (fun j c hj e => by
    rw [List.append_nil] at e
    have := (List.getElem?_eq_some_iff.mp e).1
    omega) got k h eh
  rwa [List.append_nil] at this
end Cu

namespace Cu
open PySem PySem.Spec PyProof.Rows L2
/-! more known, more kept: less is wanted -/
def mine (cs : List Ch) (k : Nat) : List Letter := (lets cs).filter fun l => decide (l.keyOf = k)
theorem mineP (cs : List Ch) (k : Nat) : (mine cs k).Pairwise fun a b => a.numOf < b.numOf := (letsP cs).filter _
/-- of a rising list what is above a bound is what is left behind some -/
theorem above_drop (p : Letter → Bool) (hp : ∀ a b : Letter, a.numOf < b.numOf → p a = true → p b = true) : ∀ {ls : List Letter}, ls.Pairwise (fun a b => a.numOf < b.numOf) → ∃ j, j ≤ ls.length ∧ ls.filter p = ls.drop j ∧ ∀ (i : Nat) (l : Letter), ls[i]? = some l → (p l = true ↔ j ≤ i)
  | [], _ => ⟨0, Nat.le_refl _, rfl, fun i l e => by simp at e⟩
  | l :: ls, h => by
    obtain ⟨h1, h2⟩ := List.pairwise_cons.mp h
    by_cases q : p l = true
    · refine ⟨0, Nat.zero_le _, ?_, fun i x e => ⟨fun _ => Nat.zero_le _, fun _ => ?_⟩⟩
      · rw [List.drop_zero]
        refine List.filter_eq_self.mpr fun x hx => ?_
        rcases List.mem_cons.mp hx with hx | hx
        · rw [hx]
          exact q
        · exact hp l x (h1 x hx) q
      · rcases List.mem_cons.mp (List.mem_of_getElem? e) with hx | hx
        · rw [hx]
          exact q
        · exact hp l x (h1 x hx) q
    · obtain ⟨j, j1, j2, j3⟩ := above_drop p hp h2
      refine ⟨j + 1, by rw [List.length_cons]; omega, ?_, fun i x e => ?_⟩
      · rw [List.filter_cons_of_neg q, List.drop_succ_cons]
        exact j2
      · cases i with
        | zero =>
          have e : l = x := by simpa using e
          subst e
          exact ⟨fun z => absurd z q, fun z => absurd z (Nat.not_succ_le_zero j)⟩
        | succ i =>
          rw [j3 i x (by simpa using e)]
          omega
theorem lets_num {cs : List Ch} {i : Nat} {l : Letter} (e : (lets cs)[i]? = some l) : l.numOf = i + 1 := by
  have hi := (List.getElem?_eq_some_iff.mp e).1
  rw [lets_length] at hi
  rw [lets_get (List.getElem?_eq_getElem hi)] at e
  cases e
  rfl
theorem tailL_filter (keep : Nat) (cs : List Ch) : tailL keep cs = (lets cs).filter fun l => decide (cs.length - keep < l.numOf) := by
  obtain ⟨j, j1, j2, j3⟩ := above_drop (fun l => decide (cs.length - keep < l.numOf)) (fun a b h q => decide_eq_true (by have := of_decide_eq_true q; omega)) (letsP cs)
  rw [j2]
  unfold tailL
  rw [lets_length] at j1
  by_cases q : j = cs.length - keep
  · rw [q]
  · exfalso
    by_cases hlt : j < cs.length - keep
    · have hjl : j < (lets cs).length := by rw [lets_length]; omega
      have e := List.getElem?_eq_getElem hjl
      have h1 := of_decide_eq_true ((j3 j _ e).mpr (Nat.le_refl j))
      rw [lets_num e] at h1
      omega
    · have hlt : cs.length - keep < (lets cs).length := by rw [lets_length]; omega
      have e := List.getElem?_eq_getElem hlt
      have h1 := (j3 (cs.length - keep) _ e).mp (decide_eq_true (by rw [lets_num e]; omega))
      omega
theorem someL_mine (keep : Nat) (cs : List Ch) (u : Int) (k : Nat) : someL keep cs u k = (mine cs k).filter fun l => decide (cs.length - keep < l.numOf) && decide (u < (l.numOf : Int)) := by
  unfold someL mine
  rw [tailL_filter, List.filter_filter, List.filter_filter]
  refine List.filter_congr fun l _ => ?_
  cases decide (l.keyOf = k) <;> cases decide (cs.length - keep < l.numOf) <;> cases decide (u < (l.numOf : Int)) <;> rfl
theorem someL_drop (keep : Nat) (cs : List Ch) (u : Int) (k : Nat) : ∃ j, j ≤ (mine cs k).length ∧ someL keep cs u k = (mine cs k).drop j ∧ ∀ (i : Nat) (l : Letter), (mine cs k)[i]? = some l → ((cs.length - keep < l.numOf ∧ u < (l.numOf : Int)) ↔ j ≤ i) := by
  obtain ⟨j, j1, j2, j3⟩ := above_drop (fun l => decide (cs.length - keep < l.numOf) && decide (u < (l.numOf : Int))) (fun a b h q => by
    rw [Bool.and_eq_true] at q ⊢
    have q1 := of_decide_eq_true q.1
    have q2 := of_decide_eq_true q.2
    exact ⟨decide_eq_true (by omega), decide_eq_true (by omega)⟩) (mineP cs k)
  refine ⟨j, j1, by rw [someL_mine]; exact j2, fun i l e => ?_⟩
  rw [← j3 i l e, Bool.and_eq_true, decide_eq_true_eq, decide_eq_true_eq]
theorem mine_in {cs : List Ch} {k : Nat} {l : Letter} (h : l ∈ mine cs k) : ∃ m c, cs[m]? = some c ∧ c.key = k ∧ l = .change (m + 1) c (lof (cs.take m) c.key) := by
  obtain ⟨h1, h2⟩ := List.mem_filter.mp h
  obtain ⟨m, c, e, rfl⟩ := lets_mem h1
  exact ⟨m, c, e, of_decide_eq_true h2, rfl⟩
theorem in_mine {cs : List Ch} {k m : Nat} {c : Ch} (e : cs[m]? = some c) (hk : c.key = k) : Letter.change (m + 1) c (lof (cs.take m) c.key) ∈ mine cs k :=
  List.mem_filter.mpr ⟨List.mem_of_getElem? (lets_get e), decide_eq_true hk⟩
/-- ahead of a change of a key is the one before it -/
theorem mine_ahd {cs : List Ch} {k i : Nat} {l l0 : Letter} (e0 : (mine cs k)[i]? = some l0) (e1 : (mine cs k)[i + 1]? = some l) : l.ahd = l0.numOf := by
  obtain ⟨m, c, a1, a2, rfl⟩ := mine_in (List.mem_of_getElem? e1)
  obtain ⟨m0, c0, b1, b2, rfl⟩ := mine_in (List.mem_of_getElem? e0)
  have pw := mineP cs k
  have hi1 := (List.getElem?_eq_some_iff.mp e1).1
  have hi0 := (List.getElem?_eq_some_iff.mp e0).1
  have lt := (List.pairwise_iff_getElem.mp pw) i (i + 1) hi0 hi1 (Nat.lt_succ_self i)
  rw [(List.getElem?_eq_some_iff.mp e0).2, (List.getElem?_eq_some_iff.mp e1).2] at lt
  have lt : m0 + 1 < m + 1 := lt
  show lof (cs.take m) c.key = m0 + 1
  have ge := lof_ge (j := m) b1 b2 (by omega)
  rw [a2]
  rcases lof_is (cs.take m) k with q | ⟨j, d, q1, q2, q3⟩
  · omega
  · obtain ⟨q4, q5⟩ := take_get q1
    obtain ⟨x, hx⟩ := List.getElem?_of_mem (in_mine q4 q2)
    have hxl := (List.getElem?_eq_some_iff.mp hx).1
    have num : ∀ {y : Nat} {z : Letter}, (mine cs k)[y]? = some z → ∀ (h : y < (mine cs k).length), (mine cs k)[y] = z := fun e h => (List.getElem?_eq_some_iff.mp e).2
    have hxi : x = i := by
      by_cases r1 : x < i
      · have := (List.pairwise_iff_getElem.mp pw) x i hxl hi0 r1
        rw [num hx, num e0] at this
        have : j + 1 < m0 + 1 := this
        omega
      · by_cases r2 : i + 1 < x
        · have := (List.pairwise_iff_getElem.mp pw) (i + 1) x hi1 hxl r2
          rw [num hx, num e1] at this
          have : m + 1 < j + 1 := this
          omega
        · by_cases r3 : x = i + 1
          · subst r3
            rw [hx] at e1
            have e1 := Option.some.inj e1
            injection e1 with e1 _ _
            omega
          · omega
    subst hxi
    rw [hx] at e0
    have e0 := Option.some.inj e0
    injection e0 with e0 _ _
    omega
theorem mine_last {cs : List Ch} {k : Nat} {u : Int} (hu : u < (lof cs k : Int)) (h0 : 0 < lof cs k) : ∃ i l, i + 1 = (mine cs k).length ∧ (mine cs k)[i]? = some l ∧ l.numOf = lof cs k := by
  rcases lof_is cs k with q | ⟨j, c, q1, q2, q3⟩
  · omega
  · obtain ⟨x, hx⟩ := List.getElem?_of_mem (in_mine q1 q2)
    have hxl := (List.getElem?_eq_some_iff.mp hx).1
    refine ⟨x, _, ?_, hx, by rw [q3]; rfl⟩
    by_cases r : x + 1 < (mine cs k).length
    · exfalso
      have e2 := List.getElem?_eq_getElem r
      obtain ⟨m, d, a1, a2, a3⟩ := mine_in (List.mem_of_getElem? e2)
      have := (List.pairwise_iff_getElem.mp (mineP cs k)) x (x + 1) hxl r (Nat.lt_succ_self x)
      rw [(List.getElem?_eq_some_iff.mp hx).2, a3] at this
      have : j + 1 < m + 1 := this
      have hm := (List.getElem?_eq_some_iff.mp a1).1
      have := lof_ge (j := cs.length) a1 a2 hm
      rw [List.take_length] at this
      omega
    · omega
/-- the i-th change of the key and those behind it bring it up -/
def Use (T : Nat) (u : Int) (M : List Letter) (i : Nat) : Prop := ∃ l, M[i]? = some l ∧ T < l.numOf ∧ (l.isSet = true ∨ (l.ahd : Int) ≤ u)
theorem setsL_mem {sm : List Letter} {i : Nat} : i ∈ setsL sm ↔ ∃ l, sm[i]? = some l ∧ l.isSet = true := by
  unfold setsL
  rw [List.mem_filter, List.mem_range]
  constructor
  · rintro ⟨h1, h2⟩
    rw [List.getElem?_eq_getElem h1] at h2
    have h2 : (some sm[i].isSet == some true) = true := h2
    exact ⟨sm[i], List.getElem?_eq_getElem h1, by simpa using h2⟩
  · rintro ⟨l, h1, h2⟩
    refine ⟨(List.getElem?_eq_some_iff.mp h1).1, ?_⟩
    rw [h1]
    show (some l.isSet == some true) = true
    rw [h2]
    rfl
theorem setsL_last {sm : List Letter} {ini : List Nat} {i : Nat} (e : setsL sm = ini ++ [i]) : (∃ l, sm[i]? = some l ∧ l.isSet = true) ∧ ∀ j l, sm[j]? = some l → l.isSet = true → j ≤ i := by
  refine ⟨setsL_mem.mp (by rw [e]; simp), fun j l h1 h2 => ?_⟩
  have hj : j ∈ setsL sm := setsL_mem.mpr ⟨l, h1, h2⟩
  have pw : (setsL sm).Pairwise (· < ·) := (List.pairwise_lt_range).filter _
  rw [e] at hj pw
  rcases List.mem_append.mp hj with q | q
  · exact Nat.le_of_lt ((List.pairwise_append.mp pw).2.2 j q i (List.mem_singleton_self i))
  · rw [List.mem_singleton.mp q]
    exact Nat.le_refl _
theorem wantL_use {keep : Nat} {cs : List Ch} {u : Int} {k : Nat} {w : List Letter} (h0 : ¬ (lof cs k : Int) ≤ u) (h : wantL keep cs u k = some w) : ∃ i, Use (cs.length - keep) u (mine cs k) i ∧ w.length = (mine cs k).length - i := by
  unfold wantL at h
  rw [if_neg h0] at h
  obtain ⟨j, j1, j2, j3⟩ := someL_drop keep cs u k
  rw [j2] at h
  rcases List.eq_nil_or_concat (setsL ((mine cs k).drop j)) with es | ⟨ini, i, es⟩
  · rw [wantS_no es] at h
    split at h
    · rename_i hf
      cases h
      cases hsm : (mine cs k).drop j with
      | nil =>
        rw [hsm] at hf
        cases hf
      | cons l ls =>
        rw [hsm] at hf
        have hf : (l.ahd : Int) ≤ u := of_decide_eq_true hf
        have el : (mine cs k)[j]? = some l := by
          have : ((mine cs k).drop j)[0]? = some l := by rw [hsm]; rfl
          rwa [List.getElem?_drop, Nat.add_zero] at this
        exact ⟨j, ⟨l, el, ((j3 j l el).mpr (Nat.le_refl j)).1, .inr hf⟩, by rw [← hsm, List.length_drop]⟩
    · cases h
  · rw [List.concat_eq_append] at es
    rw [wantS_set es] at h
    cases h
    obtain ⟨⟨l, e1, e2⟩, _⟩ := setsL_last es
    rw [List.getElem?_drop] at e1
    refine ⟨j + i, ⟨l, e1, ((j3 _ l e1).mpr (Nat.le_add_right j i)).1, .inl e2⟩, ?_⟩
    rw [List.length_drop, List.length_drop]
    omega
theorem use_want {keep : Nat} {cs : List Ch} {u : Int} {k i : Nat} (h : Use (cs.length - keep) u (mine cs k) i) : ∃ w, wantL keep cs u k = some w ∧ w.length ≤ (mine cs k).length - i := by
  obtain ⟨l, el, hT, hs⟩ := h
  have hil := (List.getElem?_eq_some_iff.mp el).1
  unfold wantL
  by_cases h0 : (lof cs k : Int) ≤ u
  · rw [if_pos h0]
    exact ⟨[], rfl, Nat.zero_le _⟩
  · rw [if_neg h0]
    obtain ⟨j, j1, j2, j3⟩ := someL_drop keep cs u k
    rw [j2]
    have hpos : 0 < lof cs k := by
      obtain ⟨m, c, a1, a2, rfl⟩ := mine_in (List.mem_of_getElem? el)
      have := lof_ge (j := cs.length) a1 a2 (List.getElem?_eq_some_iff.mp a1).1
      rw [List.take_length] at this
      omega
    obtain ⟨x, lx, x1, x2, x3⟩ := mine_last (u := u) (by omega) hpos
    have hjx : j ≤ x := by
      refine (j3 x lx x2).mp ⟨?_, by rw [x3]; omega⟩
      by_cases r : i = x
      · subst r
        rw [x2] at el
        cases el
        exact hT
      · have := (List.pairwise_iff_getElem.mp (mineP cs k)) i x hil (by omega) (by omega)
        rw [(List.getElem?_eq_some_iff.mp el).2, (List.getElem?_eq_some_iff.mp x2).2] at this
        omega
    rcases List.eq_nil_or_concat (setsL ((mine cs k).drop j)) with es | ⟨ini, y, es⟩
    · rw [wantS_no es]
      obtain ⟨l0, e0⟩ : ∃ l0, (mine cs k)[j]? = some l0 := ⟨(mine cs k)[j]'(by omega), List.getElem?_eq_getElem _⟩
      have hij : i ≤ j := by
        by_cases r : i ≤ j
        · exact r
        · exfalso
          rcases hs with hs | hs
          · have : i - j ∈ setsL ((mine cs k).drop j) := setsL_mem.mpr ⟨l, by rw [List.getElem?_drop, show j + (i - j) = i by omega]; exact el, hs⟩
            rw [es] at this
            cases this
          · obtain ⟨lp, ep⟩ : ∃ lp, (mine cs k)[i - 1]? = some lp := ⟨(mine cs k)[i - 1]'(by omega), List.getElem?_eq_getElem _⟩
            have := mine_ahd (i := i - 1) ep (by rw [show i - 1 + 1 = i by omega]; exact el)
            have := ((j3 (i - 1) lp ep).mpr (by omega)).2
            omega
      have hf : (l0.ahd : Int) ≤ u := by
        by_cases r : i = j
        · subst r
          rw [el] at e0
          cases e0
          rcases hs with hs | hs
          · exfalso
            have : 0 ∈ setsL ((mine cs k).drop i) := setsL_mem.mpr ⟨l, by rw [List.getElem?_drop]; exact el, hs⟩
            rw [es] at this
            cases this
          · exact hs
        · obtain ⟨lp, ep⟩ : ∃ lp, (mine cs k)[j - 1]? = some lp := ⟨(mine cs k)[j - 1]'(by omega), List.getElem?_eq_getElem _⟩
          rw [mine_ahd (i := j - 1) ep (by rw [show j - 1 + 1 = j by omega]; exact e0)]
          have hTp : cs.length - keep < lp.numOf := by
            by_cases r2 : i = j - 1
            · subst r2
              rw [el] at ep
              cases ep
              exact hT
            · have := (List.pairwise_iff_getElem.mp (mineP cs k)) i (j - 1) hil (by omega) (by omega)
              rw [(List.getElem?_eq_some_iff.mp el).2, (List.getElem?_eq_some_iff.mp ep).2] at this
              omega
          by_cases r3 : u < (lp.numOf : Int)
          · have := (j3 (j - 1) lp ep).mp ⟨hTp, r3⟩
            omega
          · omega
      have hfo : firstOk ((mine cs k).drop j) u = true := by
        have : (mine cs k).drop j = l0 :: (mine cs k).drop (j + 1) := by
          rw [List.drop_eq_getElem_cons (by omega), (List.getElem?_eq_some_iff.mp e0).2]
        rw [this]
        exact decide_eq_true hf
      rw [if_pos hfo]
      exact ⟨_, rfl, by rw [List.length_drop]; omega⟩
    · rw [List.concat_eq_append] at es
      rw [wantS_set es]
      obtain ⟨⟨ly, e1, e2⟩, hmax⟩ := setsL_last es
      rw [List.getElem?_drop] at e1
      refine ⟨_, rfl, ?_⟩
      rw [List.length_drop, List.length_drop]
      have hiy : i ≤ j + y := by
        by_cases r : i ≤ j + y
        · exact r
        · exfalso
          rcases hs with hs | hs
          · have := hmax (i - j) l (by rw [List.getElem?_drop, show j + (i - j) = i by omega]; exact el) hs
            omega
          · obtain ⟨lp, ep⟩ : ∃ lp, (mine cs k)[i - 1]? = some lp := ⟨(mine cs k)[i - 1]'(by omega), List.getElem?_eq_getElem _⟩
            have := mine_ahd (i := i - 1) ep (by rw [show i - 1 + 1 = i by omega]; exact el)
            have := ((j3 (i - 1) lp ep).mpr (by omega)).2
            omega
      omega
/-- more known, more kept -/
theorem want_mono {keep keep' : Nat} {cs : List Ch} {u u' : Int} {k : Nat} {w : List Letter} (hk : keep ≤ keep') (hu : u ≤ u') (h : wantL keep cs u k = some w) : ∃ w', wantL keep' cs u' k = some w' ∧ w'.length ≤ w.length := by
  by_cases h0 : (lof cs k : Int) ≤ u
  · refine ⟨[], ?_, Nat.zero_le _⟩
    unfold wantL
    rw [if_pos (by omega)]
  · obtain ⟨i, ⟨l, e, hT, hs⟩, hw⟩ := wantL_use h0 h
    obtain ⟨w', h1, h2⟩ := use_want (keep := keep') (cs := cs) (u := u') (k := k) (i := i) ⟨l, e, by omega, hs.imp id fun q => by omega⟩
    exact ⟨w', h1, by omega⟩
theorem want_nil {keep : Nat} {cs : List Ch} {u : Int} {k : Nat} (h : wantL keep cs u k = some []) : (lof cs k : Int) ≤ u := by
  by_cases h0 : (lof cs k : Int) ≤ u
  · exact h0
  · exfalso
    obtain ⟨i, ⟨l, e, _⟩, hw⟩ := wantL_use h0 h
    have := (List.getElem?_eq_some_iff.mp e).1
    have : (0 : Nat) = (mine cs k).length - i := hw
    omega
/-! the least weights -/
theorem lwt_le {cost cost' : Nat → Option Nat} {n : Nat} (h : ∀ k, k < n → ∀ c, cost k = some c → ∃ c', cost' k = some c' ∧ c' ≤ c) : ∀ e, e ≤ n → lwt cost' e ≤ lwt cost e := fun e => by
  have ind : ∀ m e, e ≤ m → e ≤ n → lwt cost' e ≤ lwt cost e := fun m => by
    induction m with
    | zero =>
      intro e he _
      have : e = 0 := by omega
      subst this
      exact Int.le_refl _
    | succ m ih =>
      intro e he hn
      cases e with
      | zero => exact Int.le_refl _
      | succ k =>
        have q := lev_ok cost' k
        rcases (lev_ok cost k).1 with ⟨c, hc, h1⟩ | ⟨j, hj, h1⟩
        · have h1 : lwt cost (k + 1) = lwt cost k + c := congrArg Prod.fst h1
          obtain ⟨c', hc', hle⟩ := h k (by omega) c hc
          have := q.2.1 c' hc'
          have := ih k (by omega) (by omega)
          omega
        · have h1 : lwt cost (k + 1) = lwt cost j + 2 + k + 1 - j := congrArg Prod.fst h1
          have := q.2.2 j (by omega)
          have := ih j (by omega) (by omega)
          omega
  exact ind e e (Nat.le_refl _)
theorem lwt_same {cost cost' : Nat → Option Nat} {n : Nat} (h : ∀ k, k < n → cost k = cost' k) : lwt cost n = lwt cost' n := by
  refine Int.le_antisymm (lwt_le (fun k hk c hc => ⟨c, by rw [h k hk]; exact hc, Nat.le_refl _⟩) n (Nat.le_refl n)) (lwt_le (fun k hk c hc => ⟨c, by rw [← h k hk]; exact hc, Nat.le_refl _⟩) n (Nat.le_refl n))
theorem lwt_step (cost : Nat → Option Nat) (k : Nat) : lwt cost k ≤ lwt cost (k + 1) := by
  rcases (lev_ok cost k).1 with ⟨c, hc, h1⟩ | ⟨j, hj, h1⟩
  · have h1 : lwt cost (k + 1) = lwt cost k + c := congrArg Prod.fst h1
    omega
  · have h1 : lwt cost (k + 1) = lwt cost j + 2 + k + 1 - j := congrArg Prod.fst h1
    by_cases q : j = k
    · subst q
      omega
    · obtain ⟨k', rfl⟩ : ∃ k', k = k' + 1 := ⟨k - 1, by omega⟩
      have := (lev_ok cost k').2.2 j (by omega)
      omega
theorem lwt_most (cost : Nat → Option Nat) {n : Nat} (h : 0 < n) : lwt cost n ≤ 2 + n := by
  obtain ⟨k, rfl⟩ : ∃ k, n = k + 1 := ⟨n - 1, by omega⟩
  have := (lev_ok cost k).2.2 0 (Nat.zero_le k)
  rw [lwt_zero] at this
  omega
theorem lwt_all_zero {cost : Nat → Option Nat} : ∀ {n : Nat}, lwt cost n = 0 → ∀ k, k < n → cost k = some 0
  | 0, _, k, hk => absurd hk (Nat.not_lt_zero k)
  | n + 1, h, k, hk => by
    have hn := lwt_nonneg cost n
    have hs := lwt_step cost n
    rcases (lev_ok cost n).1 with ⟨c, hc, h1⟩ | ⟨j, hj, h1⟩
    · have h1 : lwt cost (n + 1) = lwt cost n + c := congrArg Prod.fst h1
      by_cases q : k = n
      · subst q
        have : c = 0 := by omega
        rw [hc, this]
      · exact lwt_all_zero (n := n) (by omega) k (by omega)
    · have h1 : lwt cost (n + 1) = lwt cost j + 2 + n + 1 - j := congrArg Prod.fst h1
      have := lwt_nonneg cost j
      omega
def pricesM (cost : Nat → Option Nat) (n : Nat) : List Int := (List.range n).map fun k => lwt cost (k + 1) - lwt cost k
theorem prices_sum (cost : Nat → Option Nat) : ∀ n, (pricesM cost n).sum = lwt cost n
  | 0 => rfl
  | n + 1 => by
    have ih := prices_sum cost n
    unfold pricesM at ih ⊢
    rw [List.range_succ, List.map_append, List.sum_append, ih]
    show lwt cost n + (lwt cost (n + 1) - lwt cost n + 0) = _
    omega
end Cu

namespace Cu
open PySem PySem.Spec PyProof.Rows L2
abbrev s_weight : Stmt := (top 13)
theorem sc_weight : FnScope ["letters", "found", "letter"] ["letters"] (defScope s_weight) := ⟨rfl, rfl, rfl, by decide +kernel, rfl, by decide +kernel, by decide +kernel⟩

def spWeight (K : PySem.W.Frag) : Sp := fun vs H Q _ => vs.length = 1 ∧ ∃ (l : Addr) (xs : List V) (ls : List Letter), vs = [.ref l] ∧ SqL K H l xs ∧ RpL K H (ls.map Letter.enc) xs ∧ Q (.int (wtL ls)) H
section
variable {P : Program} {w : World} {K : PySem.W.Frag} {mg : Str → Option Value} {base : Heap}
theorem ok_weight {tk : Tok} (F : Fd K mg "weight" s_weight) (Bm : Blt mg) (km_PART : mg "PART" = some (.int 2 tk)) : Gf P w K mg base 1 "weight" ["letters"] (spWeight K) := by
  refine F.ok sc_weight (fun _ _ _ _ _ _ us hl => match us, hl with | [_], _ => rfl) len_of fun qual f cdv A0 outer s H vs Q E hr h => ?_
  obtain ⟨_, l, xs, ls, rfl, sq, rx, go⟩ := h
  refine ⟨_, (pss_cons (ps_set (i := 1) sc_weight.nd rfl (Or.inl rfl) pe_int)
      (pss_cons (ps_for PassesOwn.never rfl (pi_list (pv 0)) (pg_name (i := 2) sc_weight.nd rfl (Or.inl rfl))
        (pss_one (ps_set (i := 1) sc_weight.nd rfl (Or.inl rfl) (pe_op op_add (pv 1) (pe_ifExp (pt_cmpR op_eq (pe_ix ix_tup (pv 2) pe_int (fun _ _ => rfl)) pe_str (nomark _)) (pe_op op_add (pe_glob (v := .int 2) rfl km_PART ⟨_, rfl⟩) (pe_callB call_len_seq rfl Bm.len (by decide +kernel) (pa_cons (pe_ix ix_tup (pv 2) pe_int (fun _ _ => rfl)) pa_nil))) pe_int)))))
      (pss_one (ps_ret (pv 1))))), ?_⟩
  have hx : xs.length = ls.length := by rw [rx.length, List.length_map]
  refine ⟨_, rfl, l, rfl, ⟨_, sq⟩, for_list (K := K) (a := l) (xs := xs) (fun i σ H2 => ∃ v, σ = [some (.ref l), some (.int (wtL (ls.take i))), v] ∧ H2 = H) ⟨none, rfl, rfl⟩ (fun i σ H2 _ ⟨_, _, e⟩ => by rw [e]; exact sq) ?_ ?_⟩
  · rintro i x σ H2 hi ⟨v, rfl, rfl⟩
    have hi' : i < ls.length := by
      have := (List.getElem?_eq_some_iff.mp hi).1
      omega
    obtain ⟨y, ey⟩ : ∃ y, ls[i]? = some y := ⟨ls[i], List.getElem?_eq_getElem hi'⟩
    obtain ⟨x', ex, ry⟩ := rx.get (i := i) (d := y.enc) (by rw [List.getElem?_map, ey]; rfl)
    rw [hi] at ex
    cases ex
    have ew : wtL (ls.take (i + 1)) = wtL (ls.take i) + y.wt := by
      rw [take_snoc ey, wtL_app]
      simp [wtL]
    rw [ew]
    cases y with
    | change n c ahead =>
      obtain ⟨a, rfl, ha⟩ := ry.chg_inv
      exact ⟨_, rfl, _, rfl, a, _, _, _, rfl, rfl, SqT.of ha, rfl, rfl, _, rfl, iteM (by decide +kernel) ⟨_, _, rfl, rfl, _, rfl, rfl⟩⟩
    | part n b rows =>
      obtain ⟨a, t, ys, rfl, ha, ht, hys, _⟩ := ry.part_inv
      refine ⟨_, rfl, _, rfl, a, _, _, _, rfl, rfl, SqT.of ha, rfl, rfl, _, rfl, iteP (by decide +kernel) ⟨_, rfl, a, _, _, _, rfl, rfl, SqT.of ha, rfl, t, ys, rfl, .inr (SqT.of ht), _, _, rfl, rfl, _, _, rfl, rfl, some (V.ref a), ?_, rfl⟩⟩
      have e2 : (Letter.part n b rows).wt = 2 + rows.length := rfl
      exact congrArg (fun z => [some (V.ref l), some (V.int z), some (V.ref a)]) (show ((wtL (ls.take i) : Nat) : Int) + (2 + (ys.length : Int)) = ((wtL (ls.take i) + (Letter.part n b rows).wt : Nat) : Int) by omega)
    | beat n lasts =>
      obtain ⟨a, t, rfl, ha, ht⟩ := ry.beat_inv
      exact ⟨_, rfl, _, rfl, a, _, _, _, rfl, rfl, SqT.of ha, rfl, rfl, _, rfl, iteM (by decide +kernel) ⟨_, _, rfl, rfl, _, rfl, rfl⟩⟩
  · rintro σ H2 ⟨v, rfl, rfl⟩
    rw [List.take_of_length_le (by omega)]
    exact ⟨_, rfl, go⟩
end
end Cu

namespace Cu
open PySem PySem.Spec PyProof.Rows L2
abbrev s_prices : Stmt := (top 15)
theorem sc_prices : FnScope ["board", "known", "found", "key"] ["board", "known"] (defScope s_prices) := ⟨rfl, rfl, rfl, by decide +kernel, rfl, by decide +kernel, by decide +kernel⟩

def spPrices (K : PySem.W.Frag) (CB : Addr) : Sp := fun vs H Q _ => vs.length = 2 ∧ ∃ (B : BA) (nk keep : Nat) (cs : List Ch) (c : Lg) (kn : Addr) (ns : List Int), vs = [.ref B.p, .ref kn] ∧ BR K CB B nk keep cs H c ∧ Has H c ∧ StL K H kn (ns.map V.int) ∧ Kn nk cs ns ∧ nk ≤ 8 ∧ keep ≤ 20 ∧
  ∀ (r : Addr) (H' : Hp), Tr H [] H' [(r, .lst ((pricesM (costL keep cs ns) nk).map V.int))] → Q (.ref r) H'
section
variable {P : Program} {w : World} {K : PySem.W.Frag} {mg : Str → Option Value} {base : Heap} {CB : Addr}
theorem ok_prices (F : Fd K mg "prices" s_prices) (Bm : Blt mg) (CBoard : CBo K CB) (g_need_known : Gf P w K mg base 2 "need_known" ["board", "known"] (spNeed K CB)) (g_levels : Gf P w K mg base 3 "levels" ["board", "known"] (spLevels K CB)) (m_Board_size : Mf P w K mg base 1 CB "size" ["self"] (spBsize K CB)) :
    Gf P w K mg base 4 "prices" ["board", "known"] (spPrices K CB) := by
  refine F.ok sc_prices (fun _ _ _ _ _ _ us hl => match us, hl with | [_, _], _ => rfl) len_of fun qual f cdv A0 outer s H vs Q E hr h => ?_
  obtain ⟨_, B, nk, keep, cs, c, kn, ns, rfl, r, hc, st, kk, h8, hkp, go⟩ := h
  refine ⟨_, (pss_cons (ps_expr (pc g_need_known hr (pa_cons (pv 0) (pa_cons (pv 1) pa_nil))))
      (pss_cons (ps_set (i := 2) sc_prices.nd rfl (Or.inr rfl) (pe_ix ix_tup (pc g_levels hr (pa_cons (pv 0) (pa_cons (pv 1) pa_nil))) pe_int (fun _ _ => rfl)))
      (pss_one (ps_ret (pe_lc (own := [("key", 3)]) (g := (gName 3)) (tt := tYes) rfl sc_prices.nd (pi_range1 rfl Bm.range (pa_cons (pm0 (pv 0) CBoard.cl m_Board_size hr) pa_nil)) (blkOk_by (N := ["board", "known", "found", "key"]) (sc := defScope s_prices) (by decide +kernel)) (fun _ _ _ _ _ => (pg_name (i := 3) sc_prices.nd rfl (Or.inl rfl))) (fun _ _ _ _ _ => pts_nil) (fun _ _ _ _ _ => (pe_op op_sub (pe_ix (ix_listK K rfl) (pv 2) (pe_op op_add (pv 3) pe_int) (fun _ _ => rfl)) (pe_ix (ix_listK K rfl) (pv 2) (pv 3) (fun _ _ => rfl))))))))), ?_⟩
  have up : ∀ {H2 : Hp} {O : Lg}, Tr H [] H2 O → Has H2 c ∧ BR K CB B nk keep cs H2 c := fun t => ⟨(t.has c hc).right, r.mono t.mono⟩
  refine ⟨_, rfl, _, rfl, rfl, B, nk, keep, cs, c, kn, ns, rfl, r, hc, st.sq, kk, h8, ?_⟩
  refine ⟨_, rfl, _, rfl, rfl, B, nk, keep, cs, c, kn, ns, rfl, r, hc, st, kk.len, h8, hkp, fun t p q H1 t1 ht => ?_⟩
  generalize costL keep cs ns = cost at t1 go
  refine ⟨t, _, _, _, rfl, rfl, SqT.of ht, rfl, ?_⟩
  have t2 := t1.tail
  refine rd_bsize (by rfl) (up t2).2 (up t2).1 ⟨_, rfl, by omega, by omega, fun D hD => ?_⟩
  refine lc_range (lo := 0) (n := (nk : Int).toNat) (fun i H2 => Tr H [] H2 [(D, .lst ((pricesM cost i).map V.int)), (p, .lst ((lev cost nk).1.map V.int))]) (t2.new hD nl) ?_ ?_
  · rintro i H2 hi t3
    have hl := (lev_len cost nk).1
    have ez : ((0 : Int) + i) = (i : Int) := by omega
    have ez1 : ((0 : Int) + i + 1) = ((i + 1 : Nat) : Int) := by omega
    have at_ : ∀ {e : Nat} {z : Int}, e ≤ nk → z = e → atI ((lev cost nk).1.map V.int) z = some (V.int (lwt cost e)) := fun {e z} he hz => by
      rw [← (lev_get cost he).1]
      subst hz
      exact getD_at (by omega)
    refine ⟨rfl, _, rfl, _, rfl, _, _, rfl, rfl, p, _, _, _, rfl, rfl, SqL.of t3.own.tail.head, at_ (e := i + 1) (by omega) ez1, _, rfl, _, rfl, p, _, _, _, rfl, rfl, SqL.of t3.own.tail.head, at_ (e := i) (by omega) ez, _, _, rfl, rfl, _, t3.own.head, ?_, ?_⟩
    · rw [List.length_map, pricesM, List.length_map, List.length_range]
      exact small1000 (by omega)
    · have e : pricesM cost (i + 1) = pricesM cost i ++ [lwt cost (i + 1) - lwt cost i] := by
        unfold pricesM
        rw [List.range_succ, List.map_append]
        rfl
      rw [e, List.map_append]
      exact t3.put .nil nl
  · rintro H2 t3
    rw [Int.toNat_natCast] at t3
    exact go D H2 (t3.sub (List.Sublist.cons_cons _ (List.nil_sublist _)))
end
end Cu

namespace Cu
open PySem PySem.Spec PyProof.Rows L2
abbrev s_known : Stmt := (top 32)
theorem sc_known : FnScope ["_law_d", "_law_keys", "_law_number", "_law_found", "_law_key", "_law_near"] ["_law_d", "_law_keys", "_law_number"] (defScope s_known) := ⟨rfl, rfl, rfl, by decide +kernel, rfl, by decide +kernel, by decide +kernel⟩

def spLknown (K : PySem.W.Frag) : Sp := fun vs H Q _ => vs.length = 3 ∧ ∃ (a : Addr) (nk : Nat) (cs : List Ch) (R : Lg), vs = [.ref a, .int nk, .int cs.length] ∧ nk ≤ 8 ∧ cs.length ≤ 1000 ∧ Dice K H a R ∧
  ∀ (p : Addr) (ns : List Int) (H' : Hp), Kn nk cs ns → Mono H H' → Dice K H' a R → FzL K H' p (ns.map V.int) → Q (.ref p) H'
section
variable {P : Program} {w : World} {K : PySem.W.Frag} {mg : Str → Option Value} {base : Heap}
theorem ok_lknown (F : Fd K mg "_law_known" s_known) (Bm : Blt mg) (g_next : Gf P w K mg base 1 "_law_next" ["_law_dice_here", "_law_many"] (spNext K)) : Gf P w K mg base 2 "_law_known" ["_law_d", "_law_keys", "_law_number"] (spLknown K) := by
  refine F.ok sc_known (fun _ _ _ _ _ _ us hl => match us, hl with | [_, _, _], _ => rfl) len_of fun qual f cdv A outer s H vs Q E hr h => ?_
  obtain ⟨_, a, nk, cs, R, rfl, hk8, hcl, d, go⟩ := h
  refine ⟨_, (pss_cons (ps_set (i := 3) sc_known.nd rfl (Or.inl rfl) (pe_lst pa_nil))
      (pss_cons (ps_for PassesOwn.never rfl (pi_range1 rfl Bm.range (pa_cons (pv 1) pa_nil)) (pg_name (i := 4) sc_known.nd rfl (Or.inl rfl))
        (pss_cons (ps_set (i := 5) sc_known.nd rfl (Or.inl rfl) (pe_callB (call_max2 rfl) rfl Bm.max (by decide +kernel) (pa_cons (pe_un un_neg pe_int) (pa_cons (pe_op op_sub (pv 2) (pc g_next hr (pa_cons (pv 0) (pa_cons pe_int pa_nil)))) pa_nil))))
        (pss_one (ps_expr (pe_bm PySem.F.plainAttrs_list PySem.F.slot_list_append PySem.F.type_list_append mt_append (pv 3) (pa_cons (pe_ix ix_list (pe_lst (pa_cons (pv 5) (pa_cons (pv 2) (pa_cons (pe_op op_sub (pc g_next hr (pa_cons (pv 0) (pa_cons (pe_op op_add (pv 2) pe_int) pa_nil))) pe_int) (pa_cons (pe_un un_neg pe_int) pa_nil))))) (pc g_next hr (pa_cons (pv 0) (pa_cons pe_int pa_nil))) (fun _ _ => rfl)) pa_nil))))))
      (pss_one (ps_ret (pe_fz (pv 3)))))), ?_⟩
  refine ⟨(by show 0 ≤ sizeLine; decide), fun p hp => ?_⟩
  have d1 := d.new (o := .lst []) hp nl
  refine ⟨_, rfl, _, rfl, by omega, by omega, for_range (lo := 0) (n := (nk : Int).toNat) (fun i σ H2 => ∃ (ns : List Int) (v4 v5 : Option V), σ = [some (.ref a), some (.int nk), some (.int cs.length), some (.ref p), v4, v5] ∧ Mono H H2 ∧ Dice K H2 a ((p, .lst (ns.map V.int)) :: R) ∧ ns.length = i ∧ ∀ n ∈ ns, -1 ≤ n ∧ n ≤ cs.length)
    ⟨[], none, none, rfl, Mono.new hp, d1, rfl, fun _ h => (nomatch h)⟩ ?_ ?_⟩
  · rintro i σ H2 hi ⟨ns, v4, v5, rfl, m2, d2, hl_, hb⟩
    refine ⟨_, rfl, _, rfl, _, rfl, rfl, a, 6, _, rfl, by decide, by decide, d2, fun r3 H3 p3 q3 m3 d3 => ⟨_, _, rfl, rfl, _, _, rfl, ?_⟩⟩
    obtain ⟨near, en, hn⟩ : ∃ near : Int, (if (cs.length : Int) - r3 > -1 then (cs.length : Int) - r3 else -1) = near ∧ -1 ≤ near ∧ near ≤ cs.length := by
      refine ⟨_, rfl, ?_⟩
      split <;> omega
    show gName 5 (V.int (if (cs.length : Int) - r3 > -1 then (cs.length : Int) - r3 else -1)) _ _ _
    rw [en]
    refine ⟨_, rfl, .inl ⟨rfl, _, SqL.of d3.at_⟩, _, rfl, _, rfl, _, rfl, _, rfl, _, _, rfl, rfl, rfl, a, (cs.length : Int) + 2, _, rfl, by omega, by omega, d3, fun r4 H4 p4 q4 m4 d4 => ⟨_, _, rfl, rfl, _, rfl, (by show 4 ≤ sizeLine; decide), fun l hl => ?_⟩⟩
    have d5 := d4.new (o := .lst [.int near, .int cs.length, .int (r4 - 1), .int (-1)]) hl nl
    refine ⟨_, rfl, rfl, a, 4, _, rfl, by decide, by decide, d5, fun r6 H6 p6 q6 m6 d6 => ?_⟩
    obtain ⟨v, hv, hm⟩ := at_some (xs := [.int near, .int cs.length, .int (r4 - 1), .int (-1)]) p6 q6
    obtain ⟨z, rfl, hz1, hz2⟩ : ∃ z : Int, v = V.int z ∧ -1 ≤ z ∧ z ≤ cs.length := by
      simp only [List.mem_cons, List.not_mem_nil, or_false] at hm
      rcases hm with e | e | e | e
      · exact ⟨_, e, hn⟩
      · exact ⟨_, e, by omega, by omega⟩
      · exact ⟨_, e, by omega, by omega⟩
      · exact ⟨_, e, by omega, by omega⟩
    have d7 := d6.tail
    refine ⟨l, _, _, _, rfl, rfl, SqL.of d6.at_, hv, _, _, _, rfl, rfl, d7.at_, by rw [List.length_map, hl_]; exact small1000 (by omega), ?_⟩
    have m8 := ((m3.trans m4).trans (Mono.new hl)).trans m6
    refine ⟨ns ++ [z], _, _, rfl, (m2.trans m8).trans d7.mput, ?_, by rw [List.length_append, hl_]; rfl, fun n hn => ?_⟩
    · rw [List.map_append]
      exact d7.put nl
    · rcases List.mem_append.mp hn with h | h
      · exact hb n h
      · rw [List.mem_singleton.mp h]
        exact ⟨hz1, hz2⟩
  · rintro σ H2 ⟨ns, v4, v5, rfl, m2, d2, hl, hb⟩
    refine rd_fz ⟨_, rfl, p, _, rfl, d2.at_, fun o => ?_⟩
    exact go p ns _ ⟨by rw [hl]; omega, hb⟩ (m2.trans d2.mfz) d2.fz FzL.frz
end
end Cu

namespace Cu
open PySem PySem.Spec PyProof.Rows L2
section
variable {K : PySem.W.Frag} {H : Hp} {CB : Addr} {σ : L2.St} {Q : VK} {i j : Nat} {B : BA} {nk keep : Nat} {cs : List Ch} {c : Lg} {kn : Addr} {ns : List Int}
/-- answer(board, known) -/
theorem rd_ans (h1 : σ[i]? = some (some (.ref B.p))) (h2 : σ[j]? = some (some (.ref kn))) (r : BR K CB B nk keep cs H c) (hc : Has H c) (st : StL K H kn (ns.map V.int)) (kk : Kn nk cs ns) (h8 : nk ≤ 8) (hkp : keep ≤ 20)
    (q : ∀ (rr : Addr) (xs : List V) (ls : List Letter) (H' : Hp), Tr H [] H' [(rr, .lst xs)] → RpL K H' (ls.map Letter.enc) xs → Brings keep cs ns nk ls → (wtL ls : Int) = lwt (costL keep cs ns) nk → ls.length ≤ 21 * nk → Q (.ref rr) H') :
    tCall (spAnswer K CB) [] E0 (tCons (tVar i) (tCons (tVar j) tNil)) σ H Q := ⟨_, h1, _, h2, rfl, B, nk, keep, cs, c, kn, ns, rfl, r, hc, st, kk, h8, hkp, q⟩
/-- weight(answer(board, known)) -/
theorem rd_wa (h1 : σ[i]? = some (some (.ref B.p))) (h2 : σ[j]? = some (some (.ref kn))) (r : BR K CB B nk keep cs H c) (hc : Has H c) (st : StL K H kn (ns.map V.int)) (kk : Kn nk cs ns) (h8 : nk ≤ 8) (hkp : keep ≤ 20)
    (q : ∀ H', Grow H H' → Q (.int (lwt (costL keep cs ns) nk)) H') : tCall (spWeight K) [] E0 (tCons (tCall (spAnswer K CB) [] E0 (tCons (tVar i) (tCons (tVar j) tNil))) tNil) σ H Q :=
  rd_ans h1 h2 r hc st kk h8 hkp fun rr xs ls H' t rx _ hw _ => ⟨rfl, rr, xs, ls, rfl, SqL.of t.own.head, rx, by rw [hw]; exact q H' (t.sub (List.nil_sublist _))⟩
/-- prices(board, known) -/
theorem rd_prices (h1 : σ[i]? = some (some (.ref B.p))) (h2 : σ[j]? = some (some (.ref kn))) (r : BR K CB B nk keep cs H c) (hc : Has H c) (st : StL K H kn (ns.map V.int)) (kk : Kn nk cs ns) (h8 : nk ≤ 8) (hkp : keep ≤ 20)
    (q : ∀ (rr : Addr) (H' : Hp), Tr H [] H' [(rr, .lst ((pricesM (costL keep cs ns) nk).map V.int))] → Q (.ref rr) H') : tCall (spPrices K CB) [] E0 (tCons (tVar i) (tCons (tVar j) tNil)) σ H Q :=
  ⟨_, h1, _, h2, rfl, B, nk, keep, cs, c, kn, ns, rfl, r, hc, st, kk, h8, hkp, q⟩
end
theorem ans_nil {keep : Nat} {cs : List Ch} {ns : List Int} {nk : Nat} {ls : List Letter} (h : (wtL ls : Int) = lwt (costL keep cs ns) nk) (hl : ∀ k, k < nk → (lof cs k : Int) ≤ ns.getD k 0) : ls = [] := by
  refine wtL_zero ?_
  have := cost_none (keep := keep) hl
  omega
theorem cost_zero_iff {keep : Nat} {cs : List Ch} {ns : List Int} {nk : Nat} : lwt (costL keep cs ns) nk = 0 ↔ ∀ k, k < nk → (lof cs k : Int) ≤ ns.getD k 0 := by
  constructor
  · intro h k hk
    have h1 := lwt_all_zero h k hk
    unfold costL at h1
    cases hw : wantL keep cs (ns.getD k 0) k with
    | none =>
      rw [hw] at h1
      cases h1
    | some w =>
      rw [hw] at h1
      have h1 : w.length = 0 := Option.some.inj h1
      have : w = [] := List.eq_nil_of_length_eq_zero h1
      subst this
      exact want_nil hw
  · exact cost_none
theorem cost_le {keep keep' : Nat} {cs : List Ch} {ns ns' : List Int} {nk : Nat} (hk : keep ≤ keep') (h : ∀ k, k < nk → ns.getD k 0 ≤ ns'.getD k 0) : lwt (costL keep' cs ns') nk ≤ lwt (costL keep cs ns) nk :=
  lwt_le (fun k hkn c hc => by
    unfold costL at hc ⊢
    cases hw : wantL keep cs (ns.getD k 0) k with
    | none =>
      rw [hw] at hc
      cases hc
    | some w =>
      rw [hw] at hc
      have hc : w.length = c := Option.some.inj hc
      obtain ⟨w', h1, h2⟩ := want_mono hk (h k hkn) hw
      exact ⟨w'.length, by rw [h1]; rfl, by omega⟩) nk (Nat.le_refl nk)
theorem cost_same {keep : Nat} {cs : List Ch} {ns ns' : List Int} {nk : Nat} (h : ∀ k, k < nk → ns.getD k 0 = ns'.getD k 0 ∨ ((lof cs k : Int) ≤ ns.getD k 0 ∧ (lof cs k : Int) ≤ ns'.getD k 0)) : lwt (costL keep cs ns) nk = lwt (costL keep cs ns') nk :=
  lwt_same fun k hk => by
    unfold costL
    rcases h k hk with q | ⟨q1, q2⟩
    · rw [q]
    · unfold wantL
      rw [if_pos q1, if_pos q2]
end Cu

namespace Cu
open PySem PySem.Spec PyProof.Rows L2
/-! prices that show -/
def Shows (cost : Nat → Option Nat) (ps : List Int) (nk : Nat) : Prop := ∀ k, k < nk → 0 ≤ ps.getD k 0 ∧ (∀ n, cost k = some n → ps.getD k 0 ≤ (n : Int)) ∧ ∀ e, k < e → e ≤ nk → ((ps.drop k).take (e - k)).sum ≤ 2 + (e : Int) - k
theorem cutV_mid {xs : List V} {k e : Nat} (h : k ≤ e) (h2 : e ≤ xs.length) : cutV xs (some (k : Int)) (some (e : Int)) = (xs.drop k).take (e - k) := by
  unfold cutV
  rw [HT.sIx_nat, HT.sIx_nat, Nat.min_eq_left h2, Nat.min_eq_left (Nat.le_trans h h2)]
theorem sum_split {ps : List Int} {j n : Nat} (h : j ≤ n) : (ps.take n).sum = (ps.take j).sum + ((ps.drop j).take (n - j)).sum := by
  have : ps.take n = ps.take j ++ (ps.drop j).take (n - j) := by
    rw [← List.take_add, show j + (n - j) = n by omega]
  rw [this, List.sum_append]
theorem sum_one {ps : List Int} {k : Nat} (h : k < ps.length) : ((ps.drop k).take 1).sum = ps.getD k 0 := by
  rw [List.drop_eq_getElem_cons h, List.take_succ_cons, List.take_zero, List.getD_eq_getElem?_getD, List.getElem?_eq_getElem h]
  simp
/-- no prices that show are more than the least weight -/
theorem shows_least {cost : Nat → Option Nat} {ps : List Int} {nk : Nat} (h : Shows cost ps nk) (hl : ps.length = nk) : ∀ e, e ≤ nk → (ps.take e).sum ≤ lwt cost e := fun e => by
  have ind : ∀ m e, e ≤ m → e ≤ nk → (ps.take e).sum ≤ lwt cost e := fun m => by
    induction m with
    | zero =>
      intro e he _
      have : e = 0 := by omega
      subst this
      exact Int.le_refl _
    | succ m ih =>
      intro e he hn
      cases e with
      | zero => exact Int.le_refl _
      | succ k =>
        rcases (lev_ok cost k).1 with ⟨c, hc, h1⟩ | ⟨j, hj, h1⟩
        · have h1 : lwt cost (k + 1) = lwt cost k + c := congrArg Prod.fst h1
          have i1 := ih k (by omega) (by omega)
          have i2 := (h k (by omega)).2.1 c hc
          rw [sum_split (show k ≤ k + 1 by omega), show k + 1 - k = 1 by omega, sum_one (by omega)]
          omega
        · have h1 : lwt cost (k + 1) = lwt cost j + 2 + k + 1 - j := congrArg Prod.fst h1
          have i1 := ih j (by omega) (by omega)
          have i2 := (h j (by omega)).2.2 (k + 1) (by omega) (by omega)
          rw [sum_split (show j ≤ k + 1 by omega)]
          omega
  exact ind e e (Nat.le_refl _)
theorem prices_get {cost : Nat → Option Nat} {n k : Nat} (h : k < n) : (pricesM cost n).getD k 0 = lwt cost (k + 1) - lwt cost k := by
  unfold pricesM
  rw [List.getD_eq_getElem?_getD, List.getElem?_map, List.getElem?_range h]
  rfl
theorem prices_take {cost : Nat → Option Nat} {n e : Nat} (h : e ≤ n) : ((pricesM cost n).take e).sum = lwt cost e := by
  have : (pricesM cost n).take e = pricesM cost e := by
    unfold pricesM
    rw [← List.map_take, List.take_range, Nat.min_eq_left h]
  rw [this, prices_sum]
theorem prices_show (cost : Nat → Option Nat) (nk : Nat) : Shows cost (pricesM cost nk) nk := fun k hk => by
  rw [prices_get hk]
  have hs := lwt_step cost k
  refine ⟨by omega, fun n hn => ?_, fun e h1 h2 => ?_⟩
  · have := (lev_ok cost k).2.1 n hn
    omega
  · have e1 := prices_take (cost := cost) (n := nk) (e := k) (by omega)
    have e2 := prices_take (cost := cost) (n := nk) (e := e) h2
    rw [sum_split (show k ≤ e by omega)] at e2
    obtain ⟨e', rfl⟩ : ∃ e', e = e' + 1 := ⟨e - 1, by omega⟩
    have := (lev_ok cost e').2.2 k (by omega)
    omega
theorem wantS_last {sm : List Letter} {u : Int} {i : Nat} {l : Letter} (e : sm[i]? = some l) (hs : l.isSet = true) (h : ∀ (j : Nat) (x : Letter), i < j → sm[j]? = some x → x.isSet = false) : wantS sm u = some (sm.drop i) := by
  have hi : i ∈ setsL sm := setsL_mem.mpr ⟨l, e, hs⟩
  rcases List.eq_nil_or_concat (setsL sm) with es | ⟨ini, y, es⟩
  · rw [es] at hi
    cases hi
  · rw [List.concat_eq_append] at es
    rw [wantS_set es]
    obtain ⟨⟨ly, e1, e2⟩, hm⟩ := setsL_last es
    have := hm i l e hs
    by_cases q : i < y
    · have := h y ly q e1
      rw [this] at e2
      cases e2
    · rw [show y = i by omega]
theorem wantS_none {sm : List Letter} {u : Int} (h : ∀ (j : Nat) (x : Letter), sm[j]? = some x → x.isSet = false) : wantS sm u = if firstOk sm u = true then some sm else none := by
  refine wantS_no (List.eq_nil_iff_forall_not_mem.mpr fun i hi => ?_)
  obtain ⟨l, e1, e2⟩ := setsL_mem.mp hi
  rw [h i l e1] at e2
  cases e2
theorem cost_mine {keep : Nat} {cs : List Ch} {ns : List Int} {k n : Nat} (h : costL keep cs ns k = some n) : n ≤ (mine cs k).length := by
  unfold costL at h
  cases hw : wantL keep cs (ns.getD k 0) k with
  | none =>
    rw [hw] at h
    cases h
  | some w =>
    rw [hw] at h
    have h : w.length = n := Option.some.inj h
    by_cases h0 : (lof cs k : Int) ≤ ns.getD k 0
    · unfold wantL at hw
      rw [if_pos h0] at hw
      cases hw
      have h : 0 = n := h
      omega
    · obtain ⟨i, _, hi⟩ := wantL_use h0 hw
      omega
end Cu

namespace Cu
open PySem PySem.Spec PyProof.Rows L2
abbrev s_shows : Stmt := (top 16)
theorem sc_shows : FnScope ["board", "known", "told", "key", "some", "end"] ["board", "known", "told"] (defScope s_shows) := ⟨rfl, rfl, rfl, by decide +kernel, rfl, by decide +kernel, by decide +kernel⟩

def spShows (K : PySem.W.Frag) (CB : Addr) : Sp := fun vs H Q _ => vs.length = 3 ∧ ∃ (B : BA) (nk keep : Nat) (cs : List Ch) (c : Lg) (kn pt : Addr) (ns ps : List Int), vs = [.ref B.p, .ref kn, .ref pt] ∧ BR K CB B nk keep cs H c ∧ Has H c ∧ StL K H kn (ns.map V.int) ∧ StL K H pt (ps.map V.int) ∧ ps.length = nk ∧ Kn nk cs ns ∧ nk ≤ 8 ∧ keep ≤ 20 ∧
  ∀ (b : Bool) (H' : Hp), Grow H H' → (b = true ↔ Shows (costL keep cs ns) ps nk) → Q (.bl b) H'
section
variable {P : Program} {w : World} {K : PySem.W.Frag} {mg : Str → Option Value} {base : Heap} {CB : Addr}
theorem ok_shows {tk : Tok} (F : Fd K mg "shows" s_shows) (Bm : Blt mg) (CBoard : CBo K CB) (km_PART : mg "PART" = some (.int 2 tk)) (g_need_known : Gf P w K mg base 2 "need_known" ["board", "known"] (spNeed K CB)) (g_wanted : Gf P w K mg base 2 "wanted" ["board", "known", "key"] (spWanted K CB)) (m_Board_size : Mf P w K mg base 1 CB "size" ["self"] (spBsize K CB)) :
    Gf P w K mg base 3 "shows" ["board", "known", "told"] (spShows K CB) := by
  refine F.ok sc_shows (fun _ _ _ _ _ _ us hl => match us, hl with | [_, _, _], _ => rfl) len_of fun qual f cdv A0 outer s H vs Q E hr h => ?_
  obtain ⟨_, B, nk, keep, cs, c, kn, pt, ns, ps, rfl, r, hc, st, sp, hps, kk, h8, hkp, go⟩ := h
  refine ⟨_, (pss_cons (ps_expr (pc g_need_known hr (pa_cons (pv 0) (pa_cons (pv 1) pa_nil))))
      (pss_cons (ps_if (pt_cmpR op_ne (pe_callB call_len_seq rfl Bm.len (by decide +kernel) (pa_cons (pv 2) pa_nil)) (pm0 (pv 0) CBoard.cl m_Board_size hr) (nomark _))
        (pss_one ps_never)
        pss_nil)
      (pss_cons (ps_for PassesOwn.never rfl (pi_range1 rfl Bm.range (pa_cons (pe_callB call_len_seq rfl Bm.len (by decide +kernel) (pa_cons (pv 2) pa_nil)) pa_nil)) (pg_name (i := 3) sc_shows.nd rfl (Or.inl rfl))
        (pss_cons (ps_mid (ps_set (i := 4) sc_shows.nd rfl (Or.inl rfl) (pc g_wanted hr (pa_cons (pv 0) (pa_cons (pv 1) (pa_cons (pv 3) pa_nil))))))
        (pss_cons (ps_mid (ps_if (PW.pt (pw_or (pt_cmpR op_lt (pe_ix ix_list (pv 2) (pv 3) (fun _ _ => rfl)) pe_int (nomark _)) (pw_or1 (PW.pt (pw_and (pt_cmpR op_notN (pv 4) pe_non (nomark _)) (pw_and1 (pt_cmpR op_gt (pe_ix ix_list (pv 2) (pv 3) (fun _ _ => rfl)) (pe_callB call_len_seq rfl Bm.len (by decide +kernel) (pa_cons (pv 4) pa_nil)) (nomark _))))))))
          (pss_one (ps_ret pe_bl))
          pss_nil))
        (pss_one (ps_for PassesOwn.never rfl (pi_range2 rfl Bm.range (pa_cons (pe_op op_add (pv 3) pe_int) (pa_cons (pe_op op_add (pe_callB call_len_seq rfl Bm.len (by decide +kernel) (pa_cons (pv 2) pa_nil)) pe_int) pa_nil))) (pg_name (i := 5) sc_shows.nd rfl (Or.inl rfl))
          (pss_one (ps_if (pt_cmpR op_gt (pe_callB (cr_sum rfl) rfl Bm.sum (by decide +kernel) (pa_cons (pe_slice sl_list (pv 2) (po_some (pv 3)) (po_some (pv 5))) pa_nil)) (pe_op op_sub (pe_op op_add (pe_glob (v := .int 2) rfl km_PART ⟨_, rfl⟩) (pv 5)) (pv 3)) (nomark _))
            (pss_one (ps_ret pe_bl))
            pss_nil)))))))
      (pss_one (ps_ret pe_bl))))), ?_⟩
  have up : ∀ {H2 : Hp}, Grow H H2 → Has H2 c ∧ BR K CB B nk keep cs H2 c ∧ StL K H2 kn (ns.map V.int) ∧ SqL K H2 pt (ps.map V.int) := fun t => ⟨(t.has c hc).right, r.mono t.mono, st.tr t, (sp.tr t).sq⟩
  have hlp : ((ps.map V.int).length : Int) = (nk : Int) := by rw [List.length_map, hps]
  generalize ec : costL keep cs ns = cost at go
  refine ⟨_, rfl, _, rfl, rfl, B, nk, keep, cs, c, kn, ns, rfl, r, hc, st.sq, kk, h8, ?_⟩
  refine ⟨_, rfl, pt, _, rfl, .inl sp.sq, ?_⟩
  refine rd_bsize (by rfl) r hc ⟨rfl, _, rfl, iteM (by rw [hlp]; simp) ?_⟩
  refine ⟨_, rfl, pt, _, rfl, .inl sp.sq, _, rfl, by omega, by omega, for_range (lo := 0) (n := ((ps.map V.int).length : Int).toNat) (fun i σ H2 => ∃ v3 v4 v5, σ = [some (.ref B.p), some (.ref kn), some (.ref pt), v3, v4, v5] ∧ Grow H H2 ∧
      ∀ k, k < i → 0 ≤ ps.getD k 0 ∧ (∀ n, cost k = some n → ps.getD k 0 ≤ (n : Int)) ∧ ∀ e, k < e → e ≤ nk → ((ps.drop k).take (e - k)).sum ≤ 2 + (e : Int) - k)
    ⟨none, none, none, rfl, Grow.refl H, fun k h => absurd h (Nat.not_lt_zero k)⟩ ?_ ?_⟩
  · rintro i σ H2 hi ⟨v3, v4, v5, rfl, g2, hd⟩
    have hi' : i < nk := by omega
    have ez : ((0 : Int) + i) = (i : Int) := by omega
    have ecost : cost i = (wantL keep cs (ns.getD i 0) i).map List.length := by rw [← ec]; rfl
    have no : ∀ H3, Grow H H3 → ¬ (0 ≤ ps.getD i 0 ∧ (∀ n, cost i = some n → ps.getD i 0 ≤ (n : Int)) ∧ ∀ e, i < e → e ≤ nk → ((ps.drop i).take (e - i)).sum ≤ 2 + (e : Int) - i) → Q (.bl false) H3 := fun H3 g3 h => go false H3 g3 ⟨fun q => (nomatch q), fun q => absurd (q i hi') h⟩
    have hat : ∀ {H3}, Grow H H3 → atI (ps.map V.int) ((0 : Int) + i) = some (V.int (ps.getD i 0)) := fun _ => by rw [ez]; exact getD_at (by omega)
    -- some = wanted(..)
    refine rd_mid (fun σ H3 => ∃ v4, σ = [some (.ref B.p), some (.ref kn), some (.ref pt), some (.int (0 + i)), some v4, v5] ∧ Grow H H3 ∧ ((cost i = none ∧ v4 = .non) ∨ ∃ n r xs, cost i = some n ∧ v4 = .ref r ∧ H3 r = some (.lst xs) ∧ xs.length = n)) ?_ ?_
    · refine ⟨_, rfl, _, rfl, _, rfl, rfl, B, nk, keep, cs, c, kn, ns, i, (by rw [ez]; rfl), (up g2).2.1, (up g2).1, (up g2).2.2.1, kk.len, hi', hkp, fun hw H3 g3 => ?_, fun w hw rr xs H3 t3 rx => ?_⟩
      · exact ⟨_, rfl, g2.trans g3, .inl ⟨by rw [ecost, hw]; rfl, rfl⟩⟩
      · exact ⟨_, rfl, g2.trans (t3.sub (List.nil_sublist _)), .inr ⟨w.length, rr, xs, by rw [ecost, hw]; rfl, rfl, t3.own.head, by rw [rx.length, List.length_map]⟩⟩
    rintro σ H3 ⟨v4, rfl, g3, h4⟩
    -- the test
    refine rd_mid (fun σ H5 => σ = [some (.ref B.p), some (.ref kn), some (.ref pt), some (.int (0 + i)), some v4, v5] ∧ Grow H H5 ∧ 0 ≤ ps.getD i 0 ∧ ∀ n, cost i = some n → ps.getD i 0 ≤ (n : Int)) ?_ ?_
    · refine ⟨_, rfl, _, rfl, pt, _, _, _, rfl, rfl, (up g3).2.2.2, hat g3, _, _, rfl, rfl, _, rfl, ite2 (fun h0 => ?_) fun h0 => ?_⟩
      · refine iteP rfl ?_
        exact no H3 g3 fun q => by
          have := of_decide_eq_true h0
          omega
      · have h0' := ndec h0
        rcases h4 with ⟨hc0, rfl⟩ | ⟨n, rr, xs, hc0, rfl, hr3, hxn⟩
        · refine ⟨_, rfl, rfl, _, rfl, iteM (by decide) ?_⟩
          exact iteM (by decide) ⟨rfl, g3, by omega, fun n hn => by rw [hc0] at hn; cases hn⟩
        · refine ⟨_, rfl, rfl, _, rfl, iteP (by rfl) ?_⟩
          refine ⟨_, rfl, _, rfl, pt, _, _, _, rfl, rfl, (up g3).2.2.2, hat g3, _, rfl, rr, xs, rfl, .inl (SqL.of hr3), _, _, rfl, rfl, _, rfl, ite2 (fun h1 => ?_) fun h1 => ?_⟩
          · exact no H3 g3 fun q => by
              have := of_decide_eq_true h1
              have := q.2.1 n hc0
              omega
          · have h1' := ndec h1
            exact ⟨rfl, g3, by omega, fun n' hn' => by rw [hc0] at hn'; cases hn'; omega⟩
    rintro σ H5 ⟨rfl, g5, hp1, hp2⟩
    -- for end in range(key + 1, len(told) + 1)
    refine ⟨_, rfl, _, _, rfl, rfl, _, rfl, pt, _, rfl, .inl (up g5).2.2.2, _, _, rfl, rfl, _, _, rfl, ⟨by omega, by omega, by omega, by omega⟩, for_range (lo := (0 : Int) + i + 1) (n := (((ps.map V.int).length : Int) + 1 - (0 + i + 1)).toNat)
      (fun j σ H6 => ∃ v5, σ = [some (.ref B.p), some (.ref kn), some (.ref pt), some (.int (0 + i)), some v4, v5] ∧ Grow H H6 ∧ ∀ e, i < e → e < i + 1 + j → ((ps.drop i).take (e - i)).sum ≤ 2 + (e : Int) - i) ⟨v5, rfl, g5, fun e h1 h2 => by omega⟩ ?_ ?_⟩
    · rintro j σ H6 hj ⟨v5, rfl, g6, he⟩
      have eze : ((0 : Int) + i + 1 + j) = ((i + 1 + j : Nat) : Int) := by omega
      have hje : i + 1 + j ≤ nk := by omega
      refine ⟨_, rfl, _, rfl, _, rfl, _, rfl, _, rfl, pt, _, rfl, (up g6).2.2.2, fun p7 hp7 => ?_⟩
      have ecut : cutV (ps.map V.int) (some ((0 : Int) + i)) (some ((0 : Int) + i + 1 + j)) = ((ps.drop i).take (i + 1 + j - i)).map V.int := by
        rw [eze, ez, cutV_mid (by omega) (by rw [List.length_map]; omega), List.map_take, List.map_drop]
      rw [ecut]
      have g7 := g6.old (o := .lst (((ps.drop i).take (i + 1 + j - i)).map V.int)) hp7
      refine ⟨p7, _, rfl, SqL.of upd_same, _, rfl, _, _, rfl, rfl, _, rfl, _, _, rfl, rfl, _, _, rfl, rfl, _, rfl, ite2 (fun h1 => ?_) fun h1 => ?_⟩
      · have h1' := of_decide_eq_true h1
        exact no _ g7 fun q => by
          have := q.2.2 (i + 1 + j) (by omega) hje
          omega
      · have h1' := ndec h1
        refine ⟨_, rfl, g7, fun e h2 h3 => ?_⟩
        by_cases q : e < i + 1 + j
        · exact he e h2 q
        · have : e = i + 1 + j := by omega
          subst this
          omega
    · rintro σ H6 ⟨v5, rfl, g6, he⟩
      refine ⟨_, _, _, rfl, g6, fun k hk => ?_⟩
      by_cases q : k < i
      · exact hd k q
      · have : k = i := by omega
        subst this
        exact ⟨hp1, hp2, fun e h1 h2 => he e h1 (by omega)⟩
  · rintro σ H2 ⟨v3, v4, v5, rfl, g2, hd⟩
    refine go true H2 g2 ⟨fun _ => fun k hk => hd k (by omega), fun _ => rfl⟩
end
end Cu

namespace Cu
open PySem PySem.Spec PyProof.Rows L2
abbrev s_lwanted : Stmt := (top 31)
theorem sc_lwanted : FnScope ["_law_rows", "_law_letters", "_law_keep", "_law_known_here", "_law_key", "_law_lasts", "_law_kept", "_law_some", "_law_k", "_law_letter"] ["_law_rows", "_law_letters", "_law_keep", "_law_known_here", "_law_key"] (defScope s_lwanted) := ⟨rfl, rfl, rfl, by decide +kernel, rfl, by decide +kernel, by decide +kernel⟩

def spLwanted (K : PySem.W.Frag) : Sp := fun vs H Q _ => vs.length = 5 ∧ ∃ (nk keep k : Nat) (cs : List Ch) (vr vl : V) (kn : Addr) (ns : List Int), vs = [vr, vl, .int keep, .ref kn, .int k] ∧ Rp K H (.list (rowsD nk cs)) vr ∧ Rp K H (.list ((lets cs).map Letter.enc)) vl ∧ FzL K H kn (ns.map V.int) ∧ ns.length = nk ∧ k < nk ∧ nk ≤ 8 ∧ keep ≤ 20 ∧ cs.length ≤ 1000 ∧
  (costL keep cs ns k = none → ∀ H', Grow H H' → Q .non H') ∧ (∀ n : Nat, costL keep cs ns k = some n → ∀ H', Grow H H' → Q (.int n) H')
section
variable {P : Program} {w : World} {K : PySem.W.Frag} {mg : Str → Option Value} {base : Heap}
theorem ok_lwanted (F : Fd K mg "_law_wanted" s_lwanted) (Bm : Blt mg) : Gf P w K mg base 1 "_law_wanted" ["_law_rows", "_law_letters", "_law_keep", "_law_known_here", "_law_key"] (spLwanted K) := by
  refine F.ok sc_lwanted (fun _ _ _ _ _ _ us hl => match us, hl with | [_, _, _, _, _], _ => rfl) len_of fun qual f cdv A outer s H vs Q E hr h => ?_
  obtain ⟨_, nk, keep, k, cs, vr, vl, kn, ns, rfl, rr, rl, fk, hlen, hk, hk8, hkp, hcl, gN, gS⟩ := h
  refine ⟨_, (pss_cons (ps_set (i := 5) sc_lwanted.nd rfl (Or.inl rfl) (pe_ix ix_tup (pe_ix ix_list (pv 0) (pe_un un_neg pe_int) (fun _ _ => rfl)) pe_int (fun _ _ => rfl)))
      (pss_cons (ps_if (pt_cmpR op_le (pe_ix ix_list (pv 5) (pv 4) (fun _ _ => rfl)) (pe_ix ix_list (pv 3) (pv 4) (fun _ _ => rfl)) (nomark _))
        (pss_one (ps_ret pe_int))
        pss_nil)
      (pss_cons (ps_set (i := 6) sc_lwanted.nd rfl (Or.inl rfl) (pe_slice sl_list (pv 1) (po_some (pe_callB (call_max2 rfl) rfl Bm.max (by decide +kernel) (pa_cons pe_int (pa_cons (pe_op op_sub (pe_callB call_len_seq rfl Bm.len (by decide +kernel) (pa_cons (pv 1) pa_nil)) (pv 2)) pa_nil)))) po_none))
      (pss_cons (ps_setLc (i := 7) (own := [("_law_letter", 9)]) (g := (gName 9)) rfl sc_lwanted.nd rfl rfl (sw_true rfl rfl rfl (by decide +kernel)) (pi_list (pv 6)) (blkOk_by (N := ["_law_rows", "_law_letters", "_law_keep", "_law_known_here", "_law_key", "_law_lasts", "_law_kept", "_law_some", "_law_k", "_law_letter"]) (sc := defScope s_lwanted) (by decide +kernel)) (fun _ _ _ _ _ => (pg_name (i := 9) sc_lwanted.nd rfl (Or.inl rfl))) (fun _ _ _ _ _ => (pts_one (PW.pt (pw_and (pt_cmpR op_eq (pe_ix (ix_tupK K rfl) (pv 9) pe_int (fun _ _ => rfl)) (pv 4) (nomark _)) (pw_and1 (pt_cmpR op_gt (pe_ix (ix_tupK K rfl) (pv 9) pe_int (fun _ _ => rfl)) (pe_ix (ix_listK K rfl) (pv 3) (pv 4) (fun _ _ => rfl)) (nomark _))))))) (fun _ _ _ _ _ => (pv 9)))
      (pss_cons (ps_for PassesOwn.never rfl (pi_range3 rfl Bm.range (pa_cons (pe_op op_sub (pe_callB call_len_seq rfl Bm.len (by decide +kernel) (pa_cons (pv 7) pa_nil)) pe_int) (pa_cons (pe_un un_neg pe_int) (pa_cons (pe_un un_neg pe_int) pa_nil)))) (pg_name (i := 8) sc_lwanted.nd rfl (Or.inl rfl))
        (pss_one (ps_if (pt_cmpR op_eq (pe_ix ix_tup (pe_ix ix_list (pv 7) (pv 8) (fun _ _ => rfl)) pe_int (fun _ _ => rfl)) pe_str (nomark _))
          (pss_one (ps_ret (pe_op op_sub (pe_callB call_len_seq rfl Bm.len (by decide +kernel) (pa_cons (pv 7) pa_nil)) (pv 8))))
          pss_nil)))
      (pss_one (ps_ret (pe_ifExp (PW.pt (pw_and (pt_cmpR (op_neD hr.units) (pv 7) (pe_lst pa_nil) (nomark _)) (pw_and1 (pt_cmpR op_le (pe_ix ix_tup (pe_ix ix_list (pv 7) pe_int (fun _ _ => rfl)) pe_int (fun _ _ => rfl)) (pe_ix ix_list (pv 3) (pv 4) (fun _ _ => rfl)) (nomark _))))) (pe_callB call_len_seq rfl Bm.len (by decide +kernel) (pa_cons (pv 7) pa_nil)) pe_non)))))))), ?_⟩
  have hat := getD_at (ns := ns) (k := k) (by omega)
  have ecost : costL keep cs ns k = (wantL keep cs (ns.getD k 0) k).map List.length := rfl
  rw [ecost] at gN gS
  generalize eu : ns.getD k 0 = u at hat gN gS
  have z0 : 0 ≤ sizeLine := by decide
  obtain ⟨ar, xr, rfl, fr, rxr⟩ := id rr.lst_inv
  obtain ⟨al, xl, rfl, fl, rxl⟩ := id rl.lst_inv
  have hxl : xl.length = cs.length := by rw [rxl.length, List.length_map, lets_length]
  obtain ⟨init, hinit⟩ := rowsD_last nk cs
  rw [hinit] at rxr
  obtain ⟨us, w1, rfl, rus, rw1⟩ := rxr.snoc_inv
  obtain ⟨ar1, pw, pl, rfl, har, fw, fl1⟩ := rw1.row_inv
  refine ⟨_, rfl, _, rfl, ar, _, _, _, rfl, rfl, fr.sq, atI_last _ _, ar1, _, _, _, rfl, rfl, SqT.of har, rfl, ?_⟩
  refine ⟨_, rfl, _, rfl, pl, _, _, _, rfl, rfl, fl1.sq, at_of (j := k) rfl (by rw [List.getElem?_map, lrow_get hk]; rfl), _, rfl, _, rfl, kn, _, _, _, rfl, rfl, fk.sq, hat, _, _, rfl, rfl, _, rfl, ite2 (fun h0 => ?_) fun h0 => ?_⟩
  · refine gS 0 ?_ H (Grow.refl H)
    unfold wantL
    rw [if_pos (of_decide_eq_true h0)]
    rfl
  have h0' := ndec h0
  -- kept
  have emax : (if (xl.length : Int) - keep > 0 then (xl.length : Int) - keep else 0) = ((cs.length - keep : Nat) : Int) := by
    split <;> omega
  refine ⟨_, rfl, _, rfl, al, xl, rfl, .inl fl.sq, _, rfl, _, _, rfl, rfl, _, _, rfl, _, rfl, al, xl, rfl, fl.sq, fun p2 hp2 => ?_⟩
  rw [emax, cutV_from (by omega)]
  have g12 := (Tr.refl H []).new (o := .lst (xl.drop (cs.length - keep))) hp2 nl
  have rx2 : RpL K (upd H p2 (.lst (xl.drop (cs.length - keep)))) ((tailL keep cs).map Letter.enc) (xl.drop (cs.length - keep)) := by
    unfold tailL
    rw [List.map_drop]
    exact (rxl.drop _).mono (Mono.new hp2)
  generalize hxs2 : xl.drop (cs.length - keep) = xs2 at g12 rx2
  have hx2 : xs2.length = (tailL keep cs).length := by rw [rx2.length, List.length_map]
  generalize upd H p2 (.lst xs2) = H2 at g12 rx2
  refine ⟨_, rfl, p2, rfl, ⟨_, SqL.of g12.own.head⟩, fun D hD => ?_⟩
  refine lc_list (K := K) (a := p2) (xs := xs2) (fun i H3 => ∃ ys, Tr H [] H3 [(D, .lst ys), (p2, .lst xs2)] ∧ Mono H2 H3 ∧ RpL K H3 ((((tailL keep cs).take i).filter fun l => decide (l.keyOf = k) && decide (u < (l.numOf : Int))).map Letter.enc) ys)
    ⟨[], g12.new hD nl, Mono.new hD, .nil⟩ (fun i H3 _ ⟨_, t, _, _⟩ => SqL.of t.own.tail.head) ?_ ?_
  · rintro i x H3 hi ⟨ys, t3, m3, ry⟩
    have hi' : i < (tailL keep cs).length := by
      have := (List.getElem?_eq_some_iff.mp hi).1
      omega
    obtain ⟨l, el⟩ : ∃ l, (tailL keep cs)[i]? = some l := ⟨(tailL keep cs)[i], List.getElem?_eq_getElem hi'⟩
    obtain ⟨x', ex, rx⟩ := (rx2.mono m3).get (i := i) (d := l.enc) (by rw [List.getElem?_map, el]; rfl)
    rw [hi] at ex
    cases ex
    obtain ⟨m, ch, _, rfl⟩ := tailL_mem (List.mem_of_getElem? el)
    obtain ⟨a, rfl, ha⟩ := rx.chg_inv
    have hy : ys.length ≤ 20 := by
      rw [ry.length, List.length_map]
      refine Nat.le_trans (List.length_filter_le _ _) ?_
      have := tailL_len keep cs
      rw [List.length_take]
      omega
    have no : (decide ((Letter.change (m + 1) ch (lof (cs.take m) ch.key)).keyOf = k) && decide (u < ((Letter.change (m + 1) ch (lof (cs.take m) ch.key)).numOf : Int))) = false → ∃ ys, Tr H [] H3 [(D, .lst ys), (p2, .lst xs2)] ∧ Mono H2 H3 ∧ RpL K H3 ((((tailL keep cs).take (i + 1)).filter fun l => decide (l.keyOf = k) && decide (u < (l.numOf : Int))).map Letter.enc) ys := fun q => by
      refine ⟨ys, t3, m3, ?_⟩
      rw [take_snoc el, List.filter_append, List.filter_cons_of_neg (by rw [q]; decide), List.filter_nil, List.append_nil]
      exact ry
    have hu3 := (fk.mono t3.mono).sq
    refine ⟨rfl, _, rfl, a, _, _, _, rfl, rfl, SqT.of ha, rfl, _, rfl, rfl, _, rfl, ite2 (fun h1 => ?_) fun h1 => ?_⟩
    · have h1' : ch.key = k := by
        have := of_decide_eq_true h1
        injection this with q
        omega
      refine ⟨_, rfl, a, _, _, _, rfl, rfl, SqT.of ha, rfl, _, rfl, _, rfl, kn, _, _, _, rfl, rfl, hu3, hat, _, _, rfl, rfl, _, rfl, ite2 (fun h2 => ?_) fun h2 => ?_⟩
      · have h2' := of_decide_eq_true h2
        refine ⟨_, rfl, ys, t3.own.head, small1000 (by omega), ys ++ [.ref a], t3.put .nil nl, m3.trans t3.own.mono_put, ?_⟩
        have q : (decide ((Letter.change (m + 1) ch (lof (cs.take m) ch.key)).keyOf = k) && decide (u < ((Letter.change (m + 1) ch (lof (cs.take m) ch.key)).numOf : Int))) = true := by
          rw [Bool.and_eq_true]
          exact ⟨decide_eq_true h1', decide_eq_true h2'⟩
        have e1 : List.filter (fun l => decide (l.keyOf = k) && decide (u < (l.numOf : Int))) [Letter.change (m + 1) ch (lof (cs.take m) ch.key)] = [Letter.change (m + 1) ch (lof (cs.take m) ch.key)] := List.filter_cons_of_pos (l := []) q
        rw [take_snoc el, List.filter_append, e1, List.map_append]
        exact (ry.snoc rx).mono t3.own.mono_put
      · refine no ?_
        rw [Bool.and_eq_false_iff]
        exact .inr (decide_eq_false (ndec h2))
    · refine iteM (by decide) (no ?_)
      rw [Bool.and_eq_false_iff]
      exact .inl (decide_eq_false fun q => h1 (decide_eq_true (by show V.int (ch.key : Int) = V.int (k : Int); rw [show ch.key = k from q])))
  rintro H3 ⟨ys, t3, m3, ry⟩
  rw [List.take_of_length_le (by omega)] at ry
  change RpL K H3 ((someL keep cs u k).map Letter.enc) ys at ry
  have hsl := someL_len keep cs u k
  have hall : ∀ l ∈ someL keep cs u k, ∃ m c, cs[m]? = some c ∧ l = .change (m + 1) c (lof (cs.take m) c.key) := fun l hl => tailL_mem (filter_sub_mem hl)
  have hw : wantL keep cs u k = wantS (someL keep cs u k) u := by
    unfold wantL
    rw [if_neg h0']
  rw [hw] at gN gS
  generalize someL keep cs u k = sm at *
  have hy : ys.length = sm.length := by rw [ry.length, List.length_map]
  have g3 : Grow H H3 := t3.sub (List.nil_sublist _)
  have hD3 := t3.own.head
  -- for k in range(len(some) - 1, -1, -1)
  refine ⟨_, rfl, D, ys, rfl, .inl (SqL.of hD3), _, _, rfl, rfl, _, rfl, _, rfl, _, _, _, _, rfl, RgC.neg (by omega) (by omega) (by omega) (by omega), for_rangeC (lo := (ys.length : Int) - 1) (c := -1) (n := ((ys.length : Int) - 1 - -1).toNat) (fun i σ H4 => ∃ v8, σ = [some (.ref ar), some (.ref al), some (.int keep), some (.ref kn), some (.int k), some (.ref pl), some (.ref p2), some (.ref D), v8, none] ∧ H4 = H3 ∧
      ∀ (j : Nat) (x : Letter), sm.length ≤ j + i → sm[j]? = some x → x.isSet = false) ⟨none, rfl, rfl, fun j x h e => ?_⟩ ?_ ?_⟩
  · have := (List.getElem?_eq_some_iff.mp e).1
    omega
  · rintro i σ H4 hi ⟨v8, rfl, rfl, hno⟩
    have hi' : i < sm.length := by omega
    have hj : sm.length - 1 - i < sm.length := by omega
    obtain ⟨l, el⟩ : ∃ l, sm[sm.length - 1 - i]? = some l := ⟨sm[sm.length - 1 - i], List.getElem?_eq_getElem hj⟩
    obtain ⟨y, ey, rl1⟩ := ry.get (i := sm.length - 1 - i) (d := l.enc) (by rw [List.getElem?_map, el]; rfl)
    obtain ⟨m, ch, _, rfl⟩ := hall l (List.mem_of_getElem? el)
    obtain ⟨a, rfl, ha⟩ := rl1.chg_inv
    have ez : ((ys.length : Int) - 1 + (i : Nat) * -1) = ((sm.length - 1 - i : Nat) : Int) := by omega
    refine ⟨_, rfl, _, rfl, D, _, _, _, rfl, rfl, SqL.of hD3, at_of (j := sm.length - 1 - i) ez ey, a, _, _, _, rfl, rfl, SqT.of ha, rfl, rfl, _, rfl, ?_⟩
    rw [wdS]
    refine ite2 (fun h1 => ?_) fun h1 => ?_
    · have hws := wantS_last (u := u) el h1 fun j x hjx e => hno j x (by omega) e
      refine ⟨_, rfl, D, ys, rfl, .inl (SqL.of hD3), _, rfl, _, _, rfl, rfl, ?_⟩
      have e1 : ((ys.length : Int) - ((ys.length : Int) - 1 + (i : Nat) * -1)) = ((i + 1 : Nat) : Int) := by omega
      show Q (V.int ((ys.length : Int) - ((ys.length : Int) - 1 + (i : Nat) * -1))) _
      rw [e1]
      refine gS (i + 1) ?_ _ g3
      rw [hws]
      show some ((sm.drop (sm.length - 1 - i)).length) = some (i + 1)
      rw [List.length_drop]
      congr 1
      omega
    · refine ⟨_, rfl, rfl, fun j x hjx e => ?_⟩
      by_cases q : sm.length ≤ j + i
      · exact hno j x q e
      · have : j = sm.length - 1 - i := by omega
        subst this
        rw [el] at e
        cases e
        show ch.set = false
        cases hs : ch.set with
        | true => exact absurd hs h1
        | false => rfl
  · rintro σ H4 ⟨v8, rfl, rfl, hno⟩
    have hws := wantS_none (u := u) fun j x e => hno j x (by omega) e
    rw [hws] at gN gS
    -- len(some) if some != [] and ..
    refine ⟨_, rfl, z0, fun e1 he1 => ?_⟩
    have g6 := g3.old (o := .lst []) he1
    have m6 := Mono.new (o := .lst []) he1
    have ry6 := ry.mono m6
    have hD6 : (upd H4 e1 (.lst [])) D = some (.lst ys) := by rw [upd_ne (ne_of_none hD3 he1)]; exact hD3
    refine ⟨.list (sm.map Letter.enc), .list [], .lst (SqL.of hD6) ry6.dp, Dp.nil upd_same, (Gd.letters sm).shaped, (Gd.nil (n := 0)).shaped, _, rfl, ?_⟩
    rw [eqv_nil]
    cases sm with
    | nil =>
      refine iteM (by decide) ?_
      exact iteM (by decide) (gN rfl _ g6)
    | cons l ls =>
      refine iteP (by rfl) ?_
      obtain ⟨y, ey, rl1⟩ := ry6.get (i := 0) (d := l.enc) rfl
      obtain ⟨m, ch, _, rfl⟩ := hall l List.mem_cons_self
      obtain ⟨a, rfl, ha⟩ := rl1.chg_inv
      refine ⟨_, rfl, D, _, _, _, rfl, rfl, SqL.of hD6, at_of (j := 0) rfl ey, a, _, _, _, rfl, rfl, SqT.of ha, rfl, _, rfl, _, rfl, kn, _, _, _, rfl, rfl, (fk.mono g6.mono).sq, hat, _, _, rfl, rfl, _, rfl, ite2 (fun h1 => ?_) fun h1 => ?_⟩
      · have h1' := of_decide_eq_true h1
        rw [if_pos (show firstOk (Letter.change (m + 1) ch (lof (cs.take m) ch.key) :: ls) u = true from decide_eq_true h1')] at gS
        refine ⟨_, rfl, D, ys, rfl, .inl (SqL.of hD6), ?_⟩
        rw [hy]
        exact gS _ rfl _ g6
      · have h1' := ndec h1
        rw [if_neg (show ¬ firstOk (Letter.change (m + 1) ch (lof (cs.take m) ch.key) :: ls) u = true from fun q => h1' (of_decide_eq_true q))] at gN
        exact gN rfl _ g6
end
end Cu

namespace Cu
open PySem PySem.Spec PyProof.Rows L2
abbrev s_is_price : Stmt := (top 35)
theorem sc_is_price : FnScope ["_law_need", "_law_told", "_law_key", "_law_end"] ["_law_need", "_law_told"] (defScope s_is_price) := ⟨rfl, rfl, rfl, by decide +kernel, rfl, by decide +kernel, by decide +kernel⟩

def costV : Option Nat → V
  | none => .non
  | some n => .int n
def spIsPrice (K : PySem.W.Frag) : Sp := fun vs H Q _ => vs.length = 2 ∧ ∃ (nk : Nat) (cost : Nat → Option Nat) (pn pt : Addr) (ps : List Int), vs = [.ref pn, .ref pt] ∧ StL K H pn ((List.range nk).map fun k => costV (cost k)) ∧ StL K H pt (ps.map V.int) ∧ ps.length = nk ∧ nk ≤ 8 ∧
  ∀ (b : Bool) (H' : Hp), Grow H H' → (b = true ↔ Shows cost ps nk) → Q (.bl b) H'
section
variable {P : Program} {w : World} {K : PySem.W.Frag} {mg : Str → Option Value} {base : Heap}
theorem ok_is_price (F : Fd K mg "_law_is_price" s_is_price) (Bm : Blt mg) : Gf P w K mg base 1 "_law_is_price" ["_law_need", "_law_told"] (spIsPrice K) := by
  refine F.ok sc_is_price (fun _ _ _ _ _ _ us hl => match us, hl with | [_, _], _ => rfl) len_of fun qual f cdv A0 outer s H vs Q E hr h => ?_
  obtain ⟨_, nk, cost, pn, pt, ps, rfl, sn, sp, hps, h8, go⟩ := h
  refine ⟨_, (pss_cons (ps_for PassesOwn.never rfl (pi_range1 rfl Bm.range (pa_cons (pe_callB call_len_seq rfl Bm.len (by decide +kernel) (pa_cons (pv 0) pa_nil)) pa_nil)) (pg_name (i := 2) sc_is_price.nd rfl (Or.inl rfl))
        (pss_cons (ps_mid (ps_if (PW.pt (pw_or (pt_cmpR op_lt (pe_ix ix_list (pv 1) (pv 2) (fun _ _ => rfl)) pe_int (nomark _)) (pw_or1 (PW.pt (pw_and (pt_cmpR op_notN (pe_ix ix_list (pv 0) (pv 2) (fun _ _ => rfl)) pe_non (nomark _)) (pw_and1 (pt_cmpR op_gt (pe_ix ix_list (pv 1) (pv 2) (fun _ _ => rfl)) (pe_ix ix_list (pv 0) (pv 2) (fun _ _ => rfl)) (nomark _))))))))
          (pss_one (ps_ret pe_bl))
          pss_nil))
        (pss_one (ps_for PassesOwn.never rfl (pi_range2 rfl Bm.range (pa_cons (pe_op op_add (pv 2) pe_int) (pa_cons (pe_op op_add (pe_callB call_len_seq rfl Bm.len (by decide +kernel) (pa_cons (pv 0) pa_nil)) pe_int) pa_nil))) (pg_name (i := 3) sc_is_price.nd rfl (Or.inl rfl))
          (pss_one (ps_if (pt_cmpR op_gt (pe_callB (cr_sum rfl) rfl Bm.sum (by decide +kernel) (pa_cons (pe_slice sl_list (pv 1) (po_some (pv 2)) (po_some (pv 3))) pa_nil)) (pe_op op_sub (pe_op op_add pe_int (pv 3)) (pv 2)) (nomark _))
            (pss_one (ps_ret pe_bl))
            pss_nil))))))
      (pss_one (ps_ret pe_bl))), ?_⟩
  have up : ∀ {H2 : Hp}, Grow H H2 → SqL K H2 pn ((List.range nk).map fun k => costV (cost k)) ∧ SqL K H2 pt (ps.map V.int) := fun t => ⟨(sn.tr t).sq, (sp.tr t).sq⟩
  have hln : (((List.range nk).map fun k => costV (cost k)).length : Int) = (nk : Int) := by rw [List.length_map, List.length_range]
  refine ⟨_, rfl, pn, _, rfl, .inl sn.sq, _, rfl, by omega, by omega, for_range (lo := 0) (n := (((List.range nk).map fun k => costV (cost k)).length : Int).toNat) (fun i σ H2 => ∃ v2 v3, σ = [some (.ref pn), some (.ref pt), v2, v3] ∧ Grow H H2 ∧
      ∀ k, k < i → 0 ≤ ps.getD k 0 ∧ (∀ n, cost k = some n → ps.getD k 0 ≤ (n : Int)) ∧ ∀ e, k < e → e ≤ nk → ((ps.drop k).take (e - k)).sum ≤ 2 + (e : Int) - k)
    ⟨none, none, rfl, Grow.refl H, fun k h => absurd h (Nat.not_lt_zero k)⟩ ?_ ?_⟩
  · rintro i σ H3 hi ⟨v2, v3, rfl, g3, hd⟩
    have hi' : i < nk := by omega
    have ez : ((0 : Int) + i) = (i : Int) := by omega
    have no : ∀ H3, Grow H H3 → ¬ (0 ≤ ps.getD i 0 ∧ (∀ n, cost i = some n → ps.getD i 0 ≤ (n : Int)) ∧ ∀ e, i < e → e ≤ nk → ((ps.drop i).take (e - i)).sum ≤ 2 + (e : Int) - i) → Q (.bl false) H3 := fun H3 g3 h => go false H3 g3 ⟨fun q => (nomatch q), fun q => absurd (q i hi') h⟩
    have hat : atI (ps.map V.int) ((0 : Int) + i) = some (V.int (ps.getD i 0)) := by rw [ez]; exact getD_at (by omega)
    have hat2 : atI ((List.range nk).map fun k => costV (cost k)) ((0 : Int) + i) = some (costV (cost i)) := at_of (j := i) ez (by rw [List.getElem?_map, List.getElem?_range hi']; rfl)
    refine rd_mid (fun σ H5 => σ = [some (.ref pn), some (.ref pt), some (.int (0 + i)), v3] ∧ Grow H H5 ∧ 0 ≤ ps.getD i 0 ∧ ∀ n, cost i = some n → ps.getD i 0 ≤ (n : Int)) ?_ ?_
    · refine ⟨_, rfl, _, rfl, pt, _, _, _, rfl, rfl, (up g3).2, hat, _, _, rfl, rfl, _, rfl, ite2 (fun h0 => ?_) fun h0 => ?_⟩
      · refine iteP rfl ?_
        exact no H3 g3 fun q => by
          have := of_decide_eq_true h0
          omega
      · have h0' := ndec h0
        refine ⟨_, rfl, _, rfl, pn, _, _, _, rfl, rfl, (up g3).1, hat2, ?_⟩
        cases hc0 : cost i with
        | none =>
          refine ⟨rfl, _, rfl, iteM (by decide) ?_⟩
          exact iteM (by decide) ⟨rfl, g3, by omega, fun n hn => by cases hn⟩
        | some n =>
          refine ⟨rfl, _, rfl, iteP (by rfl) ?_⟩
          refine ⟨_, rfl, _, rfl, pt, _, _, _, rfl, rfl, (up g3).2, hat, _, rfl, _, rfl, pn, _, _, _, rfl, rfl, (up g3).1, (by rw [hat2, hc0]; rfl), _, _, rfl, rfl, _, rfl, ite2 (fun h1 => ?_) fun h1 => ?_⟩
          · exact no H3 g3 fun q => by
              have := of_decide_eq_true h1
              have := q.2.1 n hc0
              omega
          · have h1' := ndec h1
            exact ⟨rfl, g3, by omega, fun n' hn' => by cases hn'; omega⟩
    rintro σ H5 ⟨rfl, g5, hp1, hp2⟩
    refine ⟨_, rfl, _, _, rfl, rfl, _, rfl, pn, _, rfl, .inl (up g5).1, _, _, rfl, rfl, _, _, rfl, ⟨by omega, by omega, by omega, by omega⟩, for_range (lo := (0 : Int) + i + 1) (n := ((((List.range nk).map fun k => costV (cost k)).length : Int) + 1 - (0 + i + 1)).toNat)
      (fun j σ H6 => ∃ v3, σ = [some (.ref pn), some (.ref pt), some (.int (0 + i)), v3] ∧ Grow H H6 ∧ ∀ e, i < e → e < i + 1 + j → ((ps.drop i).take (e - i)).sum ≤ 2 + (e : Int) - i) ⟨v3, rfl, g5, fun e h1 h2 => by omega⟩ ?_ ?_⟩
    · rintro j σ H6 hj ⟨v3, rfl, g6, he⟩
      have eze : ((0 : Int) + i + 1 + j) = ((i + 1 + j : Nat) : Int) := by omega
      have hje : i + 1 + j ≤ nk := by omega
      refine ⟨_, rfl, _, rfl, _, rfl, _, rfl, _, rfl, pt, _, rfl, (up g6).2, fun p7 hp7 => ?_⟩
      have ecut : cutV (ps.map V.int) (some ((0 : Int) + i)) (some ((0 : Int) + i + 1 + j)) = ((ps.drop i).take (i + 1 + j - i)).map V.int := by
        rw [eze, ez, cutV_mid (by omega) (by rw [List.length_map]; omega), List.map_take, List.map_drop]
      rw [ecut]
      have g7 := g6.old (o := .lst (((ps.drop i).take (i + 1 + j - i)).map V.int)) hp7
      refine ⟨p7, _, rfl, SqL.of upd_same, _, rfl, _, _, rfl, rfl, _, rfl, _, _, rfl, rfl, _, _, rfl, rfl, _, rfl, ite2 (fun h1 => ?_) fun h1 => ?_⟩
      · have h1' := of_decide_eq_true h1
        exact no _ g7 fun q => by
          have := q.2.2 (i + 1 + j) (by omega) hje
          omega
      · have h1' := ndec h1
        refine ⟨_, rfl, g7, fun e h2 h3 => ?_⟩
        by_cases q : e < i + 1 + j
        · exact he e h2 q
        · have : e = i + 1 + j := by omega
          subst this
          omega
    · rintro σ H6 ⟨v3, rfl, g6, he⟩
      refine ⟨_, _, rfl, g6, fun k hk => ?_⟩
      by_cases q : k < i
      · exact hd k q
      · have : k = i := by omega
        subst this
        exact ⟨hp1, hp2, fun e h1 h2 => he e h1 (by omega)⟩
  · rintro σ H2 ⟨v2, v3, rfl, g2, hd⟩
    exact go true H2 g2 ⟨fun _ => fun k hk => hd k (by omega), fun _ => rfl⟩
end
end Cu

namespace Cu
open PySem PySem.Spec PyProof.Rows L2
/-! alike, by types too: the same data -/
theorem ps_dead {X : Cx} {st : Stmt} : PS X st (fun _ _ _ => False) := ⟨fun _ _ _ _ _ _ h => h.elim⟩
def rIxA (K : PySem.W.Frag) : R2 := fun x y H Q => rIxL K x y H Q ∨ rIxT K x y H Q
theorem ix_any {X : Cx} : IxR X (rIxA X.K) := by
  intro value slice pins s σ H x y v u Q I rx ry h hs
  rcases h with h | h
  · exact ix_list value slice pins s σ H x y v u Q I rx ry h hs
  · exact ix_tup value slice pins s σ H x y v u Q I rx ry h hs
theorem sqL_ty {K : PySem.W.Frag} {H : Hp} {a : Addr} {xs : List V} (h : SqL K H a xs) : TyX K H (.ref a) (.type "list") := by
  rcases h with (h | ⟨o, h⟩) | ⟨o, its, n, h1, h2, _⟩
  · exact .base (.lst h)
  · exact .base (.frz h)
  · exact .kList h1 h2
theorem sqT_ty {K : PySem.W.Frag} {H : Hp} {a : Addr} {xs : List V} (h : SqT K H a xs) : TyX K H (.ref a) (.type "tuple") := by
  rcases h with (h | ⟨o, h⟩) | ⟨o, its, n, h1, h2, _⟩
  · exact .base (.tup h)
  · exact .fTuple h
  · exact .kTuple h1 h2
theorem dpAll_get {K : PySem.W.Frag} {H : Hp} : ∀ {xs : List V} {ds : List PyData}, DpAll K H xs ds → ∀ {k : Nat}, k < xs.length → ∃ x d, xs[k]? = some x ∧ ds[k]? = some d ∧ Dp K H x d
  | _, _, .nil, _, h => absurd h (Nat.not_lt_zero _)
  | _, _, .cons h hs, 0, _ => ⟨_, _, rfl, rfl, h⟩
  | _, _, .cons h hs, k + 1, hk => dpAll_get hs (Nat.lt_of_succ_lt_succ hk)
theorem dpAll_len {K : PySem.W.Frag} {H : Hp} : ∀ {xs : List V} {ds : List PyData}, DpAll K H xs ds → xs.length = ds.length
  | _, _, .nil => rfl
  | _, _, .cons _ hs => congrArg (· + 1) (dpAll_len hs)
theorem depth_mem : ∀ {ds : List PyData} {d : PyData}, d ∈ ds → d.depth ≤ PyData.depthAll ds
  | e :: ds, d, h => by
    rw [PyData.depthAll]
    rcases List.mem_cons.mp h with h | h
    · rw [h]
      exact Nat.le_max_left _ _
    · exact Nat.le_trans (depth_mem h) (Nat.le_max_right _ _)
mutual
def wid : PyData → Nat
  | .list xs | .tuple xs => max xs.length (widAll xs)
  | _ => 0
def widAll : List PyData → Nat
  | [] => 0
  | x :: xs => max (wid x) (widAll xs)
end
theorem wid_mem : ∀ {ds : List PyData} {d : PyData}, d ∈ ds → wid d ≤ widAll ds
  | e :: ds, d, h => by
    rw [widAll]
    rcases List.mem_cons.mp h with h | h
    · rw [h]
      exact Nat.le_max_left _ _
    · exact Nat.le_trans (wid_mem h) (Nat.le_max_right _ _)
theorem canMem : ∀ {ds : List PyData} {d : PyData}, PyData.canLayAll0 ds = true → d ∈ ds → d.canLay0 = true
  | e :: ds, d, hc, h => by
    have hc : e.canLay0 = true ∧ PyData.canLayAll0 ds = true := by simpa [PyData.canLayAll0] using hc
    rcases List.mem_cons.mp h with h | h
    · rw [h]
      exact hc.1
    · exact canMem hc.2 h
abbrev s_like : Stmt := (top 24)
theorem sc_like : FnScope ["_law_found", "_law_due", "_law_k", "_law_key"] ["_law_found", "_law_due"] (defScope s_like) := ⟨rfl, rfl, rfl, by decide +kernel, rfl, by decide +kernel, by decide +kernel⟩

def spLike (K : PySem.W.Frag) (n : Nat) : Sp := fun vs H Q _ => vs.length = 2 ∧ ∃ (d : PyData) (x y : V), vs = [x, y] ∧ Dp K H x d ∧ Dp K H y d ∧ d.canLay0 = true ∧ d.depth < n ∧ wid d ≤ 1000 ∧ Q (.bl true) H
section
variable {P : Program} {w : World} {K : PySem.W.Frag} {mg : Str → Option Value} {base : Heap}
theorem like_zero (F : Fd K mg "_law_like" s_like) : Gf P w K mg base 0 "_law_like" ["_law_found", "_law_due"] (spLike K 0) := by
  obtain ⟨f, fd, F, hm⟩ := F.ex
  have no : ∀ {vs H Q E}, spLike K 0 vs H Q E → False := fun ⟨_, _, _, _, _, _, _, _, h, _⟩ => Nat.not_lt_zero _ h
  exact ⟨f, fd, ⟨fun _ _ _ _ h => (no h).elim, fun _ _ _ _ _ _ _ _ _ _ _ _ _ h => (no h).elim⟩, hm, F.kp, F.binds fun _ _ _ _ _ _ us hl => match us, hl with | [_, _], _ => rfl⟩
theorem like_step (F : Fd K mg "_law_like" s_like) (Bm : Blt mg) {n : Nat} (g_like : Gf P w K mg base n "_law_like" ["_law_found", "_law_due"] (spLike K n)) : Gf P w K mg base (n + 1) "_law_like" ["_law_found", "_law_due"] (spLike K (n + 1)) := by
  refine F.ok sc_like (fun _ _ _ _ _ _ us hl => match us, hl with | [_, _], _ => rfl) len_of fun qual f cdv A outer s H vs Q E hr h => ?_
  obtain ⟨_, d, x, y, rfl, dx, dy, hl, hd, hw, go⟩ := h
  refine ⟨_, (pss_cons (ps_if (pt_val (pe_callB call_isi rfl Bm.isinstance (by decide +kernel) (pa_cons (pv 1) (pa_cons (pe_bltn (v := .ty "bool") (u := .type "bool") rfl Bm.bool (by decide +kernel) rfl) pa_nil))))
        (pss_one (ps_ret (pe_and (pe_callB call_isi rfl Bm.isinstance (by decide +kernel) (pa_cons (pv 0) (pa_cons (pe_bltn (v := .ty "bool") (u := .type "bool") rfl Bm.bool (by decide +kernel) rfl) pa_nil))) (pe_one (pe_cmpR (op_eqD hr.units) (pv 0) (pv 1) (nomark _))))))
        pss_nil)
      (pss_cons (ps_if (pt_val (pe_callB call_isi rfl Bm.isinstance (by decide +kernel) (pa_cons (pv 1) (pa_cons (pe_bltn (v := .ty "str") (u := .type "str") rfl Bm.str (by decide +kernel) rfl) pa_nil))))
        (pss_one (ps_ret (pe_and (pe_callB call_isi rfl Bm.isinstance (by decide +kernel) (pa_cons (pv 0) (pa_cons (pe_bltn (v := .ty "str") (u := .type "str") rfl Bm.str (by decide +kernel) rfl) pa_nil))) (pe_one (pe_cmpR (op_eqD hr.units) (pv 0) (pv 1) (nomark _))))))
        pss_nil)
      (pss_cons (ps_if (pt_val (pe_callB call_isi rfl Bm.isinstance (by decide +kernel) (pa_cons (pv 1) (pa_cons (pe_bltn (v := .ty "int") (u := .type "int") rfl Bm.int (by decide +kernel) rfl) pa_nil))))
        (pss_one (ps_ret (pe_and (pe_callB call_isi rfl Bm.isinstance (by decide +kernel) (pa_cons (pv 0) (pa_cons (pe_bltn (v := .ty "int") (u := .type "int") rfl Bm.int (by decide +kernel) rfl) pa_nil))) (pe_and (pe_not (pe_callB call_isi rfl Bm.isinstance (by decide +kernel) (pa_cons (pv 0) (pa_cons (pe_bltn (v := .ty "bool") (u := .type "bool") rfl Bm.bool (by decide +kernel) rfl) pa_nil)))) (pe_one (pe_cmpR (op_eqD hr.units) (pv 0) (pv 1) (nomark _)))))))
        pss_nil)
      (pss_cons (ps_if (pt_cmpR op_isN (pv 1) pe_non (nomark _))
        (pss_one (ps_ret (pe_cmpR op_isN (pv 0) pe_non (nomark _))))
        pss_nil)
      (pss_cons (ps_if (pt_val (pe_callB call_isi rfl Bm.isinstance (by decide +kernel) (pa_cons (pv 1) (pa_cons (pe_bltn (v := .ty "dict") (u := .type "dict") rfl Bm.dict (by decide +kernel) rfl) pa_nil))))
        (pss_cons ps_dead
        (pss_one ps_dead))
        pss_nil)
      (pss_cons (ps_if (PW.pt (pw_or (pt_cmpR op_ne (pe_callB call_isi rfl Bm.isinstance (by decide +kernel) (pa_cons (pv 1) (pa_cons (pe_bltn (v := .ty "tuple") (u := .type "tuple") rfl Bm.tuple (by decide +kernel) rfl) pa_nil))) (pe_callB call_isi rfl Bm.isinstance (by decide +kernel) (pa_cons (pv 0) (pa_cons (pe_bltn (v := .ty "tuple") (u := .type "tuple") rfl Bm.tuple (by decide +kernel) rfl) pa_nil))) (nomark _)) (pw_or1 (pt_cmpR op_ne (pe_callB call_isi rfl Bm.isinstance (by decide +kernel) (pa_cons (pv 1) (pa_cons (pe_bltn (v := .ty "list") (u := .type "list") rfl Bm.list (by decide +kernel) rfl) pa_nil))) (pe_callB call_isi rfl Bm.isinstance (by decide +kernel) (pa_cons (pv 0) (pa_cons (pe_bltn (v := .ty "list") (u := .type "list") rfl Bm.list (by decide +kernel) rfl) pa_nil))) (nomark _)))))
        (pss_one (ps_ret pe_bl))
        pss_nil)
      (pss_cons (ps_if (pt_cmpR op_ne (pe_callB call_len_seq rfl Bm.len (by decide +kernel) (pa_cons (pv 0) pa_nil)) (pe_callB call_len_seq rfl Bm.len (by decide +kernel) (pa_cons (pv 1) pa_nil)) (nomark _))
        (pss_one (ps_ret pe_bl))
        pss_nil)
      (pss_cons (ps_for PassesOwn.never rfl (pi_range1 rfl Bm.range (pa_cons (pe_callB call_len_seq rfl Bm.len (by decide +kernel) (pa_cons (pv 1) pa_nil)) pa_nil)) (pg_name (i := 2) sc_like.nd rfl (Or.inl rfl))
        (pss_one (ps_if (pt_not (pt_val (pc g_like hr (pa_cons (pe_ix ix_any (pv 0) (pv 2) (fun _ _ => rfl)) (pa_cons (pe_ix ix_any (pv 1) (pv 2) (fun _ _ => rfl)) pa_nil)) (hj := Nat.le_refl _))))
          (pss_one (ps_ret pe_bl))
          pss_nil)))
      (pss_one (ps_ret pe_bl)))))))))), ?_⟩
  cases d with
  | none =>
    cases dx
    cases dy
    have t : TyX K H .non (.type "NoneType") := .base .non
    refine ⟨_, rfl, _, _, _, _, false, rfl, ClsV.ty _, t, kit_ty (by decide +kernel), _, rfl, iteM (by decide) ?_⟩
    refine ⟨_, rfl, _, _, _, _, false, rfl, ClsV.ty _, t, kit_ty (by decide +kernel), _, rfl, iteM (by decide) ?_⟩
    refine ⟨_, rfl, _, _, _, _, false, rfl, ClsV.ty _, t, kit_ty (by decide +kernel), _, rfl, iteM (by decide) ?_⟩
    refine ⟨_, rfl, rfl, _, rfl, iteP (by decide) ?_⟩
    exact ⟨_, rfl, rfl, go⟩
  | bool b =>
    cases dx
    cases dy
    have t : TyX K H (.bl b) (.type "bool") := .base (.bl b)
    refine ⟨_, rfl, _, _, _, _, true, rfl, ClsV.ty _, t, kit_ty (by decide +kernel), _, rfl, iteP (by decide) ?_⟩
    refine ⟨_, rfl, _, _, _, _, true, rfl, ClsV.ty _, t, kit_ty (by decide +kernel), ?_⟩
    refine ⟨_, rfl, iteP rfl ?_⟩
    refine ⟨_, rfl, _, rfl, _, _, Dp.bl b, Dp.bl b, (Gd.bool (n := 0)).shaped, (Gd.bool (n := 0)).shaped, ?_⟩
    rw [(Gd.bool (n := 0) (b := b)).refl]
    exact go
  | int i =>
    cases dx
    cases dy
    have t : TyX K H (.int i) (.type "int") := .base (.int i)
    refine ⟨_, rfl, _, _, _, _, false, rfl, ClsV.ty _, t, kit_ty (by decide +kernel), _, rfl, iteM (by decide) ?_⟩
    refine ⟨_, rfl, _, _, _, _, false, rfl, ClsV.ty _, t, kit_ty (by decide +kernel), _, rfl, iteM (by decide) ?_⟩
    refine ⟨_, rfl, _, _, _, _, true, rfl, ClsV.ty _, t, kit_ty (by decide +kernel), _, rfl, iteP (by decide) ?_⟩
    refine ⟨_, rfl, _, _, _, _, true, rfl, ClsV.ty _, t, kit_ty (by decide +kernel), _, rfl, iteP rfl ?_⟩
    refine ⟨_, rfl, _, _, _, _, false, rfl, ClsV.ty _, t, kit_ty (by decide +kernel), _, rfl, _, rfl, iteP rfl ?_⟩
    refine ⟨_, rfl, _, rfl, _, _, Dp.int i, Dp.int i, (Gd.int (n := 0)).shaped, (Gd.int (n := 0)).shaped, ?_⟩
    rw [(Gd.int (n := 0) (i := i)).refl]
    exact go
  | str z =>
    cases dx
    cases dy
    have t : TyX K H (.str z) (.type "str") := .base (.str z)
    refine ⟨_, rfl, _, _, _, _, false, rfl, ClsV.ty _, t, kit_ty (by decide +kernel), _, rfl, iteM (by decide) ?_⟩
    refine ⟨_, rfl, _, _, _, _, true, rfl, ClsV.ty _, t, kit_ty (by decide +kernel), _, rfl, iteP (by decide) ?_⟩
    refine ⟨_, rfl, _, _, _, _, true, rfl, ClsV.ty _, t, kit_ty (by decide +kernel), _, rfl, iteP rfl ?_⟩
    have hz : Gd 0 (.str z) := ⟨hl, by simp [PyData.depth]⟩
    refine ⟨_, rfl, _, rfl, _, _, Dp.str z, Dp.str z, hz.shaped, hz.shaped, ?_⟩
    rw [hz.refl]
    exact go
  | list ds =>
    cases dx with
    | @lst ax xs _ sx ex =>
    cases dy with
    | @lst ay ys _ sy ey =>
    have tx := sqL_ty sx
    have ty := sqL_ty sy
    have lx := dpAll_len ex
    have ly := dpAll_len ey
    have hwl : ds.length ≤ 1000 := Nat.le_trans (Nat.le_max_left _ _) hw
    refine ⟨_, rfl, _, _, _, _, false, rfl, ClsV.ty _, ty, kit_ty (by decide +kernel), _, rfl, iteM (by decide) ?_⟩
    refine ⟨_, rfl, _, _, _, _, false, rfl, ClsV.ty _, ty, kit_ty (by decide +kernel), _, rfl, iteM (by decide) ?_⟩
    refine ⟨_, rfl, _, _, _, _, false, rfl, ClsV.ty _, ty, kit_ty (by decide +kernel), _, rfl, iteM (by decide) ?_⟩
    refine ⟨_, rfl, rfl, _, rfl, iteM (by simp) ?_⟩
    refine ⟨_, rfl, _, _, _, _, false, rfl, ClsV.ty _, ty, kit_ty (by decide +kernel), _, rfl, iteM (by decide) ?_⟩
    refine ⟨_, rfl, _, _, _, _, false, rfl, ClsV.ty _, ty, kit_ty (by decide +kernel), _, rfl, _, _, _, _, false, rfl, ClsV.ty _, tx, kit_ty (by decide +kernel), rfl, _, rfl, iteM (by decide) ?_⟩
    refine ⟨_, rfl, _, _, _, _, true, rfl, ClsV.ty _, ty, kit_ty (by decide +kernel), _, rfl, _, _, _, _, true, rfl, ClsV.ty _, tx, kit_ty (by decide +kernel), rfl, _, rfl, iteM (by decide) ?_⟩
    refine ⟨_, rfl, ax, xs, rfl, .inl sx, _, rfl, ay, ys, rfl, .inl sy, rfl, _, rfl, iteM (by rw [lx, ly]; simp) ?_⟩
    refine ⟨_, rfl, ay, ys, rfl, .inl sy, _, rfl, by omega, by omega, for_range (lo := 0) (n := (ys.length : Int).toNat) (fun k σ H2 => ∃ v2, σ = [some (.ref ax), some (.ref ay), v2, none] ∧ H2 = H) ⟨none, rfl, rfl⟩ ?_ ?_⟩
    · rintro k σ _ hk ⟨v2, rfl, rfl⟩
      have hk' : k < ys.length := by omega
      have ez : ((0 : Int) + k) = (k : Int) := by omega
      obtain ⟨v, e, e1, e2, e3⟩ := dpAll_get ex (k := k) (by omega)
      obtain ⟨v', e', e4, e5, e6⟩ := dpAll_get ey hk'
      rw [e2] at e5
      cases e5
      have hm := List.mem_of_getElem? e2
      refine ⟨_, rfl, _, rfl, .inl ⟨ax, xs, _, v, rfl, rfl, sx, at_of (j := k) ez e1, ?_⟩⟩
      refine ⟨_, rfl, _, rfl, .inl ⟨ay, ys, _, v', rfl, rfl, sy, at_of (j := k) ez e4, ?_⟩⟩
      refine ⟨rfl, e, v, v', rfl, e3, e6, canMem (by simpa [PyData.canLay0] using hl) hm, ?_, Nat.le_trans (wid_mem hm) (Nat.le_trans (Nat.le_max_right _ _) hw), _, rfl, iteM (by decide) ⟨_, rfl, rfl⟩⟩
      have := depth_mem hm
      have hd : PyData.depthAll ds + 1 < n + 1 := hd
      omega
    · rintro σ _ ⟨v2, rfl, rfl⟩
      exact go
  | tuple ds =>
    cases dx with
    | @tup ax xs _ sx ex =>
    cases dy with
    | @tup ay ys _ sy ey =>
    have tx := sqT_ty sx
    have ty := sqT_ty sy
    have lx := dpAll_len ex
    have ly := dpAll_len ey
    have hwl : ds.length ≤ 1000 := Nat.le_trans (Nat.le_max_left _ _) hw
    refine ⟨_, rfl, _, _, _, _, false, rfl, ClsV.ty _, ty, kit_ty (by decide +kernel), _, rfl, iteM (by decide) ?_⟩
    refine ⟨_, rfl, _, _, _, _, false, rfl, ClsV.ty _, ty, kit_ty (by decide +kernel), _, rfl, iteM (by decide) ?_⟩
    refine ⟨_, rfl, _, _, _, _, false, rfl, ClsV.ty _, ty, kit_ty (by decide +kernel), _, rfl, iteM (by decide) ?_⟩
    refine ⟨_, rfl, rfl, _, rfl, iteM (by simp) ?_⟩
    refine ⟨_, rfl, _, _, _, _, false, rfl, ClsV.ty _, ty, kit_ty (by decide +kernel), _, rfl, iteM (by decide) ?_⟩
    refine ⟨_, rfl, _, _, _, _, true, rfl, ClsV.ty _, ty, kit_ty (by decide +kernel), _, rfl, _, _, _, _, true, rfl, ClsV.ty _, tx, kit_ty (by decide +kernel), rfl, _, rfl, iteM (by decide) ?_⟩
    refine ⟨_, rfl, _, _, _, _, false, rfl, ClsV.ty _, ty, kit_ty (by decide +kernel), _, rfl, _, _, _, _, false, rfl, ClsV.ty _, tx, kit_ty (by decide +kernel), rfl, _, rfl, iteM (by decide) ?_⟩
    refine ⟨_, rfl, ax, xs, rfl, .inr sx, _, rfl, ay, ys, rfl, .inr sy, rfl, _, rfl, iteM (by rw [lx, ly]; simp) ?_⟩
    refine ⟨_, rfl, ay, ys, rfl, .inr sy, _, rfl, by omega, by omega, for_range (lo := 0) (n := (ys.length : Int).toNat) (fun k σ H2 => ∃ v2, σ = [some (.ref ax), some (.ref ay), v2, none] ∧ H2 = H) ⟨none, rfl, rfl⟩ ?_ ?_⟩
    · rintro k σ _ hk ⟨v2, rfl, rfl⟩
      have hk' : k < ys.length := by omega
      have ez : ((0 : Int) + k) = (k : Int) := by omega
      obtain ⟨v, e, e1, e2, e3⟩ := dpAll_get ex (k := k) (by omega)
      obtain ⟨v', e', e4, e5, e6⟩ := dpAll_get ey hk'
      rw [e2] at e5
      cases e5
      have hm := List.mem_of_getElem? e2
      refine ⟨_, rfl, _, rfl, .inr ⟨ax, xs, _, v, rfl, rfl, sx, at_of (j := k) ez e1, ?_⟩⟩
      refine ⟨_, rfl, _, rfl, .inr ⟨ay, ys, _, v', rfl, rfl, sy, at_of (j := k) ez e4, ?_⟩⟩
      refine ⟨rfl, e, v, v', rfl, e3, e6, canMem (by simpa [PyData.canLay0] using hl) hm, ?_, Nat.le_trans (wid_mem hm) (Nat.le_trans (Nat.le_max_right _ _) hw), _, rfl, iteM (by decide) ⟨_, rfl, rfl⟩⟩
      have := depth_mem hm
      have hd : PyData.depthAll ds + 1 < n + 1 := hd
      omega
    · rintro σ _ ⟨v2, rfl, rfl⟩
      exact go
  | dict kvs => cases dx
theorem ok_like (F : Fd K mg "_law_like" s_like) (Bm : Blt mg) : Gf P w K mg base 4 "_law_like" ["_law_found", "_law_due"] (spLike K 4) := by
  exact like_step F Bm (like_step F Bm (like_step F Bm (like_step F Bm (like_zero F))))
end
end Cu

namespace Cu
open PySem PySem.Spec PyProof.Rows L2
/-! the least weight from a key on -/
theorem hu65 {k : Nat} {A : Around} (r : Room k A) : A.units + 65 < cLine := by
  have := r.un
  omega
theorem op_notInDK {X : Cx} (K : PySem.W.Frag) (h : X.K = K) (hu : X.A.units + 65 < cLine) : OpR X (compareOp .NotIn) (rNotInD K) := h ▸ op_notInD hu
theorem op_inDK {X : Cx} (K : PySem.W.Frag) (h : X.K = K) (hu : X.A.units + 65 < cLine) : OpR X (compareOp .In) (rInD K) := h ▸ op_inD hu
def Lm (cost : Nat → Option Nat) (nk k : Nat) : Int :=
  if _h : k < nk then (((List.range (nk - k)).map fun i => 2 + ((k + 1 + i : Nat) : Int) - k + Lm cost nk (k + 1 + i)) ++ (match cost k with | none => [] | some c => [(c : Int) + Lm cost nk (k + 1)])).min?.getD 0 else 0
termination_by nk - k
decreasing_by all_goals omega
def someLm (cost : Nat → Option Nat) (nk k : Nat) : List Int := ((List.range (nk - k)).map fun i => 2 + ((k + 1 + i : Nat) : Int) - k + Lm cost nk (k + 1 + i)) ++ (match cost k with | none => [] | some c => [(c : Int) + Lm cost nk (k + 1)])
theorem Lm_end {cost : Nat → Option Nat} {nk k : Nat} (h : nk ≤ k) : Lm cost nk k = 0 := by
  rw [Lm, dif_neg (by omega)]
theorem Lm_ok {cost : Nat → Option Nat} {nk k : Nat} (h : k < nk) : Lm cost nk k ∈ someLm cost nk k ∧ ∀ x ∈ someLm cost nk k, Lm cost nk k ≤ x := by
  have e : Lm cost nk k = (someLm cost nk k).min?.getD 0 := by
    rw [Lm, dif_pos h]
    rfl
  cases q : (someLm cost nk k).min? with
  | none =>
    have := List.min?_eq_none_iff.mp q
    unfold someLm at this
    have h2 := (List.append_eq_nil_iff.mp this).1
    have h3 := congrArg List.length h2
    rw [List.length_map, List.length_range] at h3
    have h3 : nk - k = 0 := h3
    omega
  | some m =>
    rw [q] at e
    have e : Lm cost nk k = m := e
    rw [e]
    exact List.min?_eq_some_iff.mp q
theorem Lm_part {cost : Nat → Option Nat} {nk k e : Nat} (h1 : k < e) (h2 : e ≤ nk) : Lm cost nk k ≤ 2 + (e : Int) - k + Lm cost nk e := by
  refine (Lm_ok (show k < nk by omega)).2 _ (List.mem_append_left _ (List.mem_map.mpr ⟨e - k - 1, List.mem_range.mpr (by omega), ?_⟩))
  rw [show k + 1 + (e - k - 1) = e by omega]
theorem Lm_own {cost : Nat → Option Nat} {nk k c : Nat} (h : k < nk) (hc : cost k = some c) : Lm cost nk k ≤ c + Lm cost nk (k + 1) := by
  refine (Lm_ok h).2 _ (List.mem_append_right _ ?_)
  rw [hc]
  exact List.mem_singleton_self _
theorem Lm_cases {cost : Nat → Option Nat} {nk k : Nat} (h : k < nk) : (∃ e, k < e ∧ e ≤ nk ∧ Lm cost nk k = 2 + (e : Int) - k + Lm cost nk e) ∨ ∃ c, cost k = some c ∧ Lm cost nk k = c + Lm cost nk (k + 1) := by
  have hm := (Lm_ok (cost := cost) h).1
  generalize Lm cost nk k = L at hm
  rcases List.mem_append.mp hm with q | q
  · obtain ⟨i, hi, q⟩ := List.mem_map.mp q
    have := List.mem_range.mp hi
    exact .inl ⟨k + 1 + i, by omega, by omega, q.symm⟩
  · cases hc : cost k with
    | none =>
      rw [hc] at q
      cases q
    | some c =>
      rw [hc] at q
      exact .inr ⟨c, rfl, List.mem_singleton.mp q⟩
/-- from the first key on it is the least weight of all -/
theorem Lm_lwt (cost : Nat → Option Nat) (nk : Nat) : Lm cost nk 0 = lwt cost nk := by
  have up : ∀ k, k ≤ nk → Lm cost nk 0 ≤ lwt cost k + Lm cost nk k := fun k => by
    have ind : ∀ m k, k ≤ m → k ≤ nk → Lm cost nk 0 ≤ lwt cost k + Lm cost nk k := fun m => by
      induction m with
      | zero =>
        intro k hk _
        have : k = 0 := by omega
        subst this
        have : lwt cost 0 = 0 := rfl
        omega
      | succ m ih =>
        intro k hk hn
        cases k with
        | zero =>
          have : lwt cost 0 = 0 := rfl
          omega
        | succ k =>
          rcases (lev_ok cost k).1 with ⟨c, hc, h1⟩ | ⟨j, hj, h1⟩
          · have h1 : lwt cost (k + 1) = lwt cost k + c := congrArg Prod.fst h1
            have i1 := ih k (by omega) (by omega)
            have i2 := Lm_own (nk := nk) (show k < nk by omega) hc
            omega
          · have h1 : lwt cost (k + 1) = lwt cost j + 2 + k + 1 - j := congrArg Prod.fst h1
            have i1 := ih j (by omega) (by omega)
            have i2 := Lm_part (cost := cost) (nk := nk) (k := j) (e := k + 1) (by omega) (by omega)
            omega
    exact ind k k (Nat.le_refl _)
  have down : ∀ m k, nk - k ≤ m → k ≤ nk → lwt cost nk ≤ lwt cost k + Lm cost nk k := fun m => by
    induction m with
    | zero =>
      intro k h1 h2
      have : k = nk := by omega
      subst this
      rw [Lm_end (Nat.le_refl _)]
      omega
    | succ m ih =>
      intro k h1 h2
      by_cases hk : k = nk
      · subst hk
        rw [Lm_end (Nat.le_refl _)]
        omega
      · rcases Lm_cases (cost := cost) (show k < nk by omega) with ⟨e, e1, e2, e3⟩ | ⟨c, hc, e3⟩
        · have i1 := ih e (by omega) e2
          obtain ⟨e', rfl⟩ : ∃ e', e = e' + 1 := ⟨e - 1, by omega⟩
          have := (lev_ok cost e').2.2 k (by omega)
          omega
        · have i1 := ih (k + 1) (by omega) (by omega)
          have := (lev_ok cost k).2.1 c hc
          omega
  have h1 := up nk (Nat.le_refl _)
  rw [Lm_end (Nat.le_refl _)] at h1
  have h2 := down nk 0 (by omega) (Nat.zero_le _)
  have : lwt cost 0 = 0 := rfl
  omega
/-- the dict of what is known already -/
def Lkv (cost : Nat → Option Nat) (nk : Nat) (S : List Nat) : List (Key × V) := S.map fun (j : Nat) => (Sum.inl (j : Int), V.int (Lm cost nk j))
theorem Lkv_get {cost : Nat → Option Nat} {nk k : Nat} : ∀ {S : List Nat}, valV (Lkv cost nk S) (Sum.inl (k : Int)) = if k ∈ S then some (V.int (Lm cost nk k)) else none
  | [] => rfl
  | j :: S => by
    show valV ((Sum.inl (j : Int), V.int (Lm cost nk j)) :: Lkv cost nk S) _ = _
    by_cases h : j = k
    · subst h
      rw [valV_pos rfl, if_pos List.mem_cons_self]
    · rw [valV_neg (by show ¬ (Sum.inl (j : Int) : Key) = Sum.inl (k : Int); intro q; injection q with q; omega), Lkv_get (S := S)]
      by_cases q : k ∈ S
      · rw [if_pos q, if_pos (List.mem_cons_of_mem _ q)]
      · rw [if_neg q, if_neg fun z => (List.mem_cons.mp z).elim (fun z => h z.symm) q]
theorem Lkv_put {cost : Nat → Option Nat} {nk k : Nat} {S : List Nat} (h : ¬ k ∈ S) : putK (Lkv cost nk S) (Sum.inl (k : Int)) (V.int (Lm cost nk k)) = Lkv cost nk (S ++ [k]) := by
  unfold putK
  rw [valV_any, Lkv_get, if_neg h]
  show Lkv cost nk S ++ _ = _
  unfold Lkv
  rw [List.map_append]
  rfl
theorem nodup_nat {S : List Nat} {n : Nat} (nd : S.Nodup) (h : ∀ j ∈ S, j < n) : S.length ≤ n := by
  have h1 : (S.map fun (j : Nat) => ((j : Int) + 1)).Nodup := by
    rw [List.nodup_iff_pairwise_ne, List.pairwise_map]
    exact nd.imp fun q e => q (by omega)
  have h2 := nodup_len (b := n) h1 fun z hz => by
    obtain ⟨j, hj, rfl⟩ := List.mem_map.mp hz
    have := h j hj
    omega
  rwa [List.length_map] at h2
end Cu

namespace Cu
open PySem PySem.Spec PyProof.Rows L2
abbrev s_lightest : Stmt := (top 34)
theorem sc_lightest : FnScope ["_law_need", "_law_key", "_law_best", "_law_some", "_law_end"] ["_law_need", "_law_key", "_law_best"] (defScope s_lightest) := ⟨rfl, rfl, rfl, by decide +kernel, rfl, by decide +kernel, by decide +kernel⟩

def LtC (cost : Nat → Option Nat) (nk : Nat) (pn pb : Addr) (S : List Nat) : Lg := [(pn, .lst ((List.range nk).map fun k => costV (cost k))), (pb, .dK (Lkv cost nk S))]
def spLightest (K : PySem.W.Frag) (n : Nat) : Sp := fun vs H Q _ => vs.length = 3 ∧ ∃ (pn pb : Addr) (cost : Nat → Option Nat) (nk k : Nat) (S : List Nat), vs = [.ref pn, .int k, .ref pb] ∧ nk ≤ 8 ∧ k ≤ nk ∧ nk - k < n ∧ Has H (LtC cost nk pn pb S) ∧ S.Nodup ∧ (∀ j ∈ S, j < nk) ∧
  ∀ (S' : List Nat) (H' : Hp), Tr H (LtC cost nk pn pb S) H' (LtC cost nk pn pb S') → S'.Nodup → (∀ j ∈ S', j < nk ∧ (j ∈ S ∨ k ≤ j)) → Q (.int (Lm cost nk k)) H'
section
variable {P : Program} {w : World} {K : PySem.W.Frag} {mg : Str → Option Value} {base : Heap}
theorem light_zero (F : Fd K mg "_law_lightest" s_lightest) : Gf P w K mg base 0 "_law_lightest" ["_law_need", "_law_key", "_law_best"] (spLightest K 0) := by
  obtain ⟨f, fd, F, hm⟩ := F.ex
  have no : ∀ {vs H Q E}, spLightest K 0 vs H Q E → False := fun ⟨_, _, _, _, _, _, _, _, _, _, h, _⟩ => Nat.not_lt_zero _ h
  exact ⟨f, fd, ⟨fun _ _ _ _ h => (no h).elim, fun _ _ _ _ _ _ _ _ _ _ _ _ _ h => (no h).elim⟩, hm, F.kp, F.binds fun _ _ _ _ _ _ us hl => match us, hl with | [_, _, _], _ => rfl⟩
theorem light_step (F : Fd K mg "_law_lightest" s_lightest) (Bm : Blt mg) {n : Nat} (g_lightest : Gf P w K mg base n "_law_lightest" ["_law_need", "_law_key", "_law_best"] (spLightest K n)) : Gf P w K mg base (n + 1) "_law_lightest" ["_law_need", "_law_key", "_law_best"] (spLightest K (n + 1)) := by
  refine F.ok sc_lightest (fun _ _ _ _ _ _ us hl => match us, hl with | [_, _, _], _ => rfl) len_of fun qual f cdv A outer s H vs Q E hr h => ?_
  obtain ⟨_, pn, pb, cost, nk, k, S, rfl, h8, hk, hkn, h0, nd, hS, go⟩ := h
  refine ⟨_, (pss_cons (ps_if (pt_cmpR op_eq (pv 1) (pe_callB call_len_seq rfl Bm.len (by decide +kernel) (pa_cons (pv 0) pa_nil)) (nomark _))
        (pss_one (ps_ret pe_int))
        pss_nil)
      (pss_cons (ps_mid (ps_if (pt_cmp (pc_dnotin (hu_of hr) (pv 1) (pv 2)))
        (pss_cons (ps_set (i := 3) sc_lightest.nd rfl (Or.inl rfl) (pe_lst pa_nil))
        (pss_cons (ps_for PassesOwn.never rfl (pi_range2 rfl Bm.range (pa_cons (pe_op op_add (pv 1) pe_int) (pa_cons (pe_op op_add (pe_callB call_len_seq rfl Bm.len (by decide +kernel) (pa_cons (pv 0) pa_nil)) pe_int) pa_nil))) (pg_name (i := 4) sc_lightest.nd rfl (Or.inl rfl))
          (pss_one (ps_expr (pe_bm PySem.F.plainAttrs_list PySem.F.slot_list_append PySem.F.type_list_append mt_append (pv 3) (pa_cons (pe_op op_add (pe_op op_sub (pe_op op_add pe_int (pv 4)) (pv 1)) (pc g_lightest hr (pa_cons (pv 0) (pa_cons (pv 4) (pa_cons (pv 2) pa_nil))) (hj := Nat.le_refl _))) pa_nil)))))
        (pss_cons (ps_mid (ps_if (pt_cmpR op_notN (pe_ix ix_list (pv 0) (pv 1) (fun _ _ => rfl)) pe_non (nomark _))
          (pss_one (ps_expr (pe_bm PySem.F.plainAttrs_list PySem.F.slot_list_append PySem.F.type_list_append mt_append (pv 3) (pa_cons (pe_op op_add (pe_ix ix_list (pv 0) (pv 1) (fun _ _ => rfl)) (pc g_lightest hr (pa_cons (pv 0) (pa_cons (pe_op op_add (pv 1) pe_int) (pa_cons (pv 2) pa_nil))) (hj := Nat.le_refl _))) pa_nil))))
          pss_nil))
        (pss_one (ps_dput (hu_of hr) (pv 2) (pv 1) (pe_callB (cr_min rfl) rfl Bm.min (by decide +kernel) (pa_cons (pv 3) pa_nil)) rfl)))))
        pss_nil))
      (pss_one (ps_ret (pe_dget (hu_of hr) (pv 2) (pv 1) (fun _ _ => rfl)))))), ?_⟩
  have z0 : 0 ≤ sizeLine := by decide
  have hln : (((List.range nk).map fun k => costV (cost k)).length : Int) = (nk : Int) := by rw [List.length_map, List.length_range]
  refine ⟨_, rfl, _, rfl, pn, _, rfl, .inl (SqL.of h0.head), rfl, _, rfl, ite2 (fun q => ?_) fun q => ?_⟩
  · have hkk : k = nk := by
      have := of_decide_eq_true q
      injection this with q
      omega
    have := go S H (Tr.refl H _) nd fun j hj => ⟨hS j hj, .inl hj⟩
    rw [Lm_end (by omega)] at this
    exact this
  have hlt : k < nk := by
    have : ¬ (V.int (k : Int) = V.int (((List.range nk).map fun k => costV (cost k)).length : Int)) := fun z => q (decide_eq_true z)
    rw [hln] at this
    have : ¬ (k : Int) = nk := fun z => this (by rw [z])
    omega
  refine rd_mid (fun σ H' => ∃ (S' : List Nat) (v3 v4 : Option V), σ = [some (.ref pn), some (.int k), some (.ref pb), v3, v4] ∧ Tr H (LtC cost nk pn pb S) H' (LtC cost nk pn pb S') ∧ S'.Nodup ∧ (∀ j ∈ S', j < nk ∧ (j ∈ S ∨ k ≤ j)) ∧ k ∈ S') ?_ ?_
  · refine ⟨_, rfl, _, rfl, pb, _, rfl, DGet.k (k := Sum.inl (k : Int)) h0.tail.head, ?_⟩
    rw [Lkv_get]
    by_cases hin : k ∈ S
    · rw [if_pos hin]
      exact ⟨_, rfl, iteM (by simp) ⟨S, _, _, rfl, Tr.refl H _, nd, fun j hj => ⟨hS j hj, .inl hj⟩, hin⟩⟩
    · rw [if_neg hin]
      refine ⟨_, rfl, iteP (by decide) ?_⟩
      refine ⟨z0, fun p hp => ?_⟩
      have t1 := (Tr.refl H (LtC cost nk pn pb S)).new (o := .lst []) hp nl
      refine ⟨_, rfl, _, _, rfl, rfl, _, rfl, pn, _, rfl, .inl (SqL.of (t1.now h0).tail.head), _, _, rfl, rfl, _, _, rfl, ⟨by omega, by omega, by omega, by omega⟩, for_range (lo := (k : Int) + 1) (n := ((((List.range nk).map fun k => costV (cost k)).length : Int) + 1 - (k + 1)).toNat)
        (fun i σ H2 => ∃ (S' : List Nat) (v4 : Option V), σ = [some (.ref pn), some (.int k), some (.ref pb), some (.ref p), v4] ∧ Tr H (LtC cost nk pn pb S) H2 ((p, .lst (((List.range i).map fun i => 2 + ((k + 1 + i : Nat) : Int) - k + Lm cost nk (k + 1 + i)).map V.int)) :: LtC cost nk pn pb S') ∧ S'.Nodup ∧ (∀ j ∈ S', j < nk ∧ (j ∈ S ∨ k + 1 ≤ j)))
        ⟨S, none, rfl, t1, nd, fun j hj => ⟨hS j hj, .inl hj⟩⟩ ?_ ?_⟩
      · rintro i σ H2 hi ⟨S', v4, rfl, t2, nd2, hS2⟩
        have hi' : k + 1 + i ≤ nk := by omega
        have ez : ((k : Int) + 1 + i) = ((k + 1 + i : Nat) : Int) := by omega
        have h2 := t2.now h0
        refine ⟨_, rfl, .inl ⟨rfl, _, SqL.of h2.head⟩, _, rfl, _, _, rfl, rfl, _, rfl, _, _, rfl, rfl, _, rfl, _, rfl, _, rfl, rfl, pn, pb, cost, nk, k + 1 + i, S', (by rw [← ez]; rfl), h8, hi', by omega, h2.tail, nd2, fun j hj => (hS2 j hj).1, fun S3 H3 t3 nd3 hS3 => ⟨_, _, rfl, rfl, ?_⟩⟩
        have t4 := t2.trans (t3.left (D := [(p, HO.lst (((List.range i).map fun i => 2 + ((k + 1 + i : Nat) : Int) - k + Lm cost nk (k + 1 + i)).map V.int))]))
        refine ⟨_, _, _, rfl, rfl, (t4.now h0).head, by rw [List.length_map, List.length_map, List.length_range]; exact small1000 (by omega), S3, _, rfl, ?_, nd3, fun j hj => ?_⟩
        · rw [List.range_succ, List.map_append, List.map_append]
          have t5 := t4.put (o' := .lst ((((List.range i).map fun i => 2 + ((k + 1 + i : Nat) : Int) - k + Lm cost nk (k + 1 + i)).map V.int) ++ [V.int (2 + ((k : Int) + 1 + i) - k + Lm cost nk (k + 1 + i))])) h0 nl
          rw [ez] at t5
          rw [ez]
          exact t5
        · obtain ⟨q1, q2⟩ := hS3 j hj
          refine ⟨q1, ?_⟩
          rcases q2 with q2 | q2
          · exact (hS2 j q2).2
          · exact .inr (by omega)
      rintro σ H2 ⟨S', v4, rfl, t2, nd2, hS2⟩
      rw [hln, show ((nk : Int) + 1 - (k + 1)).toNat = nk - k by omega] at t2
      have h2 := t2.now h0
      have hat2 : atI ((List.range nk).map fun k => costV (cost k)) (k : Int) = some (costV (cost k)) := at_of (j := k) rfl (by rw [List.getElem?_map, List.getElem?_range hlt]; rfl)
      -- its own changes
      refine rd_mid (fun σ H' => ∃ (S' : List Nat), σ = [some (.ref pn), some (.int k), some (.ref pb), some (.ref p), v4] ∧ Tr H (LtC cost nk pn pb S) H' ((p, .lst ((someLm cost nk k).map V.int)) :: LtC cost nk pn pb S') ∧ S'.Nodup ∧ (∀ j ∈ S', j < nk ∧ (j ∈ S ∨ k + 1 ≤ j))) ?_ ?_
      · refine ⟨_, rfl, _, rfl, pn, _, _, _, rfl, rfl, SqL.of h2.tail.head, hat2, ?_⟩
        cases hc0 : cost k with
        | none =>
          refine ⟨rfl, _, rfl, iteM (by decide) ⟨S', rfl, ?_, nd2, hS2⟩⟩
          unfold someLm
          rw [hc0, List.append_nil]
          exact t2
        | some c =>
          refine ⟨rfl, _, rfl, iteP (by rfl) ?_⟩
          refine ⟨_, rfl, .inl ⟨rfl, _, SqL.of h2.head⟩, _, rfl, _, rfl, pn, _, _, _, rfl, rfl, SqL.of h2.tail.head, (by rw [hat2, hc0]; rfl), _, rfl, _, rfl, _, _, rfl, rfl, _, rfl, rfl, pn, pb, cost, nk, k + 1, S', rfl, h8, by omega, by omega, h2.tail, nd2, fun j hj => (hS2 j hj).1, fun S3 H3 t3 nd3 hS3 => ⟨_, _, rfl, rfl, ?_⟩⟩
          have t4 := t2.trans (t3.left (D := [(p, HO.lst (((List.range (nk - k)).map fun i => 2 + ((k + 1 + i : Nat) : Int) - k + Lm cost nk (k + 1 + i)).map V.int))]))
          refine ⟨_, _, _, rfl, rfl, (t4.now h0).head, by rw [List.length_map, List.length_map, List.length_range]; exact small1000 (by omega), S3, rfl, ?_, nd3, fun j hj => ?_⟩
          · unfold someLm
            rw [hc0, List.map_append]
            exact t4.put h0 nl
          · obtain ⟨q1, q2⟩ := hS3 j hj
            refine ⟨q1, ?_⟩
            rcases q2 with q2 | q2
            · exact (hS2 j q2).2
            · exact .inr (by omega)
      rintro σ H3 ⟨S3, rfl, t3, nd3, hS3⟩
      have h3 := t3.now h0
      obtain ⟨hm1, hm2⟩ := Lm_ok (cost := cost) hlt
      refine ⟨_, rfl, p, _, rfl, SqL.of h3.head, List.length_pos_of_mem hm1, fun m mm1 mm2 => ?_⟩
      have hm : m = Lm cost nk k := Int.le_antisymm (mm2 _ hm1) (hm2 m mm1)
      subst hm
      have hni : ¬ k ∈ S3 := fun z => by
        rcases (hS3 k z).2 with q | q
        · exact hin q
        · omega
      have hl3 : S3.length ≤ nk := nodup_nat nd3 fun j hj => (hS3 j hj).1
      refine ⟨_, rfl, _, rfl, pb, _, rfl, DPut.k (k := Sum.inl (k : Int)) h3.tail.tail.head (by unfold Lkv; rw [List.length_map]; exact small1000 (by omega)), ?_⟩
      have t4 := (((t3.tail).perm (List.Perm.swap _ _ _)).put (o' := .dK (putK (Lkv cost nk S3) (Sum.inl (k : Int)) (V.int (Lm cost nk k)))) h0 (fun z => z)).perm (List.Perm.swap _ _ _)
      refine ⟨S3 ++ [k], _, _, rfl, ?_, ?_, fun j hj => ?_, List.mem_append_right _ (List.mem_singleton_self _)⟩
      · rw [Lkv_put hni] at t4 ⊢
        exact t4
      · refine List.nodup_append.mpr ⟨nd3, by simp, fun x hx y hy e => ?_⟩
        rw [List.mem_singleton.mp hy] at e
        subst e
        exact hni hx
      · rcases List.mem_append.mp hj with hj | hj
        · obtain ⟨q1, q2⟩ := hS3 j hj
          refine ⟨q1, ?_⟩
          rcases q2 with q2 | q2
          · exact .inl q2
          · exact .inr (by omega)
        · rw [List.mem_singleton.mp hj]
          exact ⟨hlt, .inr (Nat.le_refl _)⟩
  rintro σ H2 ⟨S', v3, v4, rfl, t2, nd2, hS2, hin⟩
  have hg : DGet H2 pb (.int k) (some (.int (Lm cost nk k))) := by
    have := DGet.k (k := Sum.inl (k : Int)) (t2.now h0).tail.head
    rw [Lkv_get, if_pos hin] at this
    exact this
  exact ⟨_, rfl, _, rfl, pb, _, rfl, hg, go S' H2 t2 nd2 hS2⟩
theorem ok_lightest (F : Fd K mg "_law_lightest" s_lightest) (Bm : Blt mg) : Gf P w K mg base 9 "_law_lightest" ["_law_need", "_law_key", "_law_best"] (spLightest K 9) := by
  exact light_step F Bm (light_step F Bm (light_step F Bm (light_step F Bm (light_step F Bm (light_step F Bm (light_step F Bm (light_step F Bm (light_step F Bm (light_zero F)))))))))
end
end Cu

namespace Cu
open PySem PySem.Spec PyProof.Rows L2
/-! how wide, how deep letters are -/
theorem cutV_to' {xs : List V} {k : Nat} : cutV xs none (some (k : Int)) = xs.take k := by
  unfold cutV
  rw [HT.sIx_none, HT.sIx_nat, List.drop_zero, Nat.sub_zero]
  by_cases h : k ≤ xs.length
  · rw [Nat.min_eq_left h]
  · rw [Nat.min_eq_right (by omega), List.take_of_length_le (Nat.le_refl _), List.take_of_length_le (by omega)]
theorem widAll_le {n : Nat} : ∀ {ds : List PyData}, (∀ d ∈ ds, wid d ≤ n) → widAll ds ≤ n
  | [], _ => by simp [widAll]
  | d :: ds, h => by
    rw [widAll]
    exact Nat.max_le.mpr ⟨h d List.mem_cons_self, widAll_le fun e he => h e (List.mem_cons_of_mem _ he)⟩
theorem wid_list {ds : List PyData} (h : ds.length ≤ 1000) (g : ∀ d ∈ ds, wid d ≤ 1000) : wid (.list ds) ≤ 1000 := by
  rw [wid]
  exact Nat.max_le.mpr ⟨h, widAll_le g⟩
theorem wid_tup {ds : List PyData} (h : ds.length ≤ 1000) (g : ∀ d ∈ ds, wid d ≤ 1000) : wid (.tuple ds) ≤ 1000 := by
  rw [wid]
  exact Nat.max_le.mpr ⟨h, widAll_le g⟩
theorem wid_ilst {ns : List Int} (h : ns.length ≤ 1000) : wid (ilst ns) ≤ 1000 := wid_list (by rw [List.length_map]; exact h) fun d hd => by
  obtain ⟨i, _, rfl⟩ := List.mem_map.mp hd
  simp [wid]
theorem Gd.chg1 {n ah : Nat} {c : Ch} : Gd 1 (Letter.enc (.change n c ah)) := .tuple (.all_cons (.str (by decide +kernel)) (.all_cons .int (.all_cons .int (.all_cons (.str (wd_ok _)) (.all_cons .int (.all_cons .int .all_nil))))))
theorem Gd.letter3 (l : Letter) : Gd 3 l.enc := by
  cases l with
  | change n c ahead => exact Gd.chg1.mono (by decide)
  | part n b rows =>
    refine .tuple (.all_cons (.str (by decide +kernel)) (.all_cons .int (.all_cons .int (.all_cons (.tuple fun d hd => ?_) .all_nil))))
    obtain ⟨r, _, rfl⟩ := List.mem_map.mp hd
    exact .tuple (.all_cons .int (.all_cons .int .all_nil))
  | beat n lasts =>
    refine .tuple (.all_cons (.str (by decide +kernel)) (.all_cons .int (.all_cons (.tuple fun d hd => ?_) .all_nil)))
    obtain ⟨r, _, rfl⟩ := List.mem_map.mp hd
    exact .int
theorem wid_part {n b : Nat} {rows : List (Int × Nat)} (h : rows.length ≤ 1000) : wid (Letter.enc (.part n b rows)) ≤ 1000 := wid_tup (by show 4 ≤ 1000; decide) fun d hd => by
  simp only [List.mem_cons, List.not_mem_nil, or_false] at hd
  rcases hd with rfl | rfl | rfl | rfl
  · simp [wid]
  · simp [wid]
  · simp [wid]
  · refine wid_tup (by rw [List.length_map]; exact h) fun d hd => ?_
    obtain ⟨r, _, rfl⟩ := List.mem_map.mp hd
    simp [wid, widAll]
theorem wid_beat {n : Nat} {lasts : List Nat} (h : lasts.length ≤ 1000) : wid (Letter.enc (.beat n lasts)) ≤ 1000 := wid_tup (by show 3 ≤ 1000; decide) fun d hd => by
  simp only [List.mem_cons, List.not_mem_nil, or_false] at hd
  rcases hd with rfl | rfl | rfl
  · simp [wid]
  · simp [wid]
  · refine wid_tup (by rw [List.length_map]; exact h) fun d hd => ?_
    obtain ⟨r, _, rfl⟩ := List.mem_map.mp hd
    simp [wid]
theorem wid_chg {n ah : Nat} {c : Ch} : wid (Letter.enc (.change n c ah)) ≤ 1000 := by simp [Letter.enc, wid, widAll]
end Cu

namespace Cu
open PySem PySem.Spec PyProof.Rows L2
abbrev s_brings : Stmt := (top 36)
theorem sc_brings : FnScope ["_law_rows", "_law_letters", "_law_keep", "_law_known_here", "_law_told", "_law_need", "_law_number", "_law_left", "_law_letter", "_law_key", "_law_mine", "_law_last"] ["_law_rows", "_law_letters", "_law_keep", "_law_known_here", "_law_told", "_law_need"] (defScope s_brings) := ⟨rfl, rfl, rfl, by decide +kernel, rfl, by decide +kernel, by decide +kernel⟩

/-- what a part covers -/
def covers (k : Nat) : Letter → Bool
  | .part _ b rows => decide (b ≤ k ∧ k < b + rows.length)
  | _ => false
def leftK (cost : Nat → Option Nat) (ls : List Letter) (k : Nat) : Bool := decide (cost k ≠ some 0) && !ls.any (covers k)
theorem leftK_snoc {cost : Nat → Option Nat} {ls : List Letter} {l : Letter} {k : Nat} : leftK cost (ls ++ [l]) k = (leftK cost ls k && !covers k l) := by
  simp [leftK, List.any_append, Bool.and_assoc]
def leftL (cost : Nat → Option Nat) (nk : Nat) (ls : List Letter) : List Nat := (List.range nk).filter (leftK cost ls)
theorem leftL_snoc {cost : Nat → Option Nat} {nk : Nat} {ls : List Letter} {l : Letter} : leftL cost nk (ls ++ [l]) = (leftL cost nk ls).filter fun k => !covers k l := by
  unfold leftL
  rw [List.filter_filter]
  congr 1
  funext k
  rw [leftK_snoc, Bool.and_comm]
def natV (L : List Nat) : List V := (L.map fun (k : Nat) => (k : Int)).map V.int
theorem natV_get {L : List Nat} {i : Nat} {x : V} (h : (natV L)[i]? = some x) : ∃ k : Nat, L[i]? = some k ∧ x = .int k := by
  obtain ⟨z, hz, rfl⟩ := int_get h
  rw [List.getElem?_map] at hz
  cases e : L[i]? with
  | none =>
    rw [e] at hz
    cases hz
  | some k =>
    rw [e] at hz
    cases hz
    exact ⟨k, rfl, rfl⟩
theorem natV_len (L : List Nat) : (natV L).length = L.length := by rw [natV, List.length_map, List.length_map]
theorem natV_snoc (L : List Nat) (k : Nat) : natV (L ++ [k]) = natV L ++ [V.int k] := by
  unfold natV
  rw [List.map_append, List.map_append]
  rfl
theorem want_last {keep : Nat} {cs : List Ch} {u : Int} {k : Nat} {w : List Letter} (h : wantL keep cs u k = some w) : (mine cs k).drop ((mine cs k).length - w.length) = w := by
  have dr : ∀ j, j ≤ (mine cs k).length → w = (mine cs k).drop j → (mine cs k).drop ((mine cs k).length - w.length) = w := fun j hj e => by
    have hl : w.length = (mine cs k).length - j := by rw [e, List.length_drop]
    rw [hl, show (mine cs k).length - ((mine cs k).length - j) = j by omega, ← e]
  unfold wantL at h
  by_cases h0 : (lof cs k : Int) ≤ u
  · rw [if_pos h0] at h
    cases h
    exact dr (mine cs k).length (Nat.le_refl _) (by rw [List.drop_length])
  · rw [if_neg h0] at h
    obtain ⟨j, j1, j2, _⟩ := someL_drop keep cs u k
    rw [j2] at h
    rcases List.eq_nil_or_concat (setsL ((mine cs k).drop j)) with es | ⟨ini, i, es⟩
    · rw [wantS_no es] at h
      split at h
      · cases h
        exact dr j j1 rfl
      · cases h
    · rw [List.concat_eq_append] at es
      rw [wantS_set es] at h
      cases h
      obtain ⟨⟨l, e1, _⟩, _⟩ := setsL_last es
      have := (List.getElem?_eq_some_iff.mp e1).1
      rw [List.length_drop] at this
      exact dr (j + i) (by omega) (by rw [List.drop_drop])
theorem wantL_tail {keep : Nat} {cs : List Ch} {u : Int} {k : Nat} {w : List Letter} (h : wantL keep cs u k = some w) : ∀ l ∈ w, l ∈ tailL keep cs := by
  unfold wantL at h
  split at h
  · cases h
    exact fun _ q => (nomatch q)
  · exact fun l hl => filter_sub_mem (wantS_mem h l hl)
theorem Brings.kind {nk keep : Nat} {cs : List Ch} {ns : List Int} {e : Nat} {ls : List Letter} (h : Brings keep cs ns e ls) : e ≤ nk → ∀ l ∈ ls, (∃ b e', b < e' ∧ e' ≤ nk ∧ l = partL cs cs.length b e') ∨ l ∈ tailL keep cs := by
  induction h with
  | nil => exact fun _ _ q => (nomatch q)
  | @want e ls w _ hw ih =>
    intro he l hl
    rcases List.mem_append.mp hl with q | q
    · exact ih (by omega) l q
    · exact .inr (wantL_tail hw l q)
  | @part b e ls _ hbe ih =>
    intro he l hl
    rcases List.mem_append.mp hl with q | q
    · exact ih (by omega) l q
    · exact .inl ⟨b, e, hbe, he, List.mem_singleton.mp q⟩
/-- a key that is left at the end has all it wants -/
theorem left_want {nk keep : Nat} {cs : List Ch} {ns : List Int} {ls : List Letter} {k : Nat} (br : Brings keep cs ns nk ls) (hk : k < nk) (h : leftK (costL keep cs ns) ls k = true) :
    ∃ w, costL keep cs ns k = some w.length ∧ (mine cs k).drop ((mine cs k).length - w.length) = w ∧ ∀ l ∈ w, l ∈ ls := by
  rcases br.cover k hk with ⟨b, e', h1, h2, h3⟩ | ⟨w, h1, h2⟩
  · exfalso
    have hc : covers k (partL cs cs.length b e') = true := decide_eq_true ⟨h1, by rw [partRows, List.length_map, List.length_range]; omega⟩
    have : ls.any (covers k) = true := List.any_eq_true.mpr ⟨_, h3, hc⟩
    unfold leftK at h
    rw [this] at h
    simp at h
  · exact ⟨w, by unfold costL; rw [h1]; rfl, want_last h1, h2⟩
def spBrings (K : PySem.W.Frag) : Sp := fun vs H Q _ => vs.length = 6 ∧ ∃ (nk keep : Nat) (cs : List Ch) (ns : List Int) (ls : List Letter) (vr vl : V) (kn pt pd : Addr) (xs : List V), vs = [vr, vl, .int keep, .ref kn, .ref pt, .ref pd] ∧ Rp K H (.list (rowsD nk cs)) vr ∧ Rp K H (.list ((lets cs).map Letter.enc)) vl ∧ FzL K H kn (ns.map V.int) ∧ ns.length = nk ∧
  StL K H pt xs ∧ RpL K H (ls.map Letter.enc) xs ∧ StL K H pd ((List.range nk).map fun k => costV (costL keep cs ns k)) ∧ Brings keep cs ns nk ls ∧ nk ≤ 8 ∧ keep ≤ 20 ∧ cs.length ≤ 400 ∧ ls.length ≤ 400 ∧ ∀ H', Grow H H' → Q (.bl true) H'
section
variable {P : Program} {w : World} {K : PySem.W.Frag} {mg : Str → Option Value} {base : Heap}
theorem ok_brings (F : Fd K mg "_law_brings" s_brings) (Bm : Blt mg) (g_part : Gf P w K mg base 1 "_law_part" ["_law_rows", "_law_number", "_law_begin", "_law_end"] (spPart K)) (g_like : Gf P w K mg base 4 "_law_like" ["_law_found", "_law_due"] (spLike K 4)) : Gf P w K mg base 5 "_law_brings" ["_law_rows", "_law_letters", "_law_keep", "_law_known_here", "_law_told", "_law_need"] (spBrings K) := by
  refine F.ok sc_brings (fun _ _ _ _ _ _ us hl => match us, hl with | [_, _, _, _, _, _], _ => rfl) len_of fun qual f cdv A outer s H vs Q E hr h => ?_
  obtain ⟨_, nk, keep, cs, ns, ls, vr, vl, kn, pt, pd, xs, rfl, rr, rl, fk, hlen, st, rx, sd, br, hk8, hkp, hcl, hll, go⟩ := h
  refine ⟨_, (pss_cons (ps_set (i := 6) sc_brings.nd rfl (Or.inl rfl) (pe_op op_sub (pe_callB call_len_seq rfl Bm.len (by decide +kernel) (pa_cons (pv 0) pa_nil)) pe_int))
      (pss_cons (ps_setLc (i := 7) (own := [("_law_key", 9)]) (g := (gName 9)) rfl sc_brings.nd rfl rfl (sw_true rfl rfl rfl (by decide +kernel)) (pi_range1 rfl Bm.range (pa_cons (pe_callB call_len_seq rfl Bm.len (by decide +kernel) (pa_cons (pv 3) pa_nil)) pa_nil)) (blkOk_by (N := ["_law_rows", "_law_letters", "_law_keep", "_law_known_here", "_law_told", "_law_need", "_law_number", "_law_left", "_law_letter", "_law_key", "_law_mine", "_law_last"]) (sc := defScope s_brings) (by decide +kernel)) (fun _ _ _ _ _ => (pg_name (i := 9) sc_brings.nd rfl (Or.inl rfl))) (fun _ _ _ _ _ => (pts_one (pt_cmpR op_ne (pe_ix (ix_listK K rfl) (pv 5) (pv 9) (fun _ _ => rfl)) pe_int (nomark _)))) (fun _ _ _ _ _ => (pv 9)))
      (pss_cons (ps_for PassesOwn.never rfl (pi_list (pv 4)) (pg_name (i := 8) sc_brings.nd rfl (Or.inr rfl))
        (pss_one (ps_if (pt_cmpR op_eq (pe_ix ix_tup (pv 8) pe_int (fun _ _ => rfl)) pe_str (nomark _))
          (pss_cons (ps_if (pt_not (pt_val (pc g_like hr (pa_cons (pv 8) (pa_cons (pc g_part hr (pa_cons (pv 0) (pa_cons (pv 6) (pa_cons (pe_ix ix_tup (pv 8) pe_int (fun _ _ => rfl)) (pa_cons (pe_op op_add (pe_ix ix_tup (pv 8) pe_int (fun _ _ => rfl)) (pe_callB call_len_seq rfl Bm.len (by decide +kernel) (pa_cons (pe_ix ix_tup (pv 8) pe_int (fun _ _ => rfl)) pa_nil))) pa_nil))))) pa_nil)))))
            (pss_one (ps_ret pe_bl))
            pss_nil)
          (pss_one (ps_setLc (i := 7) (own := [("_law_key", 9)]) (g := (gName 9)) rfl sc_brings.nd rfl rfl (sw_true rfl rfl rfl (by decide +kernel)) (pi_list (pv 7)) (blkOk_by (N := ["_law_rows", "_law_letters", "_law_keep", "_law_known_here", "_law_told", "_law_need", "_law_number", "_law_left", "_law_letter", "_law_key", "_law_mine", "_law_last"]) (sc := defScope s_brings) (by decide +kernel)) (fun _ _ _ _ _ => (pg_name (i := 9) sc_brings.nd rfl (Or.inl rfl))) (fun _ _ _ _ _ => (pts_one (pt_not (pt_chain op_le op_lt (pe_ix (ix_tupK K rfl) (pv 8) pe_int (fun _ _ => rfl)) (pv 9) (pe_op op_add (pe_ix (ix_tupK K rfl) (pv 8) pe_int (fun _ _ => rfl)) (pe_callB (call_len_seqK K rfl) rfl Bm.len (by decide +kernel) (pa_cons (pe_ix (ix_tupK K rfl) (pv 8) pe_int (fun _ _ => rfl)) pa_nil))))))) (fun _ _ _ _ _ => (pv 9)))))
          (pss_one (ps_if (pt_cmpR (op_notInD (hu65 hr)) (pv 8) (pe_slice sl_list (pv 1) (po_some (pe_callB (call_max2 rfl) rfl Bm.max (by decide +kernel) (pa_cons pe_int (pa_cons (pe_op op_sub (pv 6) (pv 2)) pa_nil)))) po_none) (by rfl))
            (pss_one (ps_ret pe_bl))
            pss_nil)))))
      (pss_cons (ps_for PassesOwn.never rfl (pi_list (pv 7)) (pg_name (i := 9) sc_brings.nd rfl (Or.inr rfl))
        (pss_cons (ps_setLc (i := 10) (own := [("_law_letter", 8)]) (g := (gName 8)) rfl sc_brings.nd rfl rfl (sw_true rfl rfl rfl (by decide +kernel)) (pi_list (pv 1)) (blkOk_by (N := ["_law_rows", "_law_letters", "_law_keep", "_law_known_here", "_law_told", "_law_need", "_law_number", "_law_left", "_law_letter", "_law_key", "_law_mine", "_law_last"]) (sc := defScope s_brings) (by decide +kernel)) (fun _ _ _ _ _ => (pg_name (i := 8) sc_brings.nd rfl (Or.inl rfl))) (fun _ _ _ _ _ => (pts_one (pt_cmpR op_eq (pe_ix (ix_tupK K rfl) (pv 8) pe_int (fun _ _ => rfl)) (pv 9) (nomark _)))) (fun _ _ _ _ _ => (pv 8)))
        (pss_cons (ps_if (pt_cmpR op_isN (pe_ix ix_list (pv 5) (pv 9) (fun _ _ => rfl)) pe_non (nomark _))
          (pss_one (ps_ret pe_bl))
          pss_nil)
        (pss_cons (ps_set (i := 11) sc_brings.nd rfl (Or.inl rfl) (pe_slice sl_list (pv 10) (po_some (pe_op op_sub (pe_callB call_len_seq rfl Bm.len (by decide +kernel) (pa_cons (pv 10) pa_nil)) (pe_ix ix_list (pv 5) (pv 9) (fun _ _ => rfl)))) po_none))
        (pss_one (ps_if (pt_cmpR (op_neD hr.units) (pe_lc (own := [("_law_letter", 8)]) (g := (gName 8)) rfl sc_brings.nd (pi_list (pv 11)) (blkOk_by (N := ["_law_rows", "_law_letters", "_law_keep", "_law_known_here", "_law_told", "_law_need", "_law_number", "_law_left", "_law_letter", "_law_key", "_law_mine", "_law_last"]) (sc := defScope s_brings) (by decide +kernel)) (fun _ _ _ _ _ => (pg_name (i := 8) sc_brings.nd rfl (Or.inl rfl))) (fun _ _ _ _ _ => (pts_one (pt_cmpR (op_notInDK K rfl (hu65 hr)) (pv 8) (pv 4) (by rfl)))) (fun _ _ _ _ _ => (pv 8))) (pe_lst pa_nil) (nomark _))
          (pss_one (ps_ret pe_bl))
          pss_nil))))))
      (pss_one (ps_ret pe_bl)))))), ?_⟩
  have z0 : 0 ≤ sizeLine := by decide
  obtain ⟨ar, xr, rfl, fr, rxr⟩ := id rr.lst_inv
  obtain ⟨al, xl, rfl, fl, rxl⟩ := id rl.lst_inv
  have hxr : xr.length = cs.length + 1 := by rw [rxr.length, rowsD_length]
  have hxl : xl.length = cs.length := by rw [rxl.length, List.length_map, lets_length]
  have hxs : xs.length = ls.length := by rw [rx.length, List.length_map]
  obtain ⟨cost, ec⟩ : ∃ cost, costL keep cs ns = cost := ⟨_, rfl⟩
  rw [ec] at sd
  -- number
  refine ⟨_, rfl, ar, xr, rfl, .inl fr.sq, _, _, rfl, rfl, ?_⟩
  show gName 6 (V.int ((xr.length : Int) - 1)) _ _ _
  rw [show ((xr.length : Int) - 1) = (cs.length : Int) by omega]
  -- left
  refine ⟨_, rfl, kn, _, rfl, .inl fk.sq, _, rfl, by omega, by rw [List.length_map]; omega, fun D hD => ?_⟩
  refine lc_range (lo := 0) (n := (((ns.map V.int).length : Nat) : Int).toNat) (fun i H2 => Tr H [] H2 [(D, .lst (natV ((List.range i).filter (leftK cost []))))]) ((Tr.refl H []).new hD nl) ?_ ?_
  · rintro j H2 hj t2
    have hj' : j < nk := by
      rw [List.length_map] at hj
      omega
    have ez : ((0 : Int) + j) = (j : Int) := by omega
    have hat : atI ((List.range nk).map fun k => costV (cost k)) ((0 : Int) + j) = some (costV (cost j)) := at_of (j := j) ez (by rw [List.getElem?_map, List.getElem?_range hj']; rfl)
    refine ⟨rfl, _, rfl, _, rfl, pd, _, _, _, rfl, rfl, sd _ _ t2, hat, (by cases cost j <;> rfl), _, rfl, ite2 (fun h => ?_) fun h => ?_⟩
    · refine ⟨_, rfl, _, t2.own.head, by rw [natV_len]; exact small1000 (Nat.le_trans (List.length_filter_le _ _) (by rw [List.length_range]; omega)), ?_⟩
      have hc : leftK cost [] j = true := by
        have h : ¬ costV (cost j) = V.int 0 := by simpa using h
        have : cost j ≠ some 0 := fun z => h (by rw [z]; rfl)
        simp [leftK, this]
      rw [List.range_succ, List.filter_append, List.filter_cons_of_pos (by exact hc), List.filter_nil, natV_snoc, ez]
      exact t2.put .nil nl
    · have hc : ¬ leftK cost [] j = true := by
        have h : costV (cost j) = V.int 0 := by simpa using h
        have : cost j = some 0 := by
          cases q : cost j with
          | none =>
            rw [q] at h
            cases h
          | some n =>
            rw [q] at h
            have h : V.int (n : Int) = V.int 0 := h
            injection h with h
            congr 1
            omega
        simp [leftK, this]
      rw [List.range_succ, List.filter_append, List.filter_cons_of_neg (by exact hc), List.filter_nil, List.append_nil]
      exact t2
  rintro H2 t2
  rw [List.length_map, hlen, Int.toNat_natCast] at t2
  change Tr H [] H2 [(D, .lst (natV (leftL cost nk [])))] at t2
  -- for letter in told
  refine ⟨_, rfl, pt, rfl, ⟨_, st _ _ t2⟩, for_list (K := K) (a := pt) (xs := xs) (fun i σ H3 => ∃ (q : Addr) (O : Lg) (v8 : Option V), σ = [some (.ref ar), some (.ref al), some (.int keep), some (.ref kn), some (.ref pt), some (.ref pd), some (.int cs.length), some (.ref q), v8, none, none, none] ∧
      Tr H [] H3 ((q, .lst (natV (leftL cost nk (ls.take i)))) :: O)) ⟨D, [], none, rfl, t2⟩ (fun i σ H3 _ ⟨_, _, _, _, t⟩ => st _ _ t) ?_ ?_⟩
  · rintro i x σ H3 hi ⟨q, O, v8, rfl, t3⟩
    have hi' : i < ls.length := by
      have := (List.getElem?_eq_some_iff.mp hi).1
      omega
    obtain ⟨l, el⟩ : ∃ l, ls[i]? = some l := ⟨ls[i], List.getElem?_eq_getElem hi'⟩
    obtain ⟨y, ey, ry⟩ := (rx.mono t3.mono).get (i := i) (d := l.enc) (by rw [List.getElem?_map, el]; rfl)
    rw [hi] at ey
    cases ey
    rw [take_snoc el]
    rcases br.kind (Nat.le_refl nk) l (List.mem_of_getElem? el) with ⟨b, e, hbe, hek, rfl⟩ | htl
    · have hrl : (partRows cs cs.length b (e - b)).length = e - b := by rw [partRows, List.length_map, List.length_range]
      have ry' := ry
      unfold partL at ry'
      obtain ⟨a', t', zs, rfl, ha, ht, hzs, _⟩ := ry'.part_inv
      rw [hrl] at hzs
      have ezs : (b : Int) + zs.length = (e : Int) := by omega
      refine ⟨_, rfl, a', _, _, _, rfl, rfl, SqT.of ha, rfl, rfl, _, rfl, iteP (by decide +kernel) ?_⟩
      refine ⟨_, rfl, _, rfl, _, rfl, _, rfl, a', _, _, _, rfl, rfl, SqT.of ha, rfl, _, rfl, a', _, _, _, rfl, rfl, SqT.of ha, rfl, _, rfl, a', _, _, _, rfl, rfl, SqT.of ha, rfl, t', zs, rfl, .inr (SqT.of ht), _, _, rfl, rfl, rfl, nk, cs.length, b, e, cs, .ref ar, (by rw [← ezs]; rfl), hk8, Nat.le_refl _, hbe, hek, rr.mono t3.mono, fun u H4 g4 r4 => ?_⟩
      have gl := Gd.letter3 (partL cs cs.length b e)
      refine ⟨rfl, _, .ref a', u, rfl, (ry.mono g4.mono).dp, r4.dp, gl.1, Nat.lt_succ_of_le gl.2, wid_part (by rw [hrl]; omega), _, rfl, iteM (by decide) ?_⟩
      have t4 := t3.grow g4
      refine ⟨_, rfl, q, rfl, ⟨_, SqL.of t4.own.head⟩, fun D4 hD4 => ?_⟩
      refine lc_list (K := K) (a := q) (xs := natV (leftL cost nk (ls.take i))) (fun j H5 => Mono H4 H5 ∧ Tr H [] H5 ((D4, .lst (natV (((leftL cost nk (ls.take i)).take j).filter fun k => !covers k (partL cs cs.length b e)))) :: (q, .lst (natV (leftL cost nk (ls.take i)))) :: O)) ⟨Mono.new hD4, t4.new hD4 nl⟩ (fun j H5 _ ⟨_, t⟩ => SqL.of t.own.tail.head) ?_ ?_
      · rintro j x H5 hj ⟨m5, t5⟩
        obtain ⟨k, ek, rfl⟩ := natV_get hj
        have ha5 := (g4.mono.trans m5) a' _ ha trivial
        have ht5 := (g4.mono.trans m5) t' _ ht trivial
        have hll' : (((leftL cost nk (ls.take i)).take j).filter fun k => !covers k (partL cs cs.length b e)).length ≤ 8 := by
          refine Nat.le_trans (List.length_filter_le _ _) ?_
          have h9 : (leftL cost nk (ls.take i)).length ≤ nk := by
            have := List.length_filter_le (leftK cost (ls.take i)) (List.range nk)
            rw [List.length_range] at this
            exact this
          rw [List.length_take]
          omega
        have keep_ : ¬ covers k (partL cs cs.length b e) = true → ∃ acc, H5 D4 = some (.lst acc) ∧ acc.length < sizeLine ∧ Mono H4 (upd H5 D4 (.lst (acc ++ [V.int k]))) ∧ Tr H [] (upd H5 D4 (.lst (acc ++ [V.int k]))) ((D4, .lst (natV (((leftL cost nk (ls.take i)).take (j + 1)).filter fun k => !covers k (partL cs cs.length b e)))) :: (q, .lst (natV (leftL cost nk (ls.take i)))) :: O) := fun hc => by
          refine ⟨_, t5.own.head, by rw [natV_len]; exact small1000 (by omega), m5.trans t5.own.mono_put, ?_⟩
          rw [take_snoc ek, List.filter_append, List.filter_cons_of_pos (by simp [hc]), List.filter_nil, natV_snoc]
          exact t5.put .nil nl
        have skip : covers k (partL cs cs.length b e) = true → Mono H4 H5 ∧ Tr H [] H5 ((D4, .lst (natV (((leftL cost nk (ls.take i)).take (j + 1)).filter fun k => !covers k (partL cs cs.length b e)))) :: (q, .lst (natV (leftL cost nk (ls.take i)))) :: O) := fun hc => by
          rw [take_snoc ek, List.filter_append, List.filter_cons_of_neg (by simp [hc]), List.filter_nil, List.append_nil]
          exact ⟨m5, t5⟩
        have ecov : covers k (partL cs cs.length b e) = decide (b ≤ k ∧ k < b + (e - b)) := by
          show decide (b ≤ k ∧ k < b + (partRows cs cs.length b (e - b)).length) = _
          rw [hrl]
        refine ⟨rfl, _, rfl, a', _, _, _, rfl, rfl, SqT.of ha5, rfl, _, rfl, _, _, rfl, rfl, _, rfl, ite2 (fun h => ?_) fun h => ?_⟩
        · refine ⟨_, rfl, a', _, _, _, rfl, rfl, SqT.of ha5, rfl, _, rfl, a', _, _, _, rfl, rfl, SqT.of ha5, rfl, t', zs, rfl, .inr (SqT.of ht5), _, _, rfl, rfl, _, _, rfl, rfl, _, rfl, ?_⟩
          have hbk : b ≤ k := by
            have := of_decide_eq_true h
            omega
          by_cases hke : k < e
          · refine iteM (by simp; omega) (skip ?_)
            rw [ecov]
            exact decide_eq_true ⟨hbk, by omega⟩
          · refine iteP (by simp; omega) ⟨_, rfl, keep_ ?_⟩
            rw [ecov]
            exact fun z => by
              have := of_decide_eq_true z
              omega
        · have hbk : ¬ b ≤ k := fun z => h (decide_eq_true (by omega))
          refine ⟨_, rfl, iteP (by rfl) ⟨_, rfl, keep_ ?_⟩⟩
          rw [ecov]
          exact fun z => hbk (of_decide_eq_true z).1
      · rintro H5 ⟨m5, t5⟩
        rw [natV_len, List.take_length] at t5
        refine ⟨D4, (q, .lst (natV (leftL cost nk (ls.take i)))) :: O, _, rfl, ?_⟩
        rw [leftL_snoc]
        exact t5
    · obtain ⟨m, ch, em, rfl⟩ := tailL_mem htl
      obtain ⟨a', rfl, ha⟩ := ry.chg_inv
      refine ⟨_, rfl, a', _, _, _, rfl, rfl, SqT.of ha, rfl, rfl, _, rfl, iteM (by decide +kernel) ?_⟩
      have emax : (if (cs.length : Int) - keep > 0 then (cs.length : Int) - keep else 0) = ((cs.length - keep : Nat) : Int) := by
        split <;> omega
      refine ⟨_, rfl, _, rfl, _, rfl, _, rfl, _, _, rfl, rfl, _, _, rfl, _, rfl, al, xl, rfl, (fl.mono t3.mono).sq, fun q4 hq4 => ?_⟩
      rw [emax, cutV_from (by omega)]
      have rx4 : RpL K (upd H3 q4 (.lst (xl.drop (cs.length - keep)))) ((tailL keep cs).map Letter.enc) (xl.drop (cs.length - keep)) := by
        unfold tailL
        rw [List.map_drop]
        exact ((rxl.mono t3.mono).drop _).mono (Mono.new hq4)
      have gl := Gd.letter (.change (m + 1) ch (lof (cs.take m) ch.key))
      refine ⟨_, _, (ry.mono (Mono.new hq4)).dp, .lst (SqL.of upd_same) rx4.dp, gl.shaped, (Gd.letters _).shaped, _, rfl, iteM ?_ ?_⟩
      · rw [Bool.not_eq_true', Bool.not_eq_false]
        exact List.any_eq_true.mpr ⟨_, List.mem_map.mpr ⟨_, htl, rfl⟩, gl.refl⟩
      · refine ⟨q, O, _, rfl, ?_⟩
        have e9 : (leftL cost nk (ls.take i)).filter (fun k => !covers k (Letter.change (m + 1) ch (lof (cs.take m) ch.key))) = leftL cost nk (ls.take i) := List.filter_eq_self.mpr fun _ _ => rfl
        rw [leftL_snoc, e9]
        exact t3.old hq4
  rintro σ H3 ⟨q, O, v8, rfl, t3⟩
  rw [hxs, List.take_length] at t3
  -- for key in left
  refine ⟨_, rfl, q, rfl, ⟨_, SqL.of t3.own.head⟩, for_list (K := K) (a := q) (xs := natV (leftL cost nk ls)) (fun i σ H4 => ∃ (O : Lg) (v8 v9 v10 v11 : Option V), σ = [some (.ref ar), some (.ref al), some (.int keep), some (.ref kn), some (.ref pt), some (.ref pd), some (.int cs.length), some (.ref q), v8, v9, v10, v11] ∧
      Tr H [] H4 ((q, .lst (natV (leftL cost nk ls))) :: O)) ⟨O, v8, none, none, none, rfl, t3⟩ (fun i σ H4 _ ⟨_, _, _, _, _, _, t⟩ => SqL.of t.own.head) ?_ ?_⟩
  · rintro i x σ H4 hi ⟨O, v8, v9, v10, v11, rfl, t4⟩
    obtain ⟨k, ek, rfl⟩ := natV_get hi
    obtain ⟨h1, h2⟩ := List.mem_filter.mp (List.mem_of_getElem? ek)
    have hk : k < nk := List.mem_range.mp h1
    obtain ⟨w, hw1, hw2, hw3⟩ := left_want br hk (by rw [ec]; exact h2)
    rw [ec] at hw1
    have hat : atI ((List.range nk).map fun k => costV (cost k)) (k : Int) = some (V.int w.length) := at_of (j := k) rfl (by rw [List.getElem?_map, List.getElem?_range hk]; show some (costV (cost k)) = _; rw [hw1]; rfl)
    -- mine
    refine ⟨_, rfl, al, rfl, ⟨_, (fl.mono t4.mono).sq⟩, fun D5 hD5 => ?_⟩
    refine lc_list (K := K) (a := al) (xs := xl) (fun j H5 => ∃ ys, Tr H [] H5 ((D5, .lst ys) :: (q, .lst (natV (leftL cost nk ls))) :: O) ∧ RpL K H5 ((((lets cs).take j).filter fun l => decide (l.keyOf = k)).map Letter.enc) ys) ⟨[], t4.new hD5 nl, .nil⟩ (fun j H5 _ ⟨_, t, _⟩ => (fl.mono t.mono).sq) ?_ ?_
    · rintro j x H5 hj ⟨ys, t5, ry5⟩
      have hj' : j < (lets cs).length := by
        have := (List.getElem?_eq_some_iff.mp hj).1
        rw [lets_length]
        omega
      obtain ⟨l, el⟩ : ∃ l, (lets cs)[j]? = some l := ⟨(lets cs)[j], List.getElem?_eq_getElem hj'⟩
      obtain ⟨x', ex, rx'⟩ := (rxl.mono t5.mono).get (i := j) (d := l.enc) (by rw [List.getElem?_map, el]; rfl)
      rw [hj] at ex
      cases ex
      obtain ⟨m, ch, _, rfl⟩ := lets_mem (List.mem_of_getElem? el)
      obtain ⟨ad, rfl, had⟩ := rx'.chg_inv
      have hyl : ys.length ≤ 400 := by
        rw [ry5.length, List.length_map]
        refine Nat.le_trans (List.length_filter_le _ _) ?_
        rw [List.length_take]
        have := lets_length cs
        omega
      refine ⟨rfl, _, rfl, ad, _, _, _, rfl, rfl, SqT.of had, rfl, _, rfl, rfl, _, rfl, ite2 (fun h2 => ?_) fun h2 => ?_⟩
      · have h2' : ch.key = k := by
          have := of_decide_eq_true h2
          injection this with q
          omega
        refine ⟨_, rfl, ys, t5.own.head, small1000 (by omega), ys ++ [.ref ad], t5.put .nil nl, ?_⟩
        have e1 : List.filter (fun l => decide (l.keyOf = k)) [Letter.change (m + 1) ch (lof (cs.take m) ch.key)] = [Letter.change (m + 1) ch (lof (cs.take m) ch.key)] := List.filter_cons_of_pos (l := []) (decide_eq_true h2')
        rw [take_snoc el, List.filter_append, e1, List.map_append]
        exact (ry5.snoc rx').mono t5.own.mono_put
      · have h2' : ¬ ch.key = k := fun q => h2 (decide_eq_true (by show V.int (ch.key : Int) = V.int (k : Int); rw [q]))
        refine ⟨ys, t5, ?_⟩
        rw [take_snoc el, List.filter_append, List.filter_cons_of_neg (by show ¬ decide (ch.key = k) = true; exact fun q => h2' (of_decide_eq_true q)), List.filter_nil, List.append_nil]
        exact ry5
    rintro H5 ⟨ys, t5, ry5⟩
    rw [List.take_of_length_le (by rw [lets_length]; omega)] at ry5
    change RpL K H5 ((mine cs k).map Letter.enc) ys at ry5
    have hyl : ys.length = (mine cs k).length := by rw [ry5.length, List.length_map]
    have hwl : w.length ≤ (mine cs k).length := by
      rw [← hw2, List.length_drop]
      omega
    refine ⟨_, rfl, _, rfl, pd, _, _, _, rfl, rfl, sd _ _ t5, hat, rfl, _, rfl, iteM (by simp) ?_⟩
    -- last
    refine ⟨_, rfl, _, rfl, D5, ys, rfl, .inl (SqL.of t5.own.head), _, rfl, _, rfl, pd, _, _, _, rfl, rfl, sd _ _ t5, hat, _, _, rfl, rfl, _, rfl, D5, ys, rfl, SqL.of t5.own.head, fun q6 hq6 => ?_⟩
    have ecut : cutV ys (some ((ys.length : Int) - w.length)) none = ys.drop ((mine cs k).length - w.length) := by
      rw [show ((ys.length : Int) - w.length) = (((mine cs k).length - w.length : Nat) : Int) by omega]
      exact cutV_from (by omega)
    rw [ecut]
    have t6 := t5.new (o := .lst (ys.drop ((mine cs k).length - w.length))) hq6 nl
    have rw6 : RpL K (upd H5 q6 (.lst (ys.drop ((mine cs k).length - w.length)))) (w.map Letter.enc) (ys.drop ((mine cs k).length - w.length)) := by
      have := (ry5.drop ((mine cs k).length - w.length)).mono (Mono.new (o := .lst (ys.drop ((mine cs k).length - w.length))) hq6)
      rw [← List.map_drop, hw2] at this
      exact this
    generalize ys.drop ((mine cs k).length - w.length) = zs at *
    generalize upd H5 q6 (.lst zs) = H6 at *
    refine ⟨_, rfl, q6, rfl, ⟨_, SqL.of t6.own.head⟩, fun D7 hD7 => ?_⟩
    refine lc_list (K := K) (a := q6) (xs := zs) (fun j H7 => Mono H6 H7 ∧ Tr H [] H7 ((D7, .lst []) :: (q6, .lst zs) :: (D5, .lst ys) :: (q, .lst (natV (leftL cost nk ls))) :: O)) ⟨Mono.new hD7, t6.new hD7 nl⟩ (fun j H7 _ ⟨_, t⟩ => SqL.of t.own.tail.head) ?_ ?_
    · rintro j x H7 hj ⟨m7, t7⟩
      have hzl : zs.length = w.length := by rw [rw6.length, List.length_map]
      obtain ⟨l, el⟩ : ∃ l, w[j]? = some l := ⟨w[j]'(by have := (List.getElem?_eq_some_iff.mp hj).1; omega), List.getElem?_eq_getElem _⟩
      obtain ⟨x', ex, rx'⟩ := (rw6.mono m7).get (i := j) (d := l.enc) (by rw [List.getElem?_map, el]; rfl)
      rw [hj] at ex
      cases ex
      have gl := Gd.letter l
      refine ⟨rfl, _, rfl, _, rfl, _, _, rx'.dp, .lst (st _ _ t7) (rx.mono t7.mono).dp, gl.shaped, (Gd.letters _).shaped, _, rfl, iteM ?_ ⟨m7, t7⟩⟩
      rw [Bool.not_eq_true', Bool.not_eq_false]
      exact List.any_eq_true.mpr ⟨_, List.mem_map.mpr ⟨l, hw3 l (List.mem_of_getElem? el), rfl⟩, gl.refl⟩
    rintro H7 ⟨m7, t7⟩
    refine ⟨z0, fun e8 he8 => ⟨_, _, Dp.nil (by rw [upd_ne (ne_of_none t7.own.head he8)]; exact t7.own.head), Dp.nil upd_same, (Gd.nil (n := 0)).shaped, (Gd.nil (n := 0)).shaped, _, rfl, ?_⟩⟩
    rw [(Gd.nil (n := 0)).refl]
    refine iteM (by decide) ?_
    have t8 := t7.old (o := .lst []) he8
    refine ⟨(D7, .lst []) :: (q6, .lst zs) :: (D5, .lst ys) :: O, _, _, _, _, rfl, t8.perm ?_⟩
    exact (List.perm_middle (l₁ := [(D7, HO.lst []), (q6, HO.lst zs), (D5, HO.lst ys)]) (l₂ := O) (a := (q, HO.lst (natV (leftL cost nk ls)))))
  · rintro σ H4 ⟨O, v8, v9, v10, v11, rfl, t4⟩
    exact go H4 (t4.sub (List.nil_sublist _))
end
end Cu

namespace Cu
open PySem PySem.Spec PyProof.Rows L2
abbrev s_law : Stmt := (top 37)
theorem sc_law : FnScope ["_law_script", "_law_d", "_law_keys", "_law_keep", "_law_changes_here", "_law_board", "_law_rows", "_law_letters", "_law_turn", "_law_known_here", "_law_need", "_law_due", "_law_handed", "_law_again", "_law_found", "_law_told", "_law_key"] ["_law_script"] (defScope s_law) := ⟨rfl, rfl, rfl, by decide +kernel, rfl, by decide +kernel, by decide +kernel⟩

section
variable {P : Program} {w : World} {K : PySem.W.Frag} {mg : Str → Option Value} {base : Heap} {CB : Addr}
theorem ok_law {f : Addr} {fd : FuncData} (F : Fun K "law" "law" s_law f fd) (Bm : Blt mg) (CBoard : CBo K CB) (g_dice : Gf P w K mg base 1 "_law_dice" ["_law_script"] (spDice K)) (g_next : Gf P w K mg base 1 "_law_next" ["_law_dice_here", "_law_many"] (spNext K))
    (g_counts : Gf P w K mg base 2 "_law_counts" ["_law_d"] (spCounts K)) (g_changes : Gf P w K mg base 3 "_law_changes" ["_law_d", "_law_keys", "_law_most"] (spChanges K)) (g_made : Gf P w K mg base 3 "_law_made" ["_law_keys", "_law_keep", "_law_changes_here"] (spMade K CB)) (g_answer : Gf P w K mg base 4 "answer" ["board", "known"] (spAnswer K CB))
    (g_prices : Gf P w K mg base 4 "prices" ["board", "known"] (spPrices K CB)) (g_weight : Gf P w K mg base 1 "weight" ["letters"] (spWeight K)) (g_known : Gf P w K mg base 2 "_law_known" ["_law_d", "_law_keys", "_law_number"] (spLknown K)) (g_shows : Gf P w K mg base 3 "shows" ["board", "known", "told"] (spShows K CB))
    (g_story : Gf P w K mg base 1 "_law_story" ["_law_keys", "_law_changes_here"] (spStory K)) (g_lwanted : Gf P w K mg base 1 "_law_wanted" ["_law_rows", "_law_letters", "_law_keep", "_law_known_here", "_law_key"] (spLwanted K)) (g_is_price : Gf P w K mg base 1 "_law_is_price" ["_law_need", "_law_told"] (spIsPrice K))
    (g_like : Gf P w K mg base 4 "_law_like" ["_law_found", "_law_due"] (spLike K 4)) (g_lightest : Gf P w K mg base 9 "_law_lightest" ["_law_need", "_law_key", "_law_best"] (spLightest K 9)) (g_brings : Gf P w K mg base 5 "_law_brings" ["_law_rows", "_law_letters", "_law_keep", "_law_known_here", "_law_told", "_law_need"] (spBrings K)) : FnOk P w K mg base CX0 10 f fd ["_law_script"] (spLaw K) := by
  refine F.ok sc_law len_of fun cdv A0 outer s H vs Q E hr h => ?_
  obtain ⟨_, c, ns0, rfl, hns, fc, go⟩ := h
  refine ⟨_, (pss_cons (ps_set (i := 1) sc_law.nd rfl (Or.inl rfl) (pc g_dice hr (pa_cons (pv 0) pa_nil)))
      (pss_cons (ps_asg (pc g_counts hr (pa_cons (pv 1) pa_nil)) (pg_tup rfl (pgs_cons (pg_name (i := 2) sc_law.nd rfl (Or.inl rfl)) (pgs_cons (pg_name (i := 3) sc_law.nd rfl (Or.inr rfl)) pgs_nil))))
      (pss_cons (ps_set (i := 4) sc_law.nd rfl (Or.inl rfl) (pc g_changes hr (pa_cons (pv 1) (pa_cons (pv 2) (pa_cons (pe_ix ix_list (pe_lst (pa_cons pe_int (pa_cons pe_int (pa_cons pe_int (pa_cons pe_int pa_nil))))) (pc g_next hr (pa_cons (pv 1) (pa_cons pe_int pa_nil))) (fun _ _ => rfl)) pa_nil)))))
      (pss_cons (ps_set (i := 5) sc_law.nd rfl (Or.inl rfl) (pc g_made hr (pa_cons (pv 2) (pa_cons (pv 3) (pa_cons (pv 4) pa_nil)))))
      (pss_cons (ps_asg (pc g_story hr (pa_cons (pv 2) (pa_cons (pv 4) pa_nil))) (pg_tup rfl (pgs_cons (pg_name (i := 6) sc_law.nd rfl (Or.inr rfl)) (pgs_cons (pg_name (i := 7) sc_law.nd rfl (Or.inr rfl)) pgs_nil))))
      (pss_cons (ps_for PassesOwn.never rfl (pi_range1 rfl Bm.range (pa_cons pe_int pa_nil)) (pg_name (i := 8) sc_law.nd rfl (Or.inl rfl))
        (pss_cons (ps_set (i := 9) sc_law.nd rfl (Or.inr rfl) (pc g_known hr (pa_cons (pv 1) (pa_cons (pv 2) (pa_cons (pe_callB call_len_seq rfl Bm.len (by decide +kernel) (pa_cons (pv 4) pa_nil)) pa_nil)))))
        (pss_cons (ps_setLc (i := 10) (own := [("_law_key", 16)]) (g := (gName 16)) (tt := tYes) rfl sc_law.nd rfl rfl (sw_true rfl rfl rfl (by decide +kernel)) (pi_range1 rfl Bm.range (pa_cons (pv 2) pa_nil)) (blkOk_by (N := ["_law_script", "_law_d", "_law_keys", "_law_keep", "_law_changes_here", "_law_board", "_law_rows", "_law_letters", "_law_turn", "_law_known_here", "_law_need", "_law_due", "_law_handed", "_law_again", "_law_found", "_law_told", "_law_key"]) (sc := defScope s_law) (by decide +kernel)) (fun _ _ _ _ _ => (pg_name (i := 16) sc_law.nd rfl (Or.inl rfl))) (fun _ _ _ _ _ => pts_nil) (fun _ _ _ _ _ => (pc g_lwanted hr (pa_cons (pv 6) (pa_cons (pv 7) (pa_cons (pv 3) (pa_cons (pv 9) (pa_cons (pv 16) pa_nil))))))))
        (pss_cons (ps_set (i := 11) sc_law.nd rfl (Or.inl rfl) (pc g_lightest hr (pa_cons (pv 10) (pa_cons pe_int (pa_cons pe_dnewK pa_nil)))))
        (pss_cons (ps_set (i := 12) sc_law.nd rfl (Or.inl rfl) (pe_fz (pe_callTy call_list_of rfl Bm.list (by decide +kernel) (pa_cons (pv 9) pa_nil))))
        (pss_one (ps_for PassesOwn.never rfl (pi_range1 rfl Bm.range (pa_cons pe_int pa_nil)) (pg_name (i := 13) sc_law.nd rfl (Or.inl rfl))
          (pss_cons (ps_set (i := 14) sc_law.nd rfl (Or.inl rfl) (pc g_answer hr (pa_cons (pv 5) (pa_cons (pv 12) pa_nil))))
          (pss_cons (ps_if (pt_cmpR (op_neD hr.units) (pv 12) (pv 9) (nomark _))
            (pss_one (ps_ret pe_bl))
            pss_nil)
          (pss_cons (ps_if (pt_not (pt_val (pc g_brings hr (pa_cons (pv 6) (pa_cons (pv 7) (pa_cons (pv 3) (pa_cons (pv 9) (pa_cons (pv 14) (pa_cons (pv 10) pa_nil)))))))))
            (pss_one (ps_ret pe_bl))
            pss_nil)
          (pss_cons (ps_set (i := 15) sc_law.nd rfl (Or.inl rfl) (pc g_prices hr (pa_cons (pv 5) (pa_cons (pv 12) pa_nil))))
          (pss_cons (ps_if (pt_not (pt_val (pc g_like hr (pa_cons (pe_lst (pa_cons (pc g_weight hr (pa_cons (pv 14) pa_nil)) (pa_cons (pe_callB (cr_sum rfl) rfl Bm.sum (by decide +kernel) (pa_cons (pv 15) pa_nil)) (pa_cons (pe_callB call_len_seq rfl Bm.len (by decide +kernel) (pa_cons (pv 15) pa_nil)) pa_nil)))) (pa_cons (pe_lst (pa_cons (pv 11) (pa_cons (pv 11) (pa_cons (pv 2) pa_nil)))) pa_nil)))))
            (pss_one (ps_ret pe_bl))
            pss_nil)
          (pss_cons (ps_if (PW.pt (pw_or (pt_not (pt_val (pc g_is_price hr (pa_cons (pv 10) (pa_cons (pv 15) pa_nil))))) (pw_or1 (pt_cmpR op_notBl (pc g_shows hr (pa_cons (pv 5) (pa_cons (pv 9) (pa_cons (pe_callTy call_list_of rfl Bm.list (by decide +kernel) (pa_cons (pv 15) pa_nil)) pa_nil)))) pe_bl (nomark _)))))
            (pss_one (ps_ret pe_bl))
            pss_nil)
          (pss_cons (ps_expr (pe_bm PySem.F.plainAttrs_list PySem.F.slot_list_append PySem.F.type_list_append mt_append (pv 14) (pa_cons pe_int pa_nil)))
          (pss_one (ps_expr (pe_bm0 PySem.F.plainAttrs_list PySem.F.slot_list_clear PySem.F.type_list_clear mt_clear (pv 15))))))))))))))))))
      (pss_one (ps_ret pe_bl)))))))), ?_⟩
  have z0 : 0 ≤ sizeLine := by decide
  refine ⟨_, rfl, rfl, c, ns0, [], rfl, by omega, fc, .nil, fun a H1 m1 d1 => ?_⟩
  refine ⟨_, rfl, rfl, a, [], rfl, d1, fun nk keep tc H2 hk hk8 hkp m2 d2 htc => ?_⟩
  refine ⟨tc, _, rfl, SqT.of htc, rfl, _, _, rfl, _, _, rfl, rfl, ?_⟩
  refine ⟨_, rfl, _, rfl, (by show 4 ≤ sizeLine; decide), fun l3 hl3 => ?_⟩
  have d3 := d2.new (o := .lst [.int 50, .int 50, .int 50, .int 300]) hl3 nl
  refine ⟨_, rfl, rfl, a, 4, _, rfl, by decide, by decide, d3, fun r4 H4 p4 q4 m4 d4 => ?_⟩
  obtain ⟨v, hv, hm⟩ := at_some (xs := [.int 50, .int 50, .int 50, .int 300]) p4 q4
  obtain ⟨most, rfl, hm1⟩ : ∃ most : Nat, v = V.int most ∧ most ≤ 300 := by
    simp only [List.mem_cons, List.not_mem_nil, or_false] at hm
    rcases hm with e | e | e | e
    · exact ⟨50, e, by omega⟩
    · exact ⟨50, e, by omega⟩
    · exact ⟨50, e, by omega⟩
    · exact ⟨300, e, by omega⟩
  refine ⟨l3, _, _, _, rfl, rfl, SqL.of d4.at_, hv, ?_⟩
  have d4 := d4.tail
  refine ⟨rfl, a, nk, most, _, rfl, hk, hk8, by omega, d4, fun cs v0 H3 hc0 hck m3 d3 r0 => ?_⟩
  refine ⟨_, rfl, _, rfl, _, rfl, rfl, nk, keep, cs, v0, rfl, hk, hk8, hkp, hck, r0, fun B cb H4 R4 t4 => ?_⟩
  have d4 := Dice.tr (C := []) d3 t4
  rw [List.append_nil] at d4
  refine ⟨_, rfl, _, rfl, rfl, nk, cs, v0, rfl, hk8, by omega, hck, r0.mono t4.mono, fun u H5 g5 r5 => ?_⟩
  have d5 := d4.grow g5
  obtain ⟨as, us, rfl, has, rus⟩ := r5.tup_inv
  obtain ⟨vr, us, rfl, rvr, rus⟩ := rus.cons_inv
  obtain ⟨vl, us, rfl, rvl, rus⟩ := rus.cons_inv
  have := rus.nil_inv
  subst this
  refine ⟨as, _, rfl, SqT.of has, rfl, _, _, rfl, _, _, rfl, rfl, ?_⟩
  have R5 := R4.mono g5.mono
  obtain ⟨pc, xc, rfl, fpc, rxc⟩ := id (r0.mono (t4.mono.trans g5.mono)).lst_inv
  have hxc : xc.length = cs.length := by rw [rxc.length, List.length_map]
  -- for turn in range(4)
  refine ⟨_, rfl, by decide, by decide, for_range (lo := 0) (n := (4 : Int).toNat) (fun i σ H => ∃ v8 v9 v10 v11 v12 v13 v14 v15, σ = [some (.ref c), some (.ref a), some (.int nk), some (.int keep), some (.ref pc), some (.ref B.p), some vr, some vl, v8, v9, v10, v11, v12, v13, v14, v15, none] ∧
      Mono H5 H ∧ Dice K H a cb) ⟨none, none, none, none, none, none, none, none, rfl, Mono.refl _, d5⟩ ?_ ?_⟩
  · rintro ti σ H hi ⟨v8, v9, v10, v11, v12, v13, v14, v15, rfl, m8, d8⟩
    refine ⟨_, rfl, _, rfl, _, rfl, pc, xc, rfl, .inl (fpc.mono m8).sq, rfl, a, nk, cs, _, (by rw [hxc]; rfl), hk8, by omega, d8, fun p9 ns H9 kk m9 d9 f9 => ?_⟩
    have m9' := m8.trans m9
    have hlen := kk.len
    -- need
    refine ⟨_, rfl, _, rfl, by omega, by omega, fun D hD => ?_⟩
    refine lc_range (lo := 0) (n := (nk : Int).toNat) (fun i H => Tr H9 [] H [(D, .lst ((List.range i).map fun k => costV (costL keep cs ns k)))]) ((Tr.refl H9 []).new hD nl) ?_ ?_
    · rintro j H10 hj t10
      have ez : ((0 : Int) + j) = (j : Int) := by omega
      have app : ∀ (v : V) (H11 : Hp), Grow H10 H11 → v = costV (costL keep cs ns j) → ∃ acc, H11 D = some (.lst acc) ∧ acc.length < sizeLine ∧ Tr H9 [] (upd H11 D (.lst (acc ++ [v]))) [(D, .lst ((List.range (j + 1)).map fun k => costV (costL keep cs ns k)))] := fun v H11 g11 ev => by
        have t11 := t10.grow g11
        refine ⟨_, t11.own.head, by rw [List.length_map, List.length_range]; exact small1000 (by omega), ?_⟩
        rw [List.range_succ, List.map_append, ev]
        exact t11.put .nil nl
      refine ⟨rfl, _, rfl, _, rfl, _, rfl, _, rfl, _, rfl, rfl, nk, keep, j, cs, vr, vl, p9, ns, (by rw [ez]; rfl), (rvr.mono m9').mono t10.mono, (rvl.mono m9').mono t10.mono, f9.mono t10.mono, hlen, by omega, hk8, hkp, by omega, fun hn H11 g11 => ?_, fun n hn H11 g11 => ?_⟩
      · exact app _ _ g11 (by rw [hn]; rfl)
      · exact app _ _ g11 (by rw [hn]; rfl)
    rintro H10 t10
    rw [Int.toNat_natCast] at t10
    have d10 := d9.tr0 (by simpa using t10.right (D := cb))
    have m10 := m9'.trans t10.mono
    have f10 := f9.mono t10.mono
    have RB10 := R5.mono m10
    -- due = lightest(need, 0, {})
    refine ⟨_, rfl, fun q11 hq11 => ?_⟩
    have d11 := (d10.new (o := .dK []) hq11 ndk).perm (List.Perm.swap _ _ _)
    have m11 := m10.trans (Mono.new (o := .dK []) hq11)
    have hh11 : Has _ (LtC (costL keep cs ns) nk D q11 [] ++ cb) := d11.has
    refine ⟨rfl, D, q11, costL keep cs ns, nk, 0, [], rfl, hk8, Nat.zero_le _, by omega, hh11.left, List.nodup_nil, fun _ h => (nomatch h), fun S12 H12 t12 _ _ => ?_⟩
    have d12 := d11.tr0 (t12.right (D := cb))
    have m12 := m11.trans t12.mono
    rw [Lm_lwt]
    have f12 := f10.mono ((Mono.new (o := .dK []) hq11).trans t12.mono)
    have d12 : Dice K H12 a ((D, .lst ((List.range nk).map fun k => costV (costL keep cs ns k))) :: (q11, .dK (Lkv (costL keep cs ns) nk S12)) :: cb) := d12
    -- handed = list(known)
    refine rd_fz ⟨_, rfl, p9, _, rfl, .inl f12.sq, fun q13 hq13 => ⟨q13, _, rfl, upd_same, fun o13 => ?_⟩⟩
    have g13 := ((Tr.refl H12 []).new (o := .lst (ns.map V.int)) hq13 nl).fz (ob := o13) .nil
    have fq13 : FzL K _ q13 (ns.map V.int) := FzL.frz (o := o13) (H := upd H12 q13 (.lst (ns.map V.int)))
    have d13 := d12.grow g13
    have m13 := m12.trans g13.mono
    have f13 := f12.mono g13.mono
    generalize upd (upd H12 q13 (.lst (ns.map V.int))) q13 (.frz o13 (.lst (ns.map V.int))) = H13 at *
    -- for again in range(2)
    refine ⟨_, rfl, by decide, by decide, for_range (lo := 0) (n := (2 : Int).toNat) (fun i σ H => ∃ v13 v14 v15, σ = [some (.ref c), some (.ref a), some (.int nk), some (.int keep), some (.ref pc), some (.ref B.p), some vr, some vl, some (.int (0 + ti)), some (.ref p9), some (.ref D), some (.int (lwt (costL keep cs ns) nk)), some (.ref q13), v13, v14, v15, none] ∧
        Mono H13 H ∧ Dice K H a ((D, .lst ((List.range nk).map fun k => costV (costL keep cs ns k))) :: (q11, .dK (Lkv (costL keep cs ns) nk S12)) :: cb)) ⟨v13, v14, v15, rfl, Mono.refl _, d13⟩ ?_ ?_⟩
    · rintro j σ H14 hj ⟨v13, v14, v15, rfl, m14, d14⟩
      have m14' := m13.trans m14
      have f14 := f13.mono m14
      have fq14 := fq13.mono m14
      have hpl : (pricesM (costL keep cs ns) nk).length = nk := by rw [pricesM, List.length_map, List.length_range]
      -- found = answer(board, handed)
      refine rd_ans (by rfl) (by rfl) (R5.mono m14') d14.has.tail.tail (StL.fz fq14) kk hk8 hkp fun r15 xs15 ls15 H15 t15 rx15 br15 hw15 hl15 => ?_
      have d15 := d14.tr0 (by simpa using t15.right (D := (D, HO.lst ((List.range nk).map fun k => costV (costL keep cs ns k))) :: (q11, HO.dK (Lkv (costL keep cs ns) nk S12)) :: cb))
      have m15 := m14'.trans t15.mono
      have f15 := f14.mono t15.mono
      have fq15 := fq14.mono t15.mono
      refine ⟨_, rfl, _, rfl, ilst ns, ilst ns, Dp.il fq15.sq, Dp.il f15.sq, (Gd.ilst (n := 0) ns).shaped, (Gd.ilst (n := 0) ns).shaped, _, rfl, ?_⟩
      rw [(Gd.ilst (n := 0) ns).refl]
      refine iteM (by decide) ?_
      -- brings
      refine ⟨_, rfl, _, rfl, _, rfl, _, rfl, _, rfl, _, rfl, rfl, nk, keep, cs, ns, ls15, vr, vl, p9, r15, D, xs15, rfl, rvr.mono m15, rvl.mono m15, f15, hlen, StL.has d15.has List.mem_cons_self, rx15, StL.has d15.has (List.mem_cons_of_mem _ List.mem_cons_self), br15, hk8, hkp, by omega, by omega, fun H16 g16 => ⟨_, rfl, iteM (by decide) ?_⟩⟩
      have d16 := d15.grow g16
      have m16 := m15.trans g16.mono
      -- told = prices(board, handed)
      refine rd_prices (by rfl) (by rfl) (R5.mono m16) d16.has.tail.tail.tail (StL.fz (fq15.mono g16.mono)) kk hk8 hkp fun r17 H17 t17 => ?_
      have d17 := d16.tr0 (by simpa using t17.right (D := (r15, HO.lst xs15) :: (D, HO.lst ((List.range nk).map fun k => costV (costL keep cs ns k))) :: (q11, HO.dK (Lkv (costL keep cs ns) nk S12)) :: cb))
      have m17 := m16.trans t17.mono
      have rx17 := (rx15.mono g16.mono).mono t17.mono
      have f17 := (f15.mono g16.mono).mono t17.mono
      -- like
      refine ⟨_, rfl, rfl, r15, xs15, ls15, rfl, SqL.of d17.has.tail.head, rx17, ?_⟩
      rw [hw15]
      refine ⟨_, rfl, r17, _, rfl, SqL.of d17.at_, ?_⟩
      rw [prices_sum]
      refine ⟨_, rfl, r17, _, rfl, .inl (SqL.of d17.at_), (by show 3 ≤ sizeLine; decide), fun l18 hl18 => ?_⟩
      rw [List.length_map, hpl]
      have d18 := d17.new (o := .lst [.int (lwt (costL keep cs ns) nk), .int (lwt (costL keep cs ns) nk), .int nk]) hl18 nl
      refine ⟨_, rfl, _, rfl, _, rfl, (by show 3 ≤ sizeLine; decide), fun l19 hl19 => ?_⟩
      have d19 := d18.new (o := .lst [.int (lwt (costL keep cs ns) nk), .int (lwt (costL keep cs ns) nk), .int nk]) hl19 nl
      have gd : Gd 1 (ilst [lwt (costL keep cs ns) nk, lwt (costL keep cs ns) nk, (nk : Int)]) := Gd.ilst _
      refine ⟨rfl, ilst [lwt (costL keep cs ns) nk, lwt (costL keep cs ns) nk, (nk : Int)], .ref l18, .ref l19, rfl, Dp.ints' d19.has.tail.head, Dp.ints' d19.at_, gd.1, Nat.lt_of_le_of_lt gd.2 (by decide), wid_ilst (by show 3 ≤ 1000; decide), _, rfl, iteM (by decide) ?_⟩
      have d19 := d19.tail.tail
      have m19 := (Mono.new (o := .lst [.int (lwt (costL keep cs ns) nk), .int (lwt (costL keep cs ns) nk), .int nk]) hl18).trans (Mono.new (o := .lst [.int (lwt (costL keep cs ns) nk), .int (lwt (costL keep cs ns) nk), .int nk]) hl19)
      have m19' := m17.trans m19
      have f19 := f17.mono m19
      generalize upd (upd H17 l18 (.lst [.int (lwt (costL keep cs ns) nk), .int (lwt (costL keep cs ns) nk), .int nk])) l19 (.lst [.int (lwt (costL keep cs ns) nk), .int (lwt (costL keep cs ns) nk), .int nk]) = H19 at *
      -- is_price, shows
      refine ⟨_, rfl, _, rfl, rfl, nk, costL keep cs ns, D, r17, pricesM (costL keep cs ns) nk, rfl, StL.has d19.has (List.mem_cons_of_mem _ (List.mem_cons_of_mem _ List.mem_cons_self)), StL.has d19.has List.mem_cons_self, hpl, hk8, fun b20 H20 g20 hb20 => ?_⟩
      have hb20 : b20 = true := hb20.mpr (prices_show _ _)
      subst hb20
      refine ⟨_, rfl, iteM (by decide) ?_⟩
      have d20 := d19.grow g20
      refine ⟨_, rfl, _, rfl, _, rfl, r17, _, rfl, .inl (SqL.of d20.at_), fun l21 hl21 => ?_⟩
      have d21 := d20.new (o := .lst ((pricesM (costL keep cs ns) nk).map V.int)) hl21 nl
      have m21 := g20.mono.trans (Mono.new (o := .lst ((pricesM (costL keep cs ns) nk).map V.int)) hl21)
      refine ⟨rfl, B, nk, keep, cs, cb, p9, l21, ns, pricesM (costL keep cs ns) nk, rfl, R5.mono (m19'.trans m21), d21.has.tail.tail.tail.tail.tail, StL.fz (f19.mono m21), StL.has d21.has List.mem_cons_self, hpl, kk, hk8, hkp, fun b22 H22 g22 hb22 => ?_⟩
      have hb22 : b22 = true := hb22.mpr (prices_show _ _)
      subst hb22
      refine ⟨true, true, rfl, rfl, _, rfl, iteM (by decide) ?_⟩
      have d22 := (d21.grow g22).tail
      -- found.append(0), told.clear()
      have d23 := d22.perm (List.Perm.swap _ _ _)
      have hx15 : xs15.length ≤ 400 := by
        rw [rx15.length, List.length_map]
        omega
      refine ⟨_, rfl, .inl ⟨rfl, _, SqL.of d23.at_⟩, _, _, _, rfl, rfl, d23.at_, small1000 (by omega), ?_⟩
      have m24 := d23.mput (o' := .lst (xs15 ++ [.int 0]))
      have d24 := (d23.put (o' := .lst (xs15 ++ [.int 0])) nl).perm (List.Perm.swap _ _ _)
      refine ⟨_, rfl, .inl ⟨rfl, _, SqL.of d24.at_⟩, _, _, rfl, rfl, d24.at_, ?_⟩
      have m25 := d24.mput (o' := .lst [])
      have d25 := d24.put (o' := .lst []) nl
      exact ⟨_, _, _, rfl, ((((m14.trans t15.mono).trans g16.mono).trans t17.mono).trans m19).trans (((m21.trans g22.mono).trans m24).trans m25), d25.tail.tail⟩
    · rintro σ H14 ⟨v13, v14, v15, rfl, m14, d14⟩
      exact ⟨_, _, _, _, _, _, _, _, rfl, m13.trans m14, d14.tail.tail⟩
  · rintro σ H ⟨v8, v9, v10, v11, v12, v13, v14, v15, rfl, m8, d8⟩
    exact go _
end
end Cu

namespace Cu
open PySem PySem.Spec PyProof.Rows L2
theorem facts {l : PySem.W.OpenLaw} {w : World} {K : PySem.W.Frag} {h : Heap} {mg : Str → Option Value} {fa C_Board f1 f2 f3 f4 f5 f6 f7 f8 f9 f10 f11 f12 f13 f14 f15 f16 f17 f18 f19 f20 f21 f22 f23 f24 f25 f26 f27 f28 f29 : Addr} (X : K.In h) (G : h.Ns mainGlobals mg) (hfa : mg "law" = some (.ref fa))
    {od1 an1 od2 an2 od3 an3 od4 an4 od5 an5 od6 an6 od7 an7 od8 an8 od9 an9 od10 an10 od11 an11 od12 an12 od13 an13 od14 an14 od15 an15 od16 an16 od17 an17 od18 an18 od19 an19 od20 an20 od21 an21 od22 an22 od23 an23 od24 an24 od25 an25 od26 an26 od27 an27 od28 an28 od29 an29 : Option Addr} {sl1 sl2 sl3 sl4 sl5 sl6 sl7 sl8 sl9 sl10 sl11 sl12 sl13 sl14 sl15 sl16 sl17 sl18 sl19 sl20 sl21 sl22 sl23 sl24 sl25 sl26 sl27 sl28 sl29 : Array (Option Value)} {oc1 kV1 dc1 pm1 cd1 ct1 oc2 kV2 dc2 pm2 cd2 ct2 oc3 kV3 dc3 pm3 cd3 ct3 oc4 kV4 dc4 pm4 cd4 ct4 oc5 kV5 dc5 pm5 cd5 ct5 oc6 kV6 dc6 pm6 cd6 ct6 oc7 kV7 dc7 pm7 cd7 ct7 oc8 kV8 dc8 pm8 cd8 ct8 oc9 kV9 dc9 pm9 cd9 ct9 oc10 kV10 dc10 pm10 cd10 ct10 oc11 kV11 dc11 pm11 cd11 ct11 oc12 kV12 dc12 pm12 cd12 ct12 oc13 kV13 dc13 pm13 cd13 ct13 oc14 kV14 dc14 pm14 cd14 ct14 oc15 kV15 dc15 pm15 cd15 ct15 oc16 kV16 dc16 pm16 cd16 ct16 oc17 kV17 dc17 pm17 cd17 ct17 oc18 kV18 dc18 pm18 cd18 ct18 oc19 kV19 dc19 pm19 cd19 ct19 oc20 kV20 dc20 pm20 cd20 ct20 oc21 kV21 dc21 pm21 cd21 ct21 oc22 kV22 dc22 pm22 cd22 ct22 oc23 kV23 dc23 pm23 cd23 ct23 oc24 kV24 dc24 pm24 cd24 ct24 oc25 kV25 dc25 pm25 cd25 ct25 oc26 kV26 dc26 pm26 cd26 ct26 oc27 kV27 dc27 pm27 cd27 ct27 oc28 kV28 dc28 pm28 cd28 ct28 oc29 kV29 dc29 pm29 cd29 ct29 : Value} {tk_MOST_KEYS tk_MOST_TAIL tk_PART : Tok}
    (b_len : PySem.W.nsIn K mainGlobals "len" = some none)
    (b_range : PySem.W.nsIn K mainGlobals "range" = some none)
    (b_int : PySem.W.nsIn K mainGlobals "int" = some none)
    (b_list : PySem.W.nsIn K mainGlobals "list" = some none)
    (b_tuple : PySem.W.nsIn K mainGlobals "tuple" = some none)
    (b_sorted : PySem.W.nsIn K mainGlobals "sorted" = some none)
    (b_min : PySem.W.nsIn K mainGlobals "min" = some none)
    (b_max : PySem.W.nsIn K mainGlobals "max" = some none)
    (b_sum : PySem.W.nsIn K mainGlobals "sum" = some none)
    (b_set : PySem.W.nsIn K mainGlobals "set" = some none)
    (b_str : PySem.W.nsIn K mainGlobals "str" = some none)
    (b_isinstance : PySem.W.nsIn K mainGlobals "isinstance" = some none)
    (b_enumerate : PySem.W.nsIn K mainGlobals "enumerate" = some none)
    (b_zip : PySem.W.nsIn K mainGlobals "zip" = some none)
    (b_bool : PySem.W.nsIn K mainGlobals "bool" = some none)
    (b_dict : PySem.W.nsIn K mainGlobals "dict" = some none)
    (c_MOST_KEYS : PySem.W.nsIn K mainGlobals "MOST_KEYS" = some (some (.int 8 tk_MOST_KEYS)))
    (c_MOST_TAIL : PySem.W.nsIn K mainGlobals "MOST_TAIL" = some (some (.int 20 tk_MOST_TAIL)))
    (c_PART : PySem.W.nsIn K mainGlobals "PART" = some (some (.int 2 tk_PART)))
    (ac_Board : PySem.W.nsIn K mainGlobals "Board" = some (some (.ref C_Board)))
    (pg_Board : PySem.W.plainGet K C_Board Str.empty = true)
    (hd_Board : PySem.W.hasDictIn K C_Board = true)
    (po_Board : PySem.W.plainOver K C_Board = true)
    (sa_Board : PySem.W.findIn K (.ref C_Board) "__setattr__" = some (some (.builtin "object.__setattr__")))
    (no0_Board : PySem.W.findIn K (.ref C_Board) "now" = some none)
    (no1_Board : PySem.W.findIn K (.ref C_Board) "keep" = some none)
    (no2_Board : PySem.W.findIn K (.ref C_Board) "rows" = some none)
    (no3_Board : PySem.W.findIn K (.ref C_Board) "many" = some none)
    (no4_Board : PySem.W.findIn K (.ref C_Board) "last" = some none)
    (a1 : PySem.W.nsIn K mainGlobals "_law_dice" = some (some (.ref f1)))
    (l1 : K.lookup f1 = some ⟨oc1, od1, .func (PySem.W.fnOf "_law_dice" "_law_dice" (defArgs s_dice) (defBody s_dice) (defScope s_dice) .none kV1 dc1 pm1 an1 cd1 ct1), sl1⟩)
    (d1 : PySem.W.codeIn K cd1 "_law_dice" = true)
    (k1 : PySem.W.keepIn K (.ref f1) = true)
    (a2 : PySem.W.nsIn K mainGlobals "_law_next" = some (some (.ref f2)))
    (l2 : K.lookup f2 = some ⟨oc2, od2, .func (PySem.W.fnOf "_law_next" "_law_next" (defArgs s_next) (defBody s_next) (defScope s_next) .none kV2 dc2 pm2 an2 cd2 ct2), sl2⟩)
    (d2 : PySem.W.codeIn K cd2 "_law_next" = true)
    (k2 : PySem.W.keepIn K (.ref f2) = true)
    (a3 : PySem.W.nsIn K mainGlobals "_law_counts" = some (some (.ref f3)))
    (l3 : K.lookup f3 = some ⟨oc3, od3, .func (PySem.W.fnOf "_law_counts" "_law_counts" (defArgs s_counts) (defBody s_counts) (defScope s_counts) .none kV3 dc3 pm3 an3 cd3 ct3), sl3⟩)
    (d3 : PySem.W.codeIn K cd3 "_law_counts" = true)
    (k3 : PySem.W.keepIn K (.ref f3) = true)
    (a4 : PySem.W.nsIn K mainGlobals "_law_worth" = some (some (.ref f4)))
    (l4 : K.lookup f4 = some ⟨oc4, od4, .func (PySem.W.fnOf "_law_worth" "_law_worth" (defArgs s_worth) (defBody s_worth) (defScope s_worth) .none kV4 dc4 pm4 an4 cd4 ct4), sl4⟩)
    (d4 : PySem.W.codeIn K cd4 "_law_worth" = true)
    (k4 : PySem.W.keepIn K (.ref f4) = true)
    (a5 : PySem.W.nsIn K mainGlobals "_law_changes" = some (some (.ref f5)))
    (l5 : K.lookup f5 = some ⟨oc5, od5, .func (PySem.W.fnOf "_law_changes" "_law_changes" (defArgs s_changes) (defBody s_changes) (defScope s_changes) .none kV5 dc5 pm5 an5 cd5 ct5), sl5⟩)
    (d5 : PySem.W.codeIn K cd5 "_law_changes" = true)
    (k5 : PySem.W.keepIn K (.ref f5) = true)
    (a6 : PySem.W.findIn K (.ref C_Board) "__init__" = some (some (.ref f6)))
    (i6 : PySem.W.isFn K (.ref f6) = true)
    (l6 : K.lookup f6 = some ⟨oc6, od6, .func (PySem.W.fnOf "__init__" "Board.__init__" (defArgs s_Board_init) (defBody s_Board_init) (defScope s_Board_init) .none kV6 dc6 pm6 an6 cd6 ct6), sl6⟩)
    (d6 : PySem.W.codeIn K cd6 "Board.__init__" = true)
    (k6 : PySem.W.keepIn K (.ref f6) = true)
    (mk_Board : PySem.W.makesIn K C_Board = true)
    (kc_Board : PySem.W.keepIn K (.ref C_Board) = true)
    (a7 : PySem.W.findIn K (.ref C_Board) "change" = some (some (.ref f7)))
    (i7 : PySem.W.isFn K (.ref f7) = true)
    (l7 : K.lookup f7 = some ⟨oc7, od7, .func (PySem.W.fnOf "change" "Board.change" (defArgs s_Board_change) (defBody s_Board_change) (defScope s_Board_change) .none kV7 dc7 pm7 an7 cd7 ct7), sl7⟩)
    (d7 : PySem.W.codeIn K cd7 "Board.change" = true)
    (k7 : PySem.W.keepIn K (.ref f7) = true)
    (a8 : PySem.W.nsIn K mainGlobals "_law_made" = some (some (.ref f8)))
    (l8 : K.lookup f8 = some ⟨oc8, od8, .func (PySem.W.fnOf "_law_made" "_law_made" (defArgs s_made) (defBody s_made) (defScope s_made) .none kV8 dc8 pm8 an8 cd8 ct8), sl8⟩)
    (d8 : PySem.W.codeIn K cd8 "_law_made" = true)
    (k8 : PySem.W.keepIn K (.ref f8) = true)
    (a9 : PySem.W.findIn K (.ref C_Board) "size" = some (some (.ref f9)))
    (i9 : PySem.W.isFn K (.ref f9) = true)
    (l9 : K.lookup f9 = some ⟨oc9, od9, .func (PySem.W.fnOf "size" "Board.size" (defArgs s_Board_size) (defBody s_Board_size) (defScope s_Board_size) .none kV9 dc9 pm9 an9 cd9 ct9), sl9⟩)
    (d9 : PySem.W.codeIn K cd9 "Board.size" = true)
    (k9 : PySem.W.keepIn K (.ref f9) = true)
    (a10 : PySem.W.findIn K (.ref C_Board) "number" = some (some (.ref f10)))
    (i10 : PySem.W.isFn K (.ref f10) = true)
    (l10 : K.lookup f10 = some ⟨oc10, od10, .func (PySem.W.fnOf "number" "Board.number" (defArgs s_Board_number) (defBody s_Board_number) (defScope s_Board_number) .none kV10 dc10 pm10 an10 cd10 ct10), sl10⟩)
    (d10 : PySem.W.codeIn K cd10 "Board.number" = true)
    (k10 : PySem.W.keepIn K (.ref f10) = true)
    (a11 : PySem.W.nsIn K mainGlobals "need_known" = some (some (.ref f11)))
    (l11 : K.lookup f11 = some ⟨oc11, od11, .func (PySem.W.fnOf "need_known" "need_known" (defArgs s_need_known) (defBody s_need_known) (defScope s_need_known) .none kV11 dc11 pm11 an11 cd11 ct11), sl11⟩)
    (d11 : PySem.W.codeIn K cd11 "need_known" = true)
    (k11 : PySem.W.keepIn K (.ref f11) = true)
    (a12 : PySem.W.findIn K (.ref C_Board) "lasts" = some (some (.ref f12)))
    (i12 : PySem.W.isFn K (.ref f12) = true)
    (l12 : K.lookup f12 = some ⟨oc12, od12, .func (PySem.W.fnOf "lasts" "Board.lasts" (defArgs s_Board_lasts) (defBody s_Board_lasts) (defScope s_Board_lasts) .none kV12 dc12 pm12 an12 cd12 ct12), sl12⟩)
    (d12 : PySem.W.codeIn K cd12 "Board.lasts" = true)
    (k12 : PySem.W.keepIn K (.ref f12) = true)
    (a13 : PySem.W.findIn K (.ref C_Board) "tail" = some (some (.ref f13)))
    (i13 : PySem.W.isFn K (.ref f13) = true)
    (l13 : K.lookup f13 = some ⟨oc13, od13, .func (PySem.W.fnOf "tail" "Board.tail" (defArgs s_Board_tail) (defBody s_Board_tail) (defScope s_Board_tail) .none kV13 dc13 pm13 an13 cd13 ct13), sl13⟩)
    (d13 : PySem.W.codeIn K cd13 "Board.tail" = true)
    (k13 : PySem.W.keepIn K (.ref f13) = true)
    (a14 : PySem.W.nsIn K mainGlobals "wanted" = some (some (.ref f14)))
    (l14 : K.lookup f14 = some ⟨oc14, od14, .func (PySem.W.fnOf "wanted" "wanted" (defArgs s_wanted) (defBody s_wanted) (defScope s_wanted) .none kV14 dc14 pm14 an14 cd14 ct14), sl14⟩)
    (d14 : PySem.W.codeIn K cd14 "wanted" = true)
    (k14 : PySem.W.keepIn K (.ref f14) = true)
    (a15 : PySem.W.nsIn K mainGlobals "levels" = some (some (.ref f15)))
    (l15 : K.lookup f15 = some ⟨oc15, od15, .func (PySem.W.fnOf "levels" "levels" (defArgs s_levels) (defBody s_levels) (defScope s_levels) .none kV15 dc15 pm15 an15 cd15 ct15), sl15⟩)
    (d15 : PySem.W.codeIn K cd15 "levels" = true)
    (k15 : PySem.W.keepIn K (.ref f15) = true)
    (a16 : PySem.W.findIn K (.ref C_Board) "part" = some (some (.ref f16)))
    (i16 : PySem.W.isFn K (.ref f16) = true)
    (l16 : K.lookup f16 = some ⟨oc16, od16, .func (PySem.W.fnOf "part" "Board.part" (defArgs s_Board_part) (defBody s_Board_part) (defScope s_Board_part) .none kV16 dc16 pm16 an16 cd16 ct16), sl16⟩)
    (d16 : PySem.W.codeIn K cd16 "Board.part" = true)
    (k16 : PySem.W.keepIn K (.ref f16) = true)
    (a17 : PySem.W.nsIn K mainGlobals "answer" = some (some (.ref f17)))
    (l17 : K.lookup f17 = some ⟨oc17, od17, .func (PySem.W.fnOf "answer" "answer" (defArgs s_answer) (defBody s_answer) (defScope s_answer) .none kV17 dc17 pm17 an17 cd17 ct17), sl17⟩)
    (d17 : PySem.W.codeIn K cd17 "answer" = true)
    (k17 : PySem.W.keepIn K (.ref f17) = true)
    (a18 : PySem.W.nsIn K mainGlobals "prices" = some (some (.ref f18)))
    (l18 : K.lookup f18 = some ⟨oc18, od18, .func (PySem.W.fnOf "prices" "prices" (defArgs s_prices) (defBody s_prices) (defScope s_prices) .none kV18 dc18 pm18 an18 cd18 ct18), sl18⟩)
    (d18 : PySem.W.codeIn K cd18 "prices" = true)
    (k18 : PySem.W.keepIn K (.ref f18) = true)
    (a19 : PySem.W.nsIn K mainGlobals "weight" = some (some (.ref f19)))
    (l19 : K.lookup f19 = some ⟨oc19, od19, .func (PySem.W.fnOf "weight" "weight" (defArgs s_weight) (defBody s_weight) (defScope s_weight) .none kV19 dc19 pm19 an19 cd19 ct19), sl19⟩)
    (d19 : PySem.W.codeIn K cd19 "weight" = true)
    (k19 : PySem.W.keepIn K (.ref f19) = true)
    (a20 : PySem.W.nsIn K mainGlobals "_law_known" = some (some (.ref f20)))
    (l20 : K.lookup f20 = some ⟨oc20, od20, .func (PySem.W.fnOf "_law_known" "_law_known" (defArgs s_known) (defBody s_known) (defScope s_known) .none kV20 dc20 pm20 an20 cd20 ct20), sl20⟩)
    (d20 : PySem.W.codeIn K cd20 "_law_known" = true)
    (k20 : PySem.W.keepIn K (.ref f20) = true)
    (a21 : PySem.W.nsIn K mainGlobals "shows" = some (some (.ref f21)))
    (l21 : K.lookup f21 = some ⟨oc21, od21, .func (PySem.W.fnOf "shows" "shows" (defArgs s_shows) (defBody s_shows) (defScope s_shows) .none kV21 dc21 pm21 an21 cd21 ct21), sl21⟩)
    (d21 : PySem.W.codeIn K cd21 "shows" = true)
    (k21 : PySem.W.keepIn K (.ref f21) = true)
    (a22 : PySem.W.nsIn K mainGlobals "_law_story" = some (some (.ref f22)))
    (l22 : K.lookup f22 = some ⟨oc22, od22, .func (PySem.W.fnOf "_law_story" "_law_story" (defArgs s_story) (defBody s_story) (defScope s_story) .none kV22 dc22 pm22 an22 cd22 ct22), sl22⟩)
    (d22 : PySem.W.codeIn K cd22 "_law_story" = true)
    (k22 : PySem.W.keepIn K (.ref f22) = true)
    (a23 : PySem.W.nsIn K mainGlobals "_law_wanted" = some (some (.ref f23)))
    (l23 : K.lookup f23 = some ⟨oc23, od23, .func (PySem.W.fnOf "_law_wanted" "_law_wanted" (defArgs s_lwanted) (defBody s_lwanted) (defScope s_lwanted) .none kV23 dc23 pm23 an23 cd23 ct23), sl23⟩)
    (d23 : PySem.W.codeIn K cd23 "_law_wanted" = true)
    (k23 : PySem.W.keepIn K (.ref f23) = true)
    (a24 : PySem.W.nsIn K mainGlobals "_law_is_price" = some (some (.ref f24)))
    (l24 : K.lookup f24 = some ⟨oc24, od24, .func (PySem.W.fnOf "_law_is_price" "_law_is_price" (defArgs s_is_price) (defBody s_is_price) (defScope s_is_price) .none kV24 dc24 pm24 an24 cd24 ct24), sl24⟩)
    (d24 : PySem.W.codeIn K cd24 "_law_is_price" = true)
    (k24 : PySem.W.keepIn K (.ref f24) = true)
    (a25 : PySem.W.nsIn K mainGlobals "_law_like" = some (some (.ref f25)))
    (l25 : K.lookup f25 = some ⟨oc25, od25, .func (PySem.W.fnOf "_law_like" "_law_like" (defArgs s_like) (defBody s_like) (defScope s_like) .none kV25 dc25 pm25 an25 cd25 ct25), sl25⟩)
    (d25 : PySem.W.codeIn K cd25 "_law_like" = true)
    (k25 : PySem.W.keepIn K (.ref f25) = true)
    (a26 : PySem.W.nsIn K mainGlobals "_law_lightest" = some (some (.ref f26)))
    (l26 : K.lookup f26 = some ⟨oc26, od26, .func (PySem.W.fnOf "_law_lightest" "_law_lightest" (defArgs s_lightest) (defBody s_lightest) (defScope s_lightest) .none kV26 dc26 pm26 an26 cd26 ct26), sl26⟩)
    (d26 : PySem.W.codeIn K cd26 "_law_lightest" = true)
    (k26 : PySem.W.keepIn K (.ref f26) = true)
    (a27 : PySem.W.nsIn K mainGlobals "_law_part" = some (some (.ref f27)))
    (l27 : K.lookup f27 = some ⟨oc27, od27, .func (PySem.W.fnOf "_law_part" "_law_part" (defArgs s_part) (defBody s_part) (defScope s_part) .none kV27 dc27 pm27 an27 cd27 ct27), sl27⟩)
    (d27 : PySem.W.codeIn K cd27 "_law_part" = true)
    (k27 : PySem.W.keepIn K (.ref f27) = true)
    (a28 : PySem.W.nsIn K mainGlobals "_law_brings" = some (some (.ref f28)))
    (l28 : K.lookup f28 = some ⟨oc28, od28, .func (PySem.W.fnOf "_law_brings" "_law_brings" (defArgs s_brings) (defBody s_brings) (defScope s_brings) .none kV28 dc28 pm28 an28 cd28 ct28), sl28⟩)
    (d28 : PySem.W.codeIn K cd28 "_law_brings" = true)
    (k28 : PySem.W.keepIn K (.ref f28) = true)
    (a29 : PySem.W.nsIn K mainGlobals "law" = some (some (.ref f29)))
    (l29 : K.lookup f29 = some ⟨oc29, od29, .func (PySem.W.fnOf "law" "law" (defArgs s_law) (defBody s_law) (defScope s_law) .none kV29 dc29 pm29 an29 cd29 ct29), sl29⟩)
    (d29 : PySem.W.codeIn K cd29 "law" = true)
    (k29 : PySem.W.keepIn K (.ref f29) = true)
    : ∃ fd : FuncData, (∀ (s : Shared) (v : Value), BindsTo s fd ⟨[v], []⟩ [("_law_script", v)]) ∧ ∀ base : Heap, K.In base → base.Ns mainGlobals mg → FnOk l.prog w K mg base CX0 10 fa fd ["_law_script"] (spLaw K) := by
  have e := hfa.symm.trans (PySem.W.mg_of X G a29)
  cases e
  have Bm : Blt mg := ⟨PySem.W.mg_none_of X G b_len, PySem.W.mg_none_of X G b_range, PySem.W.mg_none_of X G b_int, PySem.W.mg_none_of X G b_list, PySem.W.mg_none_of X G b_tuple, PySem.W.mg_none_of X G b_sorted, PySem.W.mg_none_of X G b_min, PySem.W.mg_none_of X G b_max, PySem.W.mg_none_of X G b_sum, PySem.W.mg_none_of X G b_set, PySem.W.mg_none_of X G b_str, PySem.W.mg_none_of X G b_isinstance, PySem.W.mg_none_of X G b_enumerate, PySem.W.mg_none_of X G b_zip, PySem.W.mg_none_of X G b_bool, PySem.W.mg_none_of X G b_dict⟩
  have km_MOST_KEYS := PySem.W.mg_of X G c_MOST_KEYS
  have km_MOST_TAIL := PySem.W.mg_of X G c_MOST_TAIL
  have km_PART := PySem.W.mg_of X G c_PART
  have CBoard : CBo K C_Board := ⟨⟨pg_Board, hd_Board, po_Board, sa_Board⟩, no0_Board, no1_Board, no2_Board, no3_Board, no4_Board⟩
  have F1 : Fd K mg "_law_dice" s_dice := ⟨_, _, fun_mk (st := s_dice) l1 d1 k1, PySem.W.mg_of X G a1⟩
  have F2 : Fd K mg "_law_next" s_next := ⟨_, _, fun_mk (st := s_next) l2 d2 k2, PySem.W.mg_of X G a2⟩
  have F3 : Fd K mg "_law_counts" s_counts := ⟨_, _, fun_mk (st := s_counts) l3 d3 k3, PySem.W.mg_of X G a3⟩
  have F4 : Fd K mg "_law_worth" s_worth := ⟨_, _, fun_mk (st := s_worth) l4 d4 k4, PySem.W.mg_of X G a4⟩
  have F5 : Fd K mg "_law_changes" s_changes := ⟨_, _, fun_mk (st := s_changes) l5 d5 k5, PySem.W.mg_of X G a5⟩
  have F6 : Kd K mg "Board" C_Board "Board.__init__" s_Board_init := ⟨_, _, fun_mk (st := s_Board_init) l6 d6 k6, ⟨mk_Board, a6, i6, kc_Board⟩, PySem.W.mg_of X G ac_Board⟩
  have F7 : Md K C_Board "change" "Board.change" s_Board_change := ⟨_, _, fun_mk (st := s_Board_change) l7 d7 k7, ⟨a7, i7, k7⟩⟩
  have F8 : Fd K mg "_law_made" s_made := ⟨_, _, fun_mk (st := s_made) l8 d8 k8, PySem.W.mg_of X G a8⟩
  have F9 : Md K C_Board "size" "Board.size" s_Board_size := ⟨_, _, fun_mk (st := s_Board_size) l9 d9 k9, ⟨a9, i9, k9⟩⟩
  have F10 : Md K C_Board "number" "Board.number" s_Board_number := ⟨_, _, fun_mk (st := s_Board_number) l10 d10 k10, ⟨a10, i10, k10⟩⟩
  have F11 : Fd K mg "need_known" s_need_known := ⟨_, _, fun_mk (st := s_need_known) l11 d11 k11, PySem.W.mg_of X G a11⟩
  have F12 : Md K C_Board "lasts" "Board.lasts" s_Board_lasts := ⟨_, _, fun_mk (st := s_Board_lasts) l12 d12 k12, ⟨a12, i12, k12⟩⟩
  have F13 : Md K C_Board "tail" "Board.tail" s_Board_tail := ⟨_, _, fun_mk (st := s_Board_tail) l13 d13 k13, ⟨a13, i13, k13⟩⟩
  have F14 : Fd K mg "wanted" s_wanted := ⟨_, _, fun_mk (st := s_wanted) l14 d14 k14, PySem.W.mg_of X G a14⟩
  have F15 : Fd K mg "levels" s_levels := ⟨_, _, fun_mk (st := s_levels) l15 d15 k15, PySem.W.mg_of X G a15⟩
  have F16 : Md K C_Board "part" "Board.part" s_Board_part := ⟨_, _, fun_mk (st := s_Board_part) l16 d16 k16, ⟨a16, i16, k16⟩⟩
  have F17 : Fd K mg "answer" s_answer := ⟨_, _, fun_mk (st := s_answer) l17 d17 k17, PySem.W.mg_of X G a17⟩
  have F18 : Fd K mg "prices" s_prices := ⟨_, _, fun_mk (st := s_prices) l18 d18 k18, PySem.W.mg_of X G a18⟩
  have F19 : Fd K mg "weight" s_weight := ⟨_, _, fun_mk (st := s_weight) l19 d19 k19, PySem.W.mg_of X G a19⟩
  have F20 : Fd K mg "_law_known" s_known := ⟨_, _, fun_mk (st := s_known) l20 d20 k20, PySem.W.mg_of X G a20⟩
  have F21 : Fd K mg "shows" s_shows := ⟨_, _, fun_mk (st := s_shows) l21 d21 k21, PySem.W.mg_of X G a21⟩
  have F22 : Fd K mg "_law_story" s_story := ⟨_, _, fun_mk (st := s_story) l22 d22 k22, PySem.W.mg_of X G a22⟩
  have F23 : Fd K mg "_law_wanted" s_lwanted := ⟨_, _, fun_mk (st := s_lwanted) l23 d23 k23, PySem.W.mg_of X G a23⟩
  have F24 : Fd K mg "_law_is_price" s_is_price := ⟨_, _, fun_mk (st := s_is_price) l24 d24 k24, PySem.W.mg_of X G a24⟩
  have F25 : Fd K mg "_law_like" s_like := ⟨_, _, fun_mk (st := s_like) l25 d25 k25, PySem.W.mg_of X G a25⟩
  have F26 : Fd K mg "_law_lightest" s_lightest := ⟨_, _, fun_mk (st := s_lightest) l26 d26 k26, PySem.W.mg_of X G a26⟩
  have F27 : Fd K mg "_law_part" s_part := ⟨_, _, fun_mk (st := s_part) l27 d27 k27, PySem.W.mg_of X G a27⟩
  have F28 : Fd K mg "_law_brings" s_brings := ⟨_, _, fun_mk (st := s_brings) l28 d28 k28, PySem.W.mg_of X G a28⟩
  have F29 := fun_mk (st := s_law) l29 d29 k29
  refine ⟨PySem.W.fnOf "law" "law" (defArgs s_law) (defBody s_law) (defScope s_law) .none kV29 dc29 pm29 an29 cd29 ct29, fun s v => .of_eq rfl, fun base _ _ => ?_⟩
  have g_dice := ok_dice (P := l.prog) (w := w) (base := base) F1 Bm
  have g_next := ok_next (P := l.prog) (w := w) (base := base) F2 Bm
  have g_counts := ok_counts (P := l.prog) (w := w) (base := base) F3 Bm g_next
  have g_worth := ok_worth (P := l.prog) (w := w) (base := base) F4 Bm g_next
  have g_changes := ok_changes (P := l.prog) (w := w) (base := base) F5 Bm g_next g_worth
  have k_Board := ok_Binit (P := l.prog) (w := w) (base := base) F6 Bm CBoard km_MOST_KEYS km_MOST_TAIL
  have m_Board_change := ok_Bchange (P := l.prog) (w := w) (base := base) F7 Bm CBoard
  have g_made := ok_made (P := l.prog) (w := w) (base := base) F8 Bm CBoard k_Board m_Board_change
  have m_Board_size := ok_Bsize (P := l.prog) (w := w) (base := base) F9 Bm CBoard
  have m_Board_number := ok_Bnumber (P := l.prog) (w := w) (base := base) F10 Bm CBoard
  have g_need_known := ok_need_known (P := l.prog) (w := w) (base := base) F11 Bm CBoard m_Board_size m_Board_number
  have m_Board_lasts := ok_Blasts (P := l.prog) (w := w) (base := base) F12 Bm CBoard
  have m_Board_tail := ok_Btail (P := l.prog) (w := w) (base := base) F13 Bm CBoard
  have g_wanted := ok_wanted (P := l.prog) (w := w) (base := base) F14 Bm CBoard m_Board_lasts m_Board_tail
  have g_levels := ok_levels (P := l.prog) (w := w) (base := base) F15 Bm CBoard km_PART m_Board_size g_wanted
  have m_Board_part := ok_Bpart (P := l.prog) (w := w) (base := base) F16 Bm CBoard
  have g_answer := ok_answer (P := l.prog) (w := w) (base := base) F17 Bm CBoard g_need_known g_levels g_wanted m_Board_size m_Board_part
  have g_prices := ok_prices (P := l.prog) (w := w) (base := base) F18 Bm CBoard g_need_known g_levels m_Board_size
  have g_weight := ok_weight (P := l.prog) (w := w) (base := base) F19 Bm km_PART
  have g_known := ok_lknown (P := l.prog) (w := w) (base := base) F20 Bm g_next
  have g_shows := ok_shows (P := l.prog) (w := w) (base := base) F21 Bm CBoard km_PART g_need_known g_wanted m_Board_size
  have g_story := ok_story (P := l.prog) (w := w) (base := base) F22 Bm
  have g_lwanted := ok_lwanted (P := l.prog) (w := w) (base := base) F23 Bm
  have g_is_price := ok_is_price (P := l.prog) (w := w) (base := base) F24 Bm
  have g_like := ok_like (P := l.prog) (w := w) (base := base) F25 Bm
  have g_lightest := ok_lightest (P := l.prog) (w := w) (base := base) F26 Bm
  have g_part := ok_part (P := l.prog) (w := w) (base := base) F27 Bm
  have g_brings := ok_brings (P := l.prog) (w := w) (base := base) F28 Bm g_part g_like
  exact ok_law (P := l.prog) (w := w) (base := base) F29 Bm CBoard g_dice g_next g_counts g_changes g_made g_answer g_prices g_weight g_known g_shows g_story g_lwanted g_is_price g_like g_lightest g_brings
theorem walked {l : PySem.W.OpenLaw} {q : Program} {loose : List Str} {XP : (Str → Option Value) → Heap → Prop} {YP : World → Heap → Prop} {d : DefRec} {K : Params → PySem.W.Frag} (hn : l.most = some 63) (hdf : d.params.defaults = [])
    (hY : ∀ (w : World) (h : Heap), YP w h → (K w.params).In h)
    (F : ∀ (w : World) (mg : Str → Option Value) (fa : Addr) (h : Heap), (K w.params).In h → h.Ns mainGlobals mg → mg d.name = some (.ref fa) →
      ∃ fd : FuncData, (∀ (s : Shared) (u : Value), BindsTo s fd ⟨[u], []⟩ [("_law_script", u)]) ∧ ∀ base : Heap, (K w.params).In base → base.Ns mainGlobals mg → FnOk l.prog w (K w.params) mg base CX0 10 fa fd ["_law_script"] (spLaw (K w.params))) :
    PySem.W.WalkO q loose XP YP l.row.toRowW d [] (fun f vs => PySem.call f vs) :=
  L2.walk_of (n := 63) (k := 10) (x := "_law_script") (CX := fun _ => CX0) (sp := fun w => spLaw (K w.params)) hn (by decide) hdf ⟨rfl, by decide, by decide⟩ hY F (fun _ _ a ns hl hO hS => ⟨rfl, a, ns, rfl, hl, FzL.only hO hS, fun _ => rfl⟩) fun _ _ _ _ _ z => z
end Cu
open PySem PySem.W PyProof.Rows
set_option maxHeartbeats 0 in
theorem PySem.Challenge.cw_catchup_k06_whole_the_lightest_holds : PySem.Challenge.rw_catchup_k06_whole_the_lightest.Holds := by
  w_on; o_law; k_head; (case hw => w_witness2)
  k_fill
  refine Cu.walked (l := PySem.Challenge.rw_catchup_k06_whole_the_lightest) rfl rfl (fun w h Y => PySem.W.kIn_of Y) ?F
  case F =>
    intro w mg fa h KX G hmg
    refine' Cu.facts KX G hmg ?b_len ?b_range ?b_int ?b_list ?b_tuple ?b_sorted ?b_min ?b_max ?b_sum ?b_set ?b_str ?b_isinstance ?b_enumerate ?b_zip ?b_bool ?b_dict ?c_MOST_KEYS ?c_MOST_TAIL ?c_PART ?ac_Board ?pg_Board ?hd_Board ?po_Board ?sa_Board ?no0_Board ?no1_Board ?no2_Board ?no3_Board ?no4_Board ?a1 ?l1 ?d1 ?k1 ?a2 ?l2 ?d2 ?k2 ?a3 ?l3 ?d3 ?k3 ?a4 ?l4 ?d4 ?k4 ?a5 ?l5 ?d5 ?k5 ?a6 ?i6 ?l6 ?d6 ?k6 ?mk_Board ?kc_Board ?a7 ?i7 ?l7 ?d7 ?k7 ?a8 ?l8 ?d8 ?k8 ?a9 ?i9 ?l9 ?d9 ?k9 ?a10 ?i10 ?l10 ?d10 ?k10 ?a11 ?l11 ?d11 ?k11 ?a12 ?i12 ?l12 ?d12 ?k12 ?a13 ?i13 ?l13 ?d13 ?k13 ?a14 ?l14 ?d14 ?k14 ?a15 ?l15 ?d15 ?k15 ?a16 ?i16 ?l16 ?d16 ?k16 ?a17 ?l17 ?d17 ?k17 ?a18 ?l18 ?d18 ?k18 ?a19 ?l19 ?d19 ?k19 ?a20 ?l20 ?d20 ?k20 ?a21 ?l21 ?d21 ?k21 ?a22 ?l22 ?d22 ?k22 ?a23 ?l23 ?d23 ?k23 ?a24 ?l24 ?d24 ?k24 ?a25 ?l25 ?d25 ?k25 ?a26 ?l26 ?d26 ?k26 ?a27 ?l27 ?d27 ?k27 ?a28 ?l28 ?d28 ?k28 ?a29 ?l29 ?d29 ?k29
    (case b_len => k_is)
    (case b_range => k_is)
    (case b_int => k_is)
    (case b_list => k_is)
    (case b_tuple => k_is)
    (case b_sorted => k_is)
    (case b_min => k_is)
    (case b_max => k_is)
    (case b_sum => k_is)
    (case b_set => k_is)
    (case b_str => k_is)
    (case b_isinstance => k_is)
    (case b_enumerate => k_is)
    (case b_zip => k_is)
    (case b_bool => k_is)
    (case b_dict => k_is)
    (case c_MOST_KEYS => k_is)
    (case c_MOST_TAIL => k_is)
    (case c_PART => k_is)
    (case ac_Board => k_is)
    (case pg_Board => k_is)
    (case hd_Board => k_is)
    (case po_Board => k_is)
    (case sa_Board => k_is)
    (case no0_Board => k_is)
    (case no1_Board => k_is)
    (case no2_Board => k_is)
    (case no3_Board => k_is)
    (case no4_Board => k_is)
    (case a1 => k_is)
    (case l1 => k_is)
    (case d1 => k_is)
    (case k1 => k_is)
    (case a2 => k_is)
    (case l2 => k_is)
    (case d2 => k_is)
    (case k2 => k_is)
    (case a3 => k_is)
    (case l3 => k_is)
    (case d3 => k_is)
    (case k3 => k_is)
    (case a4 => k_is)
    (case l4 => k_is)
    (case d4 => k_is)
    (case k4 => k_is)
    (case a5 => k_is)
    (case l5 => k_is)
    (case d5 => k_is)
    (case k5 => k_is)
    (case a6 => k_is)
    (case i6 => k_is)
    (case l6 => k_is)
    (case d6 => k_is)
    (case k6 => k_is)
    (case mk_Board => k_is)
    (case kc_Board => k_is)
    (case a7 => k_is)
    (case i7 => k_is)
    (case l7 => k_is)
    (case d7 => k_is)
    (case k7 => k_is)
    (case a8 => k_is)
    (case l8 => k_is)
    (case d8 => k_is)
    (case k8 => k_is)
    (case a9 => k_is)
    (case i9 => k_is)
    (case l9 => k_is)
    (case d9 => k_is)
    (case k9 => k_is)
    (case a10 => k_is)
    (case i10 => k_is)
    (case l10 => k_is)
    (case d10 => k_is)
    (case k10 => k_is)
    (case a11 => k_is)
    (case l11 => k_is)
    (case d11 => k_is)
    (case k11 => k_is)
    (case a12 => k_is)
    (case i12 => k_is)
    (case l12 => k_is)
    (case d12 => k_is)
    (case k12 => k_is)
    (case a13 => k_is)
    (case i13 => k_is)
    (case l13 => k_is)
    (case d13 => k_is)
    (case k13 => k_is)
    (case a14 => k_is)
    (case l14 => k_is)
    (case d14 => k_is)
    (case k14 => k_is)
    (case a15 => k_is)
    (case l15 => k_is)
    (case d15 => k_is)
    (case k15 => k_is)
    (case a16 => k_is)
    (case i16 => k_is)
    (case l16 => k_is)
    (case d16 => k_is)
    (case k16 => k_is)
    (case a17 => k_is)
    (case l17 => k_is)
    (case d17 => k_is)
    (case k17 => k_is)
    (case a18 => k_is)
    (case l18 => k_is)
    (case d18 => k_is)
    (case k18 => k_is)
    (case a19 => k_is)
    (case l19 => k_is)
    (case d19 => k_is)
    (case k19 => k_is)
    (case a20 => k_is)
    (case l20 => k_is)
    (case d20 => k_is)
    (case k20 => k_is)
    (case a21 => k_is)
    (case l21 => k_is)
    (case d21 => k_is)
    (case k21 => k_is)
    (case a22 => k_is)
    (case l22 => k_is)
    (case d22 => k_is)
    (case k22 => k_is)
    (case a23 => k_is)
    (case l23 => k_is)
    (case d23 => k_is)
    (case k23 => k_is)
    (case a24 => k_is)
    (case l24 => k_is)
    (case d24 => k_is)
    (case k24 => k_is)
    (case a25 => k_is)
    (case l25 => k_is)
    (case d25 => k_is)
    (case k25 => k_is)
    (case a26 => k_is)
    (case l26 => k_is)
    (case d26 => k_is)
    (case k26 => k_is)
    (case a27 => k_is)
    (case l27 => k_is)
    (case d27 => k_is)
    (case k27 => k_is)
    (case a28 => k_is)
    (case l28 => k_is)
    (case d28 => k_is)
    (case k28 => k_is)
    (case a29 => k_is)
    (case l29 => k_is)
    (case d29 => k_is)
    (case k29 => k_is)
#print axioms PySem.Challenge.cw_catchup_k06_whole_the_lightest_holds
