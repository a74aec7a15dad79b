import PyProof.Rows.All
import Wide.All
import OpenK.AllK
import Wide.FinOn
import HandS.ForMost
import HandS.Conv
import HandS.More
import HandS.SortInts
import HandS.Wide
import HandS.Walk
import HandS.Style
import HandS.Flow
import HandS.Deep
import HandS.TupAny
import KE.GoesMore
import KE.KSortedM
import HandS.Strs
import HandS.SetFor
import HandS.TupSets
import HandS.IsInst
import HandS.NoneIn
import KE.DataMinMax
import KE.KDictZip
import PySem.Challenge.RW_catchup_k38_whole_two_hearers_one_answer
set_option Elab.async false
set_option linter.all false
set_option autoImplicit false
set_option maxRecDepth 100000
set_option maxHeartbeats 4000000
/-! Part 0: what stays, what changes; data as they lie; calls by name -/
namespace Cu
open PySem PySem.Spec PyProof.Rows L2

/-- what never changes -/
def Imm : HO → Prop
  | .tup _ => True
  | .frz _ _ => True
  | _ => False
theorem nl {xs : List V} : ¬ Imm (.lst xs) := fun h => h
theorem ndk {xs : List (Key × V)} : ¬ Imm (.dK xs) := fun h => h
def Mono (H H' : Hp) : Prop := ∀ b o, H b = some o → Imm o → H' b = some o
theorem Mono.refl (H : Hp) : Mono H H := fun _ _ h _ => h
theorem Mono.trans {H H1 H2 : Hp} (a : Mono H H1) (b : Mono H1 H2) : Mono H H2 := fun c o h i => b c o (a c o h i) i
theorem Mono.new {H : Hp} {p : Addr} {o : HO} (h : H p = none) : Mono H (upd H p o) := fun b u e _ => by
  rw [upd_ne (ne_of_none e h)]
  exact e
theorem Mono.put {H : Hp} {a : Addr} {o o' : HO} (h : H a = some o) (n : ¬ Imm o) : Mono H (upd H a o') := fun b u e i => by
  by_cases hb : b = a
  · subst hb
    rw [h] at e
    cases e
    exact absurd i n
  · rw [upd_ne hb]
    exact e

/-- the changing objects one owns -/
abbrev Lg := List (Addr × HO)
structure Has (H : Hp) (l : Lg) : Prop where
  nd : (l.map Prod.fst).Nodup
  at_ : ∀ p ∈ l, H p.1 = some p.2 ∧ ¬ Imm p.2
section
variable {H H' : Hp} {l l' : Lg} {a p : Addr} {o o' : HO}
theorem Has.nil : Has H [] := ⟨List.nodup_nil, fun _ h => (nomatch h)⟩
theorem Has.mem (h : Has H l) (m : (a, o) ∈ l) : H a = some o := (h.at_ _ m).1
theorem Has.head (h : Has H ((a, o) :: l)) : H a = some o := (h.at_ _ List.mem_cons_self).1
theorem Has.tail (h : Has H ((a, o) :: l)) : Has H l := ⟨(List.nodup_cons.mp h.nd).2, fun p m => h.at_ p (List.mem_cons_of_mem _ m)⟩
theorem Has.notin (h : Has H l) (f : H p = none) : p ∉ l.map Prod.fst := fun m => by
  obtain ⟨q, hq, e⟩ := List.mem_map.mp m
  have := (h.at_ q hq).1
  rw [e, f] at this
  cases this
theorem Has.ne (h : Has H l) (f : H p = none) {q : Addr × HO} (m : q ∈ l) : q.1 ≠ p := fun e => h.notin f (by rw [← e]; exact List.mem_map_of_mem m)
/-- an object that is not ours is made or written -/
theorem Has.off (h : Has H l) (n : p ∉ l.map Prod.fst) : Has (upd H p o) l := ⟨h.nd, fun q m => ⟨by
  rw [upd_ne (fun e => n (by rw [← e]; exact List.mem_map_of_mem m))]
  exact (h.at_ q m).1, (h.at_ q m).2⟩⟩
theorem Has.old (h : Has H l) (f : H p = none) : Has (upd H p o) l := h.off (h.notin f)
theorem Has.new (h : Has H l) (f : H p = none) (n : ¬ Imm o) : Has (upd H p o) ((p, o) :: l) :=
  ⟨List.nodup_cons.mpr ⟨h.notin f, h.nd⟩, fun q m => by
    rcases List.mem_cons.mp m with e | m
    · subst e
      exact ⟨upd_same, n⟩
    · exact (h.old f).at_ q m⟩
theorem Has.put (h : Has H ((a, o) :: l)) (n : ¬ Imm o') : Has (upd H a o') ((a, o') :: l) :=
  ⟨h.nd, fun q m => by
    rcases List.mem_cons.mp m with e | m
    · subst e
      exact ⟨upd_same, n⟩
    · exact (h.tail.off (List.nodup_cons.mp h.nd).1).at_ q m⟩
theorem Has.perm (h : Has H l) (e : l.Perm l') : Has H l' := ⟨(e.map Prod.fst).nodup_iff.mp h.nd, fun q m => h.at_ q (e.mem_iff.mpr m)⟩
theorem Has.sub (h : Has H l) (e : l'.Sublist l) : Has H l' := ⟨h.nd.sublist (e.map Prod.fst), fun q m => h.at_ q (e.subset m)⟩
theorem Has.mono_put (h : Has H ((a, o) :: l)) : Mono H (upd H a o') := Mono.put h.head (h.at_ _ List.mem_cons_self).2
theorem Has.right {l2 : Lg} (h : Has H (l ++ l2)) : Has H l2 := h.sub (List.sublist_append_right _ _)
theorem Has.left {l2 : Lg} (h : Has H (l ++ l2)) : Has H l := h.sub (List.sublist_append_left _ _)
theorem Has.comm {l2 : Lg} (h : Has H (l ++ l2)) : Has H (l2 ++ l) := h.perm List.perm_append_comm
/-- the first part goes behind the second -/
theorem Has.swap {l2 l3 : Lg} (h : Has H (l ++ (l2 ++ l3))) : Has H (l2 ++ (l ++ l3)) := h.perm (by
  rw [← List.append_assoc, ← List.append_assoc]
  exact List.Perm.append_right _ List.perm_append_comm)
theorem Has.swap1 {q : Addr × HO} {l3 : Lg} (h : Has H (q :: (l ++ l3))) : Has H (l ++ (q :: l3)) := h.perm List.perm_middle.symm
theorem Has.unswap1 {q : Addr × HO} {l3 : Lg} (h : Has H (l ++ (q :: l3))) : Has H (q :: (l ++ l3)) := h.perm List.perm_middle
theorem Has.swap2 {q r : Addr × HO} (h : Has H (q :: r :: l)) : Has H (r :: q :: l) := h.perm (List.Perm.swap _ _ _)
end

section
variable {K : PySem.W.Frag} {H H' : Hp} {a : Addr} {xs : List V}
/-- a list that stays -/
def FzL (K : PySem.W.Frag) (H : Hp) (a : Addr) (xs : List V) : Prop := ∀ H', Mono H H' → SqL K H' a xs
theorem FzL.mono (h : FzL K H a xs) (m : Mono H H') : FzL K H' a xs := fun H2 m2 => h H2 (m.trans m2)
theorem FzL.sq (h : FzL K H a xs) : SqL K H a xs := h H (Mono.refl H)
theorem FzL.of {o : Obj} (h : H a = some (.frz o (.lst xs))) : FzL K H a xs := fun H' m => Or.inl (Or.inr ⟨o, m _ _ h trivial⟩)
theorem FzL.only (h : Only H) (s : SqL K H a xs) : FzL K H a xs := by
  rcases s with (s | ⟨o, s⟩) | s
  · rcases h a with e | ⟨o, ys, e⟩
    · rw [e] at s
      cases s
    · rw [e] at s
      cases s
  · exact FzL.of s
  · exact fun _ _ => Or.inr s
theorem FzL.frz {o : Obj} : FzL K (upd H a (.frz o (.lst xs))) a xs := FzL.of upd_same
end

/-- a reading that is opened by its own lemma alone -/
@[irreducible] def tI (t : TE) : TE := t
theorem rd_I {t : TE} {σ : L2.St} {H : Hp} {Q : VK} (h : t σ H Q) : tI t σ H Q := by
  unfold tI
  exact h
theorem pe_I {X : Cx} {e : Expr} {t : TE} (h : PE X e t) : PE X e (tI t) := by
  unfold tI
  exact h
/-- e, a new list, from now on never changed -/
@[irreducible] def tFz (t : TE) : TE := fun σ H Q => t σ H fun v H1 => ∃ a xs, v = .ref a ∧ H1 a = some (.lst xs) ∧ ∀ o, Q (.ref a) (upd H1 a (.frz o (.lst xs)))
theorem rd_fz {t : TE} {σ : L2.St} {H : Hp} {Q : VK} (h : t σ H fun v H1 => ∃ a xs, v = .ref a ∧ H1 a = some (.lst xs) ∧ ∀ o, Q (.ref a) (upd H1 a (.frz o (.lst xs)))) : tFz t σ H Q := by
  unfold tFz
  exact h
theorem pe_fz {X : Cx} {e : Expr} {t : TE} (h : PE X e t) : PE X e (tFz t) := ⟨fun pins s σ H Q I hw => by
  unfold tFz at hw
  exact thn (h.run pins s σ H _ I hw) fun u s1 ⟨v, H1, I1, r, a, xs, ev, ha, q⟩ => by
    subst ev
    obtain ⟨od, I2⟩ := I1.lock ha trivial
    exact ⟨_, _, I2, r, q od⟩⟩

/-! ### data -/
mutual
def Rp (K : PySem.W.Frag) (H : Hp) : PyData → V → Prop
  | .none, v => v = .non
  | .bool b, v => v = .bl b
  | .int i, v => v = .int i
  | .str s, v => v = .str s
  | .list ds, v => ∃ a xs, v = .ref a ∧ FzL K H a xs ∧ RpL K H ds xs
  | .tuple ds, v => ∃ a xs, v = .ref a ∧ H a = some (.tup xs) ∧ RpL K H ds xs
  | .dict _, _ => False
def RpL (K : PySem.W.Frag) (H : Hp) : List PyData → List V → Prop
  | [], vs => vs = []
  | d :: ds, vs => ∃ v r, vs = v :: r ∧ Rp K H d v ∧ RpL K H ds r
end
section
variable {K : PySem.W.Frag} {H H' : Hp}
mutual
theorem Rp.mono (m : Mono H H') : ∀ {d : PyData} {v : V}, Rp K H d v → Rp K H' d v
  | .none, _, h => by rw [Rp] at h ⊢; exact h
  | .bool _, _, h => by rw [Rp] at h ⊢; exact h
  | .int _, _, h => by rw [Rp] at h ⊢; exact h
  | .str _, _, h => by rw [Rp] at h ⊢; exact h
  | .list ds, _, h => by
    rw [Rp] at h ⊢
    obtain ⟨a, xs, e, f, r⟩ := h
    exact ⟨a, xs, e, f.mono m, RpL.mono m r⟩
  | .tuple ds, _, h => by
    rw [Rp] at h ⊢
    obtain ⟨a, xs, e, f, r⟩ := h
    exact ⟨a, xs, e, m _ _ f trivial, RpL.mono m r⟩
  | .dict _, _, h => by rw [Rp] at h; exact h.elim
theorem RpL.mono (m : Mono H H') : ∀ {ds : List PyData} {vs : List V}, RpL K H ds vs → RpL K H' ds vs
  | [], _, h => by rw [RpL] at h ⊢; exact h
  | d :: ds, _, h => by
    rw [RpL] at h ⊢
    obtain ⟨v, r, e, h1, h2⟩ := h
    exact ⟨v, r, e, Rp.mono m h1, RpL.mono m h2⟩
end
mutual
theorem Rp.dp : ∀ {d : PyData} {v : V}, Rp K H d v → Dp K H v d
  | .none, _, h => by rw [Rp] at h; subst h; exact .non
  | .bool _, _, h => by rw [Rp] at h; subst h; exact .bl _
  | .int _, _, h => by rw [Rp] at h; subst h; exact .int _
  | .str _, _, h => by rw [Rp] at h; subst h; exact .str _
  | .list ds, _, h => by
    rw [Rp] at h
    obtain ⟨a, xs, e, f, r⟩ := h
    subst e
    exact .lst f.sq (RpL.dp r)
  | .tuple ds, _, h => by
    rw [Rp] at h
    obtain ⟨a, xs, e, f, r⟩ := h
    subst e
    exact .tup (SqT.of f) (RpL.dp r)
  | .dict _, _, h => by rw [Rp] at h; exact h.elim
theorem RpL.dp : ∀ {ds : List PyData} {vs : List V}, RpL K H ds vs → DpAll K H vs ds
  | [], _, h => by rw [RpL] at h; subst h; exact .nil
  | d :: ds, _, h => by
    rw [RpL] at h
    obtain ⟨v, r, e, h1, h2⟩ := h
    subst e
    exact .cons (Rp.dp h1) (RpL.dp h2)
end
theorem RpL.length : ∀ {ds : List PyData} {vs : List V}, RpL K H ds vs → vs.length = ds.length
  | [], _, h => by rw [RpL] at h; subst h; rfl
  | d :: ds, _, h => by
    rw [RpL] at h
    obtain ⟨v, r, e, _, h2⟩ := h
    subst e
    rw [List.length_cons, List.length_cons, h2.length]
theorem RpL.get : ∀ {ds : List PyData} {vs : List V} {i : Nat} {d : PyData}, RpL K H ds vs → ds[i]? = some d → ∃ v, vs[i]? = some v ∧ Rp K H d v
  | [], _, _, _, _, e => by simp at e
  | d :: ds, _, i, d', h, e => by
    rw [RpL] at h
    obtain ⟨v, r, e1, h1, h2⟩ := h
    subst e1
    cases i with
    | zero =>
      have e2 : d = d' := by simpa using e
      subst e2
      exact ⟨v, rfl, h1⟩
    | succ i => exact h2.get (by simpa using e)
theorem RpL.nil : RpL K H [] [] := by rw [RpL]
theorem RpL.cons {d : PyData} {ds : List PyData} {v : V} {vs : List V} (h : Rp K H d v) (r : RpL K H ds vs) : RpL K H (d :: ds) (v :: vs) := by
  rw [RpL]
  exact ⟨v, vs, rfl, h, r⟩
theorem RpL.append : ∀ {ds es : List PyData} {vs us : List V}, RpL K H ds vs → RpL K H es us → RpL K H (ds ++ es) (vs ++ us)
  | [], _, _, _, h, g => by rw [RpL] at h; subst h; exact g
  | d :: ds, _, _, _, h, g => by
    rw [RpL] at h
    obtain ⟨v, r, e1, h1, h2⟩ := h
    subst e1
    exact .cons h1 (h2.append g)
theorem RpL.snoc {ds : List PyData} {vs : List V} {d : PyData} {v : V} (h : RpL K H ds vs) (g : Rp K H d v) : RpL K H (ds ++ [d]) (vs ++ [v]) := h.append (.cons g .nil)
theorem RpL.take : ∀ {ds : List PyData} {vs : List V} (n : Nat), RpL K H ds vs → RpL K H (ds.take n) (vs.take n)
  | [], _, n, h => by rw [RpL] at h; subst h; simpa using RpL.nil
  | d :: ds, _, n, h => by
    rw [RpL] at h
    obtain ⟨v, r, e1, h1, h2⟩ := h
    subst e1
    cases n with
    | zero => exact .nil
    | succ n => exact .cons h1 (h2.take n)
theorem RpL.drop : ∀ {ds : List PyData} {vs : List V} (n : Nat), RpL K H ds vs → RpL K H (ds.drop n) (vs.drop n)
  | [], _, n, h => by rw [RpL] at h; subst h; simpa using RpL.nil
  | d :: ds, _, n, h => by
    rw [RpL] at h
    obtain ⟨v, r, e1, h1, h2⟩ := h
    subst e1
    cases n with
    | zero => exact .cons h1 h2
    | succ n => exact h2.drop n
theorem Rp.int_iff {i : Int} {v : V} : Rp K H (.int i) v ↔ v = .int i := by rw [Rp]
theorem Rp.str_iff {i : Str} {v : V} : Rp K H (.str i) v ↔ v = .str i := by rw [Rp]
theorem Rp.bool_iff {i : Bool} {v : V} : Rp K H (.bool i) v ↔ v = .bl i := by rw [Rp]
theorem Rp.none_iff {v : V} : Rp K H .none v ↔ v = .non := by rw [Rp]
theorem Rp.int {i : Int} : Rp K H (.int i) (.int i) := by rw [Rp]
theorem Rp.str {i : Str} : Rp K H (.str i) (.str i) := by rw [Rp]
theorem Rp.bool {i : Bool} : Rp K H (.bool i) (.bl i) := by rw [Rp]
theorem Rp.non : Rp K H .none .non := by rw [Rp]
theorem Rp.tup {ds : List PyData} {a : Addr} {xs : List V} (h : H a = some (.tup xs)) (r : RpL K H ds xs) : Rp K H (.tuple ds) (.ref a) := by
  rw [Rp]
  exact ⟨a, xs, rfl, h, r⟩
theorem Rp.lst {ds : List PyData} {a : Addr} {xs : List V} (h : FzL K H a xs) (r : RpL K H ds xs) : Rp K H (.list ds) (.ref a) := by
  rw [Rp]
  exact ⟨a, xs, rfl, h, r⟩
theorem Rp.tup_inv {ds : List PyData} {v : V} (h : Rp K H (.tuple ds) v) : ∃ a xs, v = .ref a ∧ H a = some (.tup xs) ∧ RpL K H ds xs := by rwa [Rp] at h
theorem Rp.lst_inv {ds : List PyData} {v : V} (h : Rp K H (.list ds) v) : ∃ a xs, v = .ref a ∧ FzL K H a xs ∧ RpL K H ds xs := by rwa [Rp] at h
theorem RpL.nil_inv {vs : List V} (h : RpL K H [] vs) : vs = [] := by rwa [RpL] at h
theorem RpL.cons_inv {d : PyData} {ds : List PyData} {vs : List V} (h : RpL K H (d :: ds) vs) : ∃ v r, vs = v :: r ∧ Rp K H d v ∧ RpL K H ds r := by rwa [RpL] at h
theorem RpL.ints : ∀ {ns : List Int} {vs : List V}, RpL K H (ns.map PyData.int) vs → vs = ns.map V.int
  | [], _, h => h.nil_inv
  | n :: ns, _, h => by
    obtain ⟨v, r, e, h1, h2⟩ := h.cons_inv
    rw [Rp.int_iff] at h1
    rw [e, h1, h2.ints]
    rfl
theorem RpL.of_ints : ∀ (ns : List Int), RpL K H (ns.map PyData.int) (ns.map V.int)
  | [] => .nil
  | n :: ns => .cons .int (RpL.of_ints ns)
theorem Dp.ints {a : Addr} {ns : List Int} (h : SqL K H a (ns.map V.int)) : Dp K H (.ref a) (.list (ns.map PyData.int)) := .lst h (RpL.dp (RpL.of_ints ns))
end

/-! ### a def of the top, a method, a class, by name -/
section
variable (P : Program) (w : World) (K : PySem.W.Frag) (mg : Str → Option Value) (base : Heap)
structure Gf (j : Nat) (x : Str) (ps : List Str) (sp : Sp) : Prop where
  ex : ∃ f fd, FnOk P w K mg base CX0 j f fd ps sp ∧ mg x = some (.ref f) ∧ PySem.W.keepIn K (.ref f) = true ∧ Binds K fd ps []
structure Mf (j : Nat) (C : Addr) (m : Str) (ps : List Str) (sp : Sp) : Prop where
  ex : ∃ f fd, FnOk P w K mg base CX0 j f fd ps sp ∧ Meth K C m f ∧ Binds K fd ps []
structure Kf (j : Nat) (x : Str) (C : Addr) (ps : List Str) (sp : Sp) : Prop where
  ex : ∃ f fd, FnOk P w K mg base CX0 j f fd ps sp ∧ Mk K C f ∧ mg x = some (.ref C) ∧ Binds K fd ps []
end
section
variable {X : Cx} {j k : Nat} {x m : Str} {C : Addr} {ps : List Str} {sp : Sp} {p pos apos : Pos} {e o : Expr} {es : List Expr} {t : TA} {to : TE}
theorem pc (g : Gf X.prog X.w X.K X.mg X.base j x ps sp) (hr : Room k X.A) (ha : PA X (e :: es) t) (hg : Gl X x := by rfl) (hj : j ≤ k := by decide) (hdb : (x == ("__debug__" : Str)) = false := by decide)
    (he : starEach (e :: es) X.env = (false, eval e X.env) :: starEach es X.env := by rfl) (hpl : (backTo pos (starEach es X.env)).any (·.1) = false := by rfl) :
    PE X (.Call (.Name x p) (e :: es) [] pos) (tCall sp [] E0 t) := by
  obtain ⟨f, fd, F, hm, hk, hb⟩ := g.ex
  exact pe_call F (hr.mono hj) hg hm hk hb .nil pass0 ha hdb he hpl
theorem pc0 (g : Gf X.prog X.w X.K X.mg X.base j x ps sp) (hr : Room k X.A) (hg : Gl X x := by rfl) (hj : j ≤ k := by decide) (hdb : (x == ("__debug__" : Str)) = false := by decide) :
    PE X (.Call (.Name x p) [] [] pos) (tCall sp [] E0 tNil) := by
  obtain ⟨f, fd, F, hm, hk, hb⟩ := g.ex
  exact pe_call0 F (hr.mono hj) hg hm hk hb .nil pass0 hdb
theorem pm {pl : Sem Bool} (ho : PE X o to) (c : Cls X.K C) (g : Mf X.prog X.w X.K X.mg X.base j C m ps sp) (hr : Room k X.A) (ha : PA X (e :: es) t) (hj : j ≤ k := by decide)
    (hst : starEach (e :: es) X.env = (false, eval e X.env) :: starEach es X.env := by rfl) (hpl : (backTo pos (starEach es X.env)).any (·.1) = false := by rfl)
    (ht : eval (.Call (.Attribute o m apos) (e :: es) [] pos) X.env = (do
      let ov ← eval o X.env
      standAt apos.atName
      let (f, first) ← holding [ov] (getMethod ov m pl)
      callWith pos f first (backTo pos (starEach (e :: es) X.env)) (backToKw pos (keywordEach [] X.env))) := by rfl) :
    PE X (.Call (.Attribute o m apos) (e :: es) [] pos) (tMeth C m sp [] E0 to t) := by
  obtain ⟨f, fd, F, hm, hb⟩ := g.ex
  exact pe_meth ho c hm F (hr.mono hj) hb .nil pass0 ha hst hpl ht
theorem pm0 {pl : Sem Bool} (ho : PE X o to) (c : Cls X.K C) (g : Mf X.prog X.w X.K X.mg X.base j C m ps sp) (hr : Room k X.A) (hj : j ≤ k := by decide)
    (ht : eval (.Call (.Attribute o m apos) [] [] pos) X.env = (do
      let ov ← eval o X.env
      standAt apos.atName
      let (f, first) ← holding [ov] (getMethod ov m pl)
      callWith pos f first (backTo pos (starEach [] X.env)) (backToKw pos (keywordEach [] X.env))) := by rfl) :
    PE X (.Call (.Attribute o m apos) [] [] pos) (tMeth C m sp [] E0 to tNil) := by
  obtain ⟨f, fd, F, hm, hb⟩ := g.ex
  exact pe_meth0 ho c hm F (hr.mono hj) hb .nil pass0 ht
theorem pk (g : Kf X.prog X.w X.K X.mg X.base j x C ps sp) (hr : Room k X.A) (ha : PA X (e :: es) t) (hg : Gl X x := by rfl) (hj : j + 1 ≤ k := by decide) (hdb : (x == ("__debug__" : Str)) = false := by decide)
    (he : starEach (e :: es) X.env = (false, eval e X.env) :: starEach es X.env := by rfl) (hpl : (backTo pos (starEach es X.env)).any (·.1) = false := by rfl) :
    PE X (.Call (.Name x p) (e :: es) [] pos) (tMake C sp [] E0 t) := by
  obtain ⟨f, fd, F, M, hm, hb⟩ := g.ex
  exact pe_make M F (hr.mono hj) hg hm hb .nil pass0 ha hdb he hpl
end

/-! ### the dice -/
/-- the dice at a, beside what else is owned -/
def Dice (K : PySem.W.Frag) (H : Hp) (a : Addr) (R : Lg) : Prop := ∃ (c : Addr) (ns : List Int) (i m r : Int), 0 ≤ i ∧ ns.length ≤ 1000 ∧ FzL K H c (ns.map V.int) ∧ Has H ((a, .lst [.ref c, .int i, .int m, .int r]) :: R)
section
variable {K : PySem.W.Frag} {H H' : Hp} {a p : Addr} {R R' : Lg} {o o' : HO}
theorem Dice.has (d : Dice K H a R) : Has H R := let ⟨_, _, _, _, _, _, _, _, h⟩ := d; h.tail
theorem Dice.new (d : Dice K H a R) (f : H p = none) (n : ¬ Imm o) : Dice K (upd H p o) a ((p, o) :: R) :=
  let ⟨c, ns, i, m, r, h1, h2, h3, h⟩ := d
  ⟨c, ns, i, m, r, h1, h2, h3.mono (Mono.new f), (h.new f n).swap2⟩
theorem Dice.old (d : Dice K H a R) (f : H p = none) : Dice K (upd H p o) a R :=
  let ⟨c, ns, i, m, r, h1, h2, h3, h⟩ := d
  ⟨c, ns, i, m, r, h1, h2, h3.mono (Mono.new f), h.old f⟩
theorem Dice.put (d : Dice K H a ((p, o) :: R)) (n : ¬ Imm o') : Dice K (upd H p o') a ((p, o') :: R) :=
  let ⟨c, ns, i, m, r, h1, h2, h3, h⟩ := d
  ⟨c, ns, i, m, r, h1, h2, h3.mono h.swap2.mono_put, (h.swap2.put n).swap2⟩
theorem Dice.at_ (d : Dice K H a ((p, o) :: R)) : H p = some o := d.has.head
theorem Dice.mput (d : Dice K H a ((p, o) :: R)) : Mono H (upd H p o') := d.has.mono_put
theorem Dice.perm (d : Dice K H a R) (e : R.Perm R') : Dice K H a R' :=
  let ⟨c, ns, i, m, r, h1, h2, h3, h⟩ := d
  ⟨c, ns, i, m, r, h1, h2, h3, h.perm (e.cons _)⟩
theorem Dice.sub (d : Dice K H a R) (e : R'.Sublist R) : Dice K H a R' :=
  let ⟨c, ns, i, m, r, h1, h2, h3, h⟩ := d
  ⟨c, ns, i, m, r, h1, h2, h3, h.sub (e.cons_cons _)⟩
theorem Dice.tail (d : Dice K H a ((p, o) :: R)) : Dice K H a R := d.sub (List.sublist_cons_self _ _)
/-- an owned list is let go, and stays from now on -/
theorem Dice.fz {xs : List V} {ob : Obj} (d : Dice K H a ((p, .lst xs) :: R)) : Dice K (upd H p (.frz ob (.lst xs))) a R :=
  let ⟨c, ns, i, m, r, h1, h2, h3, h⟩ := d
  ⟨c, ns, i, m, r, h1, h2, h3.mono h.swap2.mono_put, h.swap2.tail.off (List.nodup_cons.mp h.swap2.nd).1⟩
theorem Dice.mfz {xs : List V} {ob : Obj} (d : Dice K H a ((p, .lst xs) :: R)) : Mono H (upd H p (.frz ob (.lst xs))) := d.mput
/-- what others do with what is owned beside -/
theorem Dice.go (d : Dice K H a R) (h : ∀ S, Has H (R ++ S) → Mono H H' ∧ Has H' (R' ++ S)) : Dice K H' a R' := by
  obtain ⟨c, ns, i, m, r, h1, h2, h3, hh⟩ := d
  have q : Has H (R ++ [(a, .lst [.ref c, .int i, .int m, .int r])]) := hh.perm (List.perm_append_singleton _ _).symm
  obtain ⟨m1, q1⟩ := h _ q
  exact ⟨c, ns, i, m, r, h1, h2, h3.mono m1, q1.perm (List.perm_append_singleton _ _)⟩
end
end Cu

/-! Part 1: a def as it stands behind the top -/
namespace Cu
open PySem PySem.Spec PyProof.Rows L2
def top (i : Nat) : Stmt := PySem.Challenge.pw_catchup_k38_whole_two_hearers_one_answer.main.body.getD i (.Pass ⟨0, 0, 0, 0⟩)
/-- no built-in's name is the module's -/
structure Blt (mg : Str → Option Value) : Prop where
  len : mg "len" = none
  range : mg "range" = none
  int : mg "int" = none
  list : mg "list" = none
  tuple : mg "tuple" = none
  sorted : mg "sorted" = none
  min : mg "min" = none
  max : mg "max" = none
  sum : mg "sum" = none
  set : mg "set" = none
  str : mg "str" = none
  isinstance : mg "isinstance" = none
  enumerate : mg "enumerate" = none
  zip : mg "zip" = none
  bool : mg "bool" = none
  dict : mg "dict" = none
section
variable (K : PySem.W.Frag) (mg : Str → Option Value)
structure Fd (x : Str) (st : Stmt) : Prop where
  ex : ∃ f fd, Fun K x x st f fd ∧ mg x = some (.ref f)
structure Md (C : Addr) (m qual : Str) (st : Stmt) : Prop where
  ex : ∃ f fd, Fun K m qual st f fd ∧ Meth K C m f
structure Kd (x : Str) (C : Addr) (qual : Str) (st : Stmt) : Prop where
  ex : ∃ f fd, Fun K "__init__" qual st f fd ∧ Mk K C f ∧ mg x = some (.ref C)
end
section
variable {P : Program} {w : World} {K : PySem.W.Frag} {mg : Str → Option Value} {base : Heap} {x m qual : Str} {C : Addr} {st : Stmt} {N ps : List Str} {k : Nat} {sp : Sp}
/-- how the written arguments come to the parameters -/
abbrev Bnd (x qual : Str) (st : Stmt) (ps : List Str) : Prop := ∀ (kV doc pm : Value) (an : Option Addr) (cdv ct : Value) (us : List Value), us.length = ps.length → bindArgs (PySem.W.fnOf x qual (defArgs st) (defBody st) (defScope st) .none kV doc pm an cdv ct) ⟨us, []⟩ = pure (ps.zip us)
theorem Fd.ok (F : Fd K mg x st) (S : FnScope N ps (defScope st)) (b : Bnd x x st ps) (len : ∀ vs H Q E, sp vs H Q E → vs.length = ps.length)
    (hbody : ∀ (qual : Str) (f : Addr) (cdv : Value) (A : Around) (outer : List Env) (s : Shared) (H : Hp) (vs : List V) (Q : VK) (E : XK), Room k (A.deeper (envOfC qual (defScope st) s.heap.objs.size f cdv)) → sp vs H Q E →
      ∃ t, PSs (cxOf CX0 P w K mg base N qual (defScope st) f cdv A outer s H E).nox (defBody st) t ∧ t { nx := fun _ H' => Q .non H', rt := Q } (start N vs) H) : Gf P w K mg base (k + 1) x ps sp := by
  obtain ⟨f, fd, F, hm⟩ := F.ex
  exact ⟨f, fd, F.ok S len fun cdv A outer s H vs Q E hr h => hbody x f cdv A outer s H vs Q E hr h, hm, F.kp, F.binds b⟩
theorem Md.ok (F : Md K C m qual st) (S : FnScope N ps (defScope st)) (b : Bnd m qual st ps) (len : ∀ vs H Q E, sp vs H Q E → vs.length = ps.length)
    (hbody : ∀ (qual : Str) (f : Addr) (cdv : Value) (A : Around) (outer : List Env) (s : Shared) (H : Hp) (vs : List V) (Q : VK) (E : XK), Room k (A.deeper (envOfC qual (defScope st) s.heap.objs.size f cdv)) → sp vs H Q E →
      ∃ t, PSs (cxOf CX0 P w K mg base N qual (defScope st) f cdv A outer s H E).nox (defBody st) t ∧ t { nx := fun _ H' => Q .non H', rt := Q } (start N vs) H) : Mf P w K mg base (k + 1) C m ps sp := by
  obtain ⟨f, fd, F, hm⟩ := F.ex
  exact ⟨f, fd, F.ok S len fun cdv A outer s H vs Q E hr h => hbody qual f cdv A outer s H vs Q E hr h, hm, F.binds b⟩
theorem Kd.ok (F : Kd K mg x C qual st) (S : FnScope N ps (defScope st)) (b : Bnd "__init__" qual st ps) (len : ∀ vs H Q E, sp vs H Q E → vs.length = ps.length)
    (hbody : ∀ (qual : Str) (f : Addr) (cdv : Value) (A : Around) (outer : List Env) (s : Shared) (H : Hp) (vs : List V) (Q : VK) (E : XK), Room k (A.deeper (envOfC qual (defScope st) s.heap.objs.size f cdv)) → sp vs H Q E →
      ∃ t, PSs (cxOf CX0 P w K mg base N qual (defScope st) f cdv A outer s H E).nox (defBody st) t ∧ t { nx := fun _ H' => Q .non H', rt := Q } (start N vs) H) : Kf P w K mg base (k + 1) x C ps sp := by
  obtain ⟨f, fd, F, hm, hx⟩ := F.ex
  exact ⟨f, fd, F.ok S len fun cdv A outer s H vs Q E hr h => hbody qual f cdv A outer s H vs Q E hr h, hm, hx, F.binds b⟩
end
theorem len_of {n : Nat} {ps : List Str} {p : List V → Hp → VK → XK → Prop} (e : n = ps.length := by rfl) : ∀ vs H Q E, (vs.length = n ∧ p vs H Q E) → vs.length = ps.length := fun _ _ _ _ h => h.1.trans e
end Cu

namespace Cu
open PySem PySem.Spec PyProof.Rows L2
/-! sorted(d) of a dict with int keys, any number of them: the keys are taken out as HandS.More does it, and sorted by the order rule of HandS.SortOrd -/
theorem call_sortedDIw {X : Cx} (hcalm : X.calm = true) : CallR X (.builtin "sorted") (fun xs H Q => ∃ (a : Addr) (kvs : List (Key × V)) (ks : List Int), xs = [.ref a] ∧ Rd H a (.dK kvs) ∧ kvs.map (·.1) = ks.map Sum.inl ∧ ks.length ≤ sizeLine ∧
    ∀ (ys : List Int) (p : Addr), ys.Perm ks → ys.Pairwise (· ≤ ·) → H p = none → Q (.ref p) (upd H p (.lst (ys.map V.int)))) := by
  intro pins s σ H xs us Q I r ⟨a, kvs, ks, ex, hd, hks, h64, q⟩
  subst ex
  obtain ⟨u, eu, rx⟩ := vals1 r
  subst eu
  cases rx
  obtain ⟨z, lo, vs, rel, dd⟩ := dk_rd I.hok hd
  obtain ⟨ep, hat⟩ := dd.dictAt
  have hkeys : vs.map (·.1) = ks.map Sum.inl := rel.keys.symm.trans hks
  have hl : vs.length = ks.length := by
    have e := congrArg List.length hkeys
    rwa [List.length_map, List.length_map] at e
  refine Calls.call_function_entry PyProof.Rows.kind_sorted PyProof.Rows.plain_sorted PyProof.Rows.entry_sorted (PyProof.Rows.args_sorted1 _) ?_
  unfold Builtin.«sorted»
  refine wpAny_bind (m := checkCount "sorted" 1 1 _) (wpAny_pure ?_)
  refine wpAny_bind (PySem.W.kdu_collect (A := X.A.in1) (PySem.W.kdl_dict (knd := mixKind X.prog X.w) (kvs := vs) (ep := ep) lo) (I.ok.hd hcalm) hat (by rw [hl]; exact h64) fun h' tk acc hk hacc => ?_)
  have hal : acc.toList.length = ks.length := by rw [Array.length_toList, hacc.1, hl]
  have hS : IntsAre acc.toList ks := ints_each hal fun j v e => by
    obtain ⟨k, x, e1, e2⟩ := hacc.2 j v (by rw [← Array.getElem?_toList]; exact e)
    have e3 : (vs.map (·.1))[j]? = some k := by rw [List.getElem?_map, e1]; rfl
    rw [hkeys, List.getElem?_map] at e3
    cases e4 : ks[j]? with
    | none =>
      rw [e4] at e3
      cases e3
    | some y =>
      rw [e4] at e3
      have e5 : Sum.inl y = k := Option.some.inj e3
      subst e5
      rcases keyIs_shape (show keyIs (Sum.inl y) v = true from e2) with ⟨i, t, ek, ev⟩ | ⟨z, t, ek, ev⟩
      · cases ek
        exact ⟨y, t, rfl, ev⟩
      · cases ek
  have I1 : Inv X pins σ H { s with heap := h', toks := tk } := I.kept hk
  refine wpAny_bind (wpAny_newList ?_ (by rw [hal]; exact h64))
  have hoL : (h'.push (seqObj "list" acc.toList.toArray 0)).get? h'.objs.size = some (seqObj "list" acc.toList.toArray 0) := Heap.get?_push_size _ rfl
  show wpAny _ _ _ _ _ { s with heap := h'.push (seqObj "list" acc.toList.toArray 0), toks := tk }
  refine wpAny_bind (wpAny_holding (wpAny_call_entry PyProof.Rows.slot_list_sort ⟨_, hoL, rfl⟩ PyProof.Rows.entry_list_sort
    (SrtO.list_sort_ord (s := { s with heap := h'.push (seqObj "list" acc.toList.toArray 0), toks := tk }) SrtO.swo_int hoL (by rw [hal]; exact h64) (fun h2 => SrtO.ints_sortable hS h2) fun out h1 h2 => ⟨_, rfl, ?_⟩) (PyProof.Rows.args_list_sort _)))
  obtain ⟨k1, k2, k3⟩ := SrtO.ints_out hS h1 h2
  obtain ⟨e', he'⟩ := PyProof.Rows.sortedHeap_at (vs := acc.toList) (out := out.toArray) hoL
  have hlen : ((out.map SrtO.iv).map V.int).length ≤ sizeLine := by
    rw [List.length_map, k2.length_eq]
    exact h64
  refine wpAny_pure ⟨_, rfl, .ref h'.objs.size, upd H h'.objs.size (.lst ((out.map SrtO.iv).map V.int)), I1.laid (t' := tk) (fun b u e => ?_) (Nat.le_refl _)
    (show ObjOk X.prog X.w _ _ _ (.lst ((out.map SrtO.iv).map V.int)) from ⟨hlen, out, e', vals_of_ints k1, he'⟩), rfl, q _ _ k2 k3 (I1.hok.fresh (Nat.le_refl _))⟩
  have hb : b < h'.objs.size := Heap.lt_size e
  rw [PyProof.Rows.sortedHeap_old (Nat.ne_of_lt hb) (by rw [size_push']; exact Nat.lt_succ_of_lt hb)]
  exact Heap.get?_push_of_some _ e
end Cu

namespace Cu
open PySem PySem.Spec PyProof.Rows L2
/-- a statement of several ends: what stands behind all of them -/
@[irreducible] def tMid (t : TS) : TS := fun D σ H => ∃ N : L2.St → Hp → Prop, t { D with nx := N } σ H ∧ ∀ σ' H', N σ' H' → D.nx σ' H'
theorem rd_mid {t : TS} {D : Ends} {σ : L2.St} {H : Hp} (N : L2.St → Hp → Prop) (h : t { D with nx := N } σ H) (k : ∀ σ' H', N σ' H' → D.nx σ' H') : tMid t D σ H := by
  unfold tMid
  exact ⟨N, h, k⟩
theorem ps_mid {X : Cx} {st : Stmt} {t : TS} (h : PS X st t) : PS X st (tMid t) := ⟨fun pins s σ H D I hw => by
  unfold tMid at hw
  obtain ⟨N, h1, k⟩ := hw
  refine thn (h.run pins s σ H _ I h1) fun f s1 q => ?_
  cases f with
  | next =>
    obtain ⟨σ', H', I', q⟩ := q
    exact ⟨σ', H', I', k _ _ q⟩
  | brk => exact q
  | cont => exact q
  | ret u => exact q⟩
/-- e, and a list in it, if there is one, from now on never changed -/
@[irreducible] def tFzw (t : TE) : TE := fun σ H Q => t σ H fun v H1 => Q v H1 ∨ ∃ a xs, H1 a = some (.lst xs) ∧ ∀ o, Q v (upd H1 a (.frz o (.lst xs)))
theorem rd_fzw {t : TE} {σ : L2.St} {H : Hp} {Q : VK} (h : t σ H fun v H1 => Q v H1 ∨ ∃ a xs, H1 a = some (.lst xs) ∧ ∀ o, Q v (upd H1 a (.frz o (.lst xs)))) : tFzw t σ H Q := by
  unfold tFzw
  exact h
theorem pe_fzw {X : Cx} {e : Expr} {t : TE} (h : PE X e t) : PE X e (tFzw t) := ⟨fun pins s σ H Q I hw => by
  unfold tFzw at hw
  refine thn (h.run pins s σ H _ I hw) fun u s1 ⟨v, H1, I1, r, q⟩ => ?_
  rcases q with q | ⟨a, xs, ha, q⟩
  · exact ⟨_, _, I1, r, q⟩
  · obtain ⟨od, I2⟩ := I1.lock ha trivial
    exact ⟨_, _, I2, r, q od⟩⟩
end Cu

namespace Cu
open PySem PySem.Spec PyProof.Rows L2
/-! rules for a comprehension's element: the written part by its own name -/
section
variable {X : Cx} {tg e o l : Expr} {f : Str} {pos : Pos} {ta tl : TE}
theorem ix_listK (K : PySem.W.Frag) (h : X.K = K) : IxR X (rIxL K) := h ▸ ix_list
theorem ix_tupK (K : PySem.W.Frag) (h : X.K = K) : IxR X (rIxT K) := h ▸ ix_tup
theorem sl_listK (K : PySem.W.Frag) (h : X.K = K) : SlR X (rSlL K) := h ▸ sl_list
theorem op_eqDK (K : PySem.W.Frag) (h : X.K = K) (hu : X.A.units + 64 < cLine) : OpR X (compareOp .Eq) (rEqD K) := h ▸ op_eqD hu
theorem op_neDK (K : PySem.W.Frag) (h : X.K = K) (hu : X.A.units + 64 < cLine) : OpR X (compareOp .NotEq) (rNeD K) := h ▸ op_neD hu
theorem op_in_seqK (K : PySem.W.Frag) (h : X.K = K) : OpR X (compareOp .In) (rIn K false) := h ▸ op_in_seq
theorem op_notIn_seqK (K : PySem.W.Frag) (h : X.K = K) : OpR X (compareOp .NotIn) (rIn K true) := h ▸ op_notIn_seq
theorem call_len_seqK (K : PySem.W.Frag) (h : X.K = K) : CallR X (.builtin "len") (fun xs H Q => ∃ p ys, xs = [.ref p] ∧ (SqL K H p ys ∨ SqT K H p ys) ∧ Q (.int ys.length) H) := h ▸ call_len_seq
theorem call_list_ofK (K : PySem.W.Frag) (h : X.K = K) : CallR X (.type "list") (fun xs H Q => ∃ p ys, xs = [.ref p] ∧ (SqL K H p ys ∨ SqT K H p ys) ∧ ∀ l, H l = none → Q (.ref l) (upd H l (.lst ys))) := h ▸ call_list_of
theorem call_tuple_ofK (K : PySem.W.Frag) (h : X.K = K) : CallR X (.type "tuple") (fun xs H Q => ∃ p ys, xs = [.ref p] ∧ ((SqL K H p ys ∧ ∀ l, H l = none → Q (.ref l) (upd H l (.tup ys))) ∨ (SqT K H p ys ∧ Q (.ref p) H))) := h ▸ call_tuple_of
theorem cr_sumK (K : PySem.W.Frag) (h : X.K = K) (hc : X.calm = true) : CallR X (.builtin "sum") (rSum K) := h ▸ cr_sum hc
theorem cr_minK' (K : PySem.W.Frag) (h : X.K = K) (hc : X.calm = true) : CallR X (.builtin "min") (rMin K) := h ▸ cr_min hc
theorem cr_maxK' (K : PySem.W.Frag) (h : X.K = K) (hc : X.calm = true) : CallR X (.builtin "max") (rMax K) := h ▸ cr_max hc
theorem cr_sortedIK (K : PySem.W.Frag) (h : X.K = K) : CallR X (.builtin "sorted") (rSortedI K) := h ▸ cr_sortedI
theorem pi_listK (K : PySem.W.Frag) (h : X.K = K) (hl : PE X l tl) : PI X tg l (iList K tl) := h ▸ pi_list hl
theorem pe_fldK (K : PySem.W.Frag) (h : X.K = K) (he : PE X e ta) (hb : attributeBase e f X.env (eval e X.env) = eval e X.env) : PE X (.Attribute e f pos) (tFld K ta f) := h ▸ pe_fld he hb
end
end Cu

namespace Cu
open PySem PySem.Spec PyProof.Rows L2
abbrev s_dice : Stmt := (top 20)
theorem sc_dice : FnScope ["_law_script", "_law_mixed_here", "_law_cell"] ["_law_script"] (defScope s_dice) := ⟨rfl, rfl, rfl, by decide +kernel, rfl, by decide +kernel, by decide +kernel⟩

abbrev s_next : Stmt := (top 21)
theorem sc_next : FnScope ["_law_dice_here", "_law_many", "_law_found", "_law_cell"] ["_law_dice_here", "_law_many"] (defScope s_next) := ⟨rfl, rfl, rfl, by decide +kernel, rfl, by decide +kernel, by decide +kernel⟩

def spDice (K : PySem.W.Frag) : Sp := fun vs H Q _ => vs.length = 1 ∧ ∃ (c : Addr) (ns : List Int) (R : Lg), vs = [.ref c] ∧ ns.length ≤ 1000 ∧ FzL K H c (ns.map V.int) ∧ Has H R ∧
  ∀ (a : Addr) (H' : Hp), Mono H H' → Dice K H' a R → Q (.ref a) H'
def spNext (K : PySem.W.Frag) : Sp := fun vs H Q _ => vs.length = 2 ∧ ∃ (a : Addr) (m : Int) (R : Lg), vs = [.ref a, .int m] ∧ 0 < m ∧ m ≤ 1000000000000000000 ∧ Dice K H a R ∧
  ∀ (r : Int) (H' : Hp), 0 ≤ r → r < m → Mono H H' → Dice K H' a R → Q (.int r) H'
section
variable {P : Program} {w : World} {K : PySem.W.Frag} {mg : Str → Option Value} {base : Heap}
theorem ok_dice (F : Fd K mg "_law_dice" s_dice) (Bm : Blt mg) : Gf P w K mg base 1 "_law_dice" ["_law_script"] (spDice K) := by
  refine F.ok sc_dice (fun _ _ _ _ _ _ us hl => match us, hl with | [_], _ => rfl) len_of fun qual f cdv A outer s H vs Q E hr h => ?_
  obtain ⟨_, c, ns, R, rfl, hn, hf, hR, k⟩ := h
  refine ⟨_, (pss_cons (ps_set (i := 1) sc_dice.nd rfl (Or.inl rfl) pe_int)
      (pss_cons (ps_for PassesOwn.never rfl (pi_list (pv 0)) (pg_name (i := 2) sc_dice.nd rfl (Or.inl rfl))
        (pss_one (ps_set (i := 1) sc_dice.nd rfl (Or.inl rfl) (pe_op op_mod (pe_op op_add (pe_op op_add (pe_op op_mul (pv 1) pe_int) (pe_op op_mul (pe_op op_mod (pv 2) pe_int) pe_int)) pe_int) pe_int))))
      (pss_one (ps_ret (pe_lst (pa_cons (pv 0) (pa_cons pe_int (pa_cons (pe_op op_mul (pv 1) (pe_callTy call_int1 rfl Bm.int (by decide +kernel) (pa_cons (pe_cmpR op_gt (pe_callB call_len_seq rfl Bm.len (by decide +kernel) (pa_cons (pv 0) pa_nil)) pe_int (nomark _)) pa_nil))) (pa_cons pe_int pa_nil))))))))), ?_⟩
  refine ⟨_, rfl, c, rfl, ⟨_, hf.sq⟩, for_list (K := K) (a := c) (xs := ns.map V.int) (fun i σ H2 => ∃ (z : Int) (v : Option V), σ = [some (.ref c), some (.int z), v] ∧ H2 = H) ⟨0, none, rfl, rfl⟩ (fun i σ H2 _ ⟨_, _, _, e⟩ => by rw [e]; exact hf.sq) ?_ ?_⟩
  · rintro i x σ H2 hi ⟨z, v, rfl, rfl⟩
    obtain ⟨y, rfl⟩ : ∃ y, x = V.int y := by
      rw [List.getElem?_map] at hi
      cases e : ns[i]? with
      | none =>
        rw [e] at hi
        cases hi
      | some y =>
        rw [e] at hi
        exact ⟨y, (Option.some.inj hi).symm⟩
    refine ⟨_, rfl, _, _, rfl, rfl, .inr ⟨by decide, by decide⟩, _, rfl, _, _, rfl, rfl, (by show (0 : Int) < 2147483647; decide), _, _, rfl, rfl, .inr ⟨by decide, by decide⟩, _, _, rfl, rfl, _, _, rfl, rfl, _, _, rfl, rfl, (by show (0 : Int) < 2147483647; decide), ?_⟩
    exact ⟨_, _, rfl, rfl⟩
  · rintro σ H2 ⟨z, v, rfl, rfl⟩
    refine ⟨_, rfl, _, rfl, _, rfl, c, _, rfl, .inl hf.sq, _, _, rfl, rfl, .inr ⟨_, rfl, _, _, rfl, rfl, .inr (by split <;> exact ⟨by decide, by decide⟩), ?_⟩⟩
    refine ⟨(by show 4 ≤ sizeLine; decide), fun l hl => ?_⟩
    exact k l _ (Mono.new hl) ⟨c, ns, _, _, _, Int.le_refl 0, hn, hf.mono (Mono.new hl), hR.new hl nl⟩
theorem ok_next (F : Fd K mg "_law_next" s_next) (Bm : Blt mg) : Gf P w K mg base 1 "_law_next" ["_law_dice_here", "_law_many"] (spNext K) := by
  refine F.ok sc_next (fun _ _ _ _ _ _ us hl => match us, hl with | [_, _], _ => rfl) len_of fun qual f cdv A outer s H vs Q E hr h => ?_
  obtain ⟨_, a, m, R, rfl, hm, hm2, ⟨c, ns, i, mx, r, hi, hn, hf, hh⟩, k⟩ := h
  have hdiv : CDivW 0 m := wide_div hm (wide_le (j := 1000000000000000000) (a := 60) (by omega) (by omega) (by decide)) (by decide) (by decide)
  refine ⟨_, (pss_cons (ps_if (pt_cmpR op_gt (pe_ix ix_list (pv 0) pe_int (fun _ _ => rfl)) pe_int (nomark _))
        (pss_cons (ps_set (i := 2) sc_next.nd rfl (Or.inl rfl) (pe_op op_mod (pe_ix ix_list (pv 0) pe_int (fun _ _ => rfl)) (pv 1)))
        (pss_cons (ps_asg (pe_op op_fdivW (pe_ix ix_list (pv 0) pe_int (fun _ _ => rfl)) (pv 1)) (pg_sub (pv 0) pe_int set_list))
        (pss_one (ps_ret (pv 2)))))
        pss_nil)
      (pss_cons (ps_asg (pe_op op_add (pe_ix ix_list (pv 0) pe_int (fun _ _ => rfl)) pe_int) (pg_sub (pv 0) pe_int set_list))
      (pss_cons (ps_if (pt_cmpR op_le (pe_ix ix_list (pv 0) pe_int (fun _ _ => rfl)) (pe_callB call_len_seq rfl Bm.len (by decide +kernel) (pa_cons (pe_ix ix_list (pv 0) pe_int (fun _ _ => rfl)) pa_nil)) (nomark _))
        (pss_cons (ps_set (i := 3) sc_next.nd rfl (Or.inl rfl) (pe_ix ix_list (pe_ix ix_list (pv 0) pe_int (fun _ _ => rfl)) (pe_op op_sub (pe_ix ix_list (pv 0) pe_int (fun _ _ => rfl)) pe_int) (fun _ _ => rfl)))
        (pss_cons (ps_asg (pe_ifExp (pt_cmpR op_ge (pv 3) (pe_op op_pow pe_int pe_int) (nomark _)) (pe_op op_fdivW (pv 3) (pv 1)) pe_int) (pg_sub (pv 0) pe_int set_list))
        (pss_one (ps_ret (pe_op op_mod (pv 3) (pv 1))))))
        pss_nil)
      (pss_cons (ps_asg (pe_op op_mod (pe_op op_mul (pe_ix ix_list (pv 0) pe_int (fun _ _ => rfl)) pe_int) pe_int) (pg_sub (pv 0) pe_int set_list))
      (pss_one (ps_ret (pe_op op_mod (pe_op op_fdivW (pe_ix ix_list (pv 0) pe_int (fun _ _ => rfl)) pe_int) (pv 1)))))))), ?_⟩
  have h0 := hh.head
  refine ⟨_, rfl, _, _, _, _, rfl, rfl, SqL.of h0, rfl, _, _, rfl, rfl, _, rfl, ite2 (fun hr0 => ?_) fun hr0 => ?_⟩
  · refine ⟨_, rfl, _, _, _, _, rfl, rfl, SqL.of h0, rfl, _, rfl, _, _, rfl, rfl, hm, ?_⟩
    refine ⟨_, rfl, _, _, _, _, rfl, rfl, SqL.of h0, rfl, _, rfl, _, _, rfl, rfl, hdiv, _, rfl, _, _, _, _, rfl, rfl, h0, rfl, _, rfl, ?_⟩
    exact k _ _ (Int.emod_nonneg _ (by omega)) (Int.emod_lt_of_pos _ hm) hh.mono_put ⟨c, ns, i, mx, r / m, hi, hn, hf.mono hh.mono_put, hh.put nl⟩
  · refine ⟨_, rfl, _, _, _, _, rfl, rfl, SqL.of h0, rfl, _, _, rfl, rfl, _, rfl, _, _, _, _, rfl, rfl, h0, rfl, ?_⟩
    have h1 : Has (upd H a (.lst [.ref c, .int (i + 1), .int mx, .int r])) ((a, .lst [.ref c, .int (i + 1), .int mx, .int r]) :: R) := hh.put nl
    have m1 : Mono H (upd H a (.lst [.ref c, .int (i + 1), .int mx, .int r])) := hh.mono_put
    have f1 := hf.mono m1
    have e1 := h1.head
    refine ⟨_, rfl, _, _, _, _, rfl, rfl, SqL.of e1, rfl, _, rfl, _, _, _, _, rfl, rfl, SqL.of e1, rfl, c, _, rfl, .inl f1.sq, _, _, rfl, rfl, _, rfl, ite2 (fun hle => ?_) fun hle => ?_⟩
    · have hle' : i + 1 ≤ (ns.length : Int) := by
        have := of_decide_eq_true hle
        rw [List.length_map] at this
        exact this
      have hj : i.toNat < ns.length := by omega
      have hat : atI (ns.map V.int) (i + 1 - 1) = some (V.int ns[i.toNat]) := at_of (j := i.toNat) (by omega) (by rw [List.getElem?_map, List.getElem?_eq_getElem hj]; rfl)
      refine ⟨_, rfl, _, _, _, _, rfl, rfl, SqL.of e1, rfl, _, rfl, _, _, _, _, rfl, rfl, SqL.of e1, rfl, _, _, rfl, rfl, c, _, _, _, rfl, rfl, f1.sq, hat, ?_⟩
      refine ⟨_, rfl, _, _, rfl, rfl, ⟨by decide, by decide, by decide⟩, _, _, rfl, rfl, _, rfl, ite2 (fun hb => ?_) fun hb => ?_⟩
      · refine ⟨_, rfl, _, rfl, _, _, rfl, rfl, hdiv, _, rfl, _, _, _, _, rfl, rfl, e1, rfl, _, rfl, _, rfl, _, _, rfl, rfl, hm, ?_⟩
        exact k _ _ (Int.emod_nonneg _ (by omega)) (Int.emod_lt_of_pos _ hm) (m1.trans h1.mono_put) ⟨c, ns, i + 1, mx, ns[i.toNat] / m, by omega, hn, f1.mono h1.mono_put, h1.put nl⟩
      · refine ⟨_, rfl, _, _, _, _, rfl, rfl, e1, rfl, _, rfl, _, rfl, _, _, rfl, rfl, hm, ?_⟩
        exact k _ _ (Int.emod_nonneg _ (by omega)) (Int.emod_lt_of_pos _ hm) (m1.trans h1.mono_put) ⟨c, ns, i + 1, mx, 0, by omega, hn, f1.mono h1.mono_put, h1.put nl⟩
    · refine ⟨_, rfl, _, _, _, _, rfl, rfl, SqL.of e1, rfl, _, _, rfl, rfl, .inr ⟨by decide, by decide⟩, _, _, rfl, rfl, (by show (0 : Int) < 2147483647; decide), _, rfl, _, _, _, _, rfl, rfl, e1, rfl, ?_⟩
      have h2 := h1.put (o' := .lst [.ref c, .int (i + 1), .int (mx * 48271 % 2147483647), .int r]) nl
      have e2 := h2.head
      refine ⟨_, rfl, _, _, _, _, rfl, rfl, SqL.of e2, rfl, _, _, rfl, rfl, ⟨by decide, by decide⟩, _, rfl, _, _, rfl, rfl, hm, ?_⟩
      exact k _ _ (Int.emod_nonneg _ (by omega)) (Int.emod_lt_of_pos _ hm) (m1.trans h1.mono_put) ⟨c, ns, i + 1, _, r, by omega, hn, f1.mono h1.mono_put, h2⟩
end
end Cu

namespace Cu
open PySem PySem.Spec PyProof.Rows L2
abbrev s_worth : Stmt := (top 22)
theorem sc_worth : FnScope ["_law_d"] ["_law_d"] (defScope s_worth) := ⟨rfl, rfl, rfl, by decide +kernel, rfl, by decide +kernel, by decide +kernel⟩

abbrev s_changes : Stmt := (top 24)
theorem sc_changes : FnScope ["_law_d", "_law_keys", "_law_most", "_law_often", "_law_few", "_law_found", "_law_k", "_law_word"] ["_law_d", "_law_keys", "_law_most"] (defScope s_changes) := ⟨rfl, rfl, rfl, by decide +kernel, rfl, by decide +kernel, by decide +kernel⟩

theorem at_some {xs : List V} {r : Int} (h0 : 0 ≤ r) (h1 : r < (xs.length : Int)) : ∃ v, atI xs r = some v ∧ v ∈ xs := by
  have hj : r.toNat < xs.length := by omega
  exact ⟨xs[r.toNat], at_of (j := r.toNat) (by omega) (List.getElem?_eq_getElem hj), List.getElem_mem hj⟩
/-- a change as it is drawn -/
structure Ch where
  key : Nat
  set : Bool
  worth : Int
def wd (b : Bool) : Str := if b then "set" else "add"
def Ch.enc (c : Ch) : PyData := .tuple [.int c.key, .str (wd c.set), .int c.worth]
def spWorth (K : PySem.W.Frag) : Sp := fun vs H Q _ => vs.length = 1 ∧ ∃ (a : Addr) (R : Lg), vs = [.ref a] ∧ Dice K H a R ∧ ∀ (z : Int) (H' : Hp), Mono H H' → Dice K H' a R → Q (.int z) H'
def spChanges (K : PySem.W.Frag) : Sp := fun vs H Q _ => vs.length = 3 ∧ ∃ (a : Addr) (nk mo : Nat) (R : Lg), vs = [.ref a, .int nk, .int mo] ∧ 0 < nk ∧ nk ≤ 8 ∧ mo ≤ 1000 ∧ Dice K H a R ∧
  ∀ (cs : List Ch) (v : V) (H' : Hp), cs.length ≤ mo → (∀ c ∈ cs, c.key < nk) → Mono H H' → Dice K H' a R → Rp K H' (.list (cs.map Ch.enc)) v → Q v H'
section
variable {P : Program} {w : World} {K : PySem.W.Frag} {mg : Str → Option Value} {base : Heap}
theorem ok_worth (F : Fd K mg "_law_worth" s_worth) (Bm : Blt mg) (g_next : Gf P w K mg base 1 "_law_next" ["_law_dice_here", "_law_many"] (spNext K)) : Gf P w K mg base 2 "_law_worth" ["_law_d"] (spWorth K) := by
  refine F.ok sc_worth (fun _ _ _ _ _ _ us hl => match us, hl with | [_], _ => rfl) len_of fun qual f cdv A outer s H vs Q E hr h => ?_
  obtain ⟨_, a, R, rfl, d, k⟩ := h
  refine ⟨_, (pss_one (ps_ret (pe_ix ix_list (pe_lst (pa_cons (pe_op op_sub (pc g_next hr (pa_cons (pv 0) (pa_cons pe_int pa_nil))) pe_int) (pa_cons (pe_op op_sub (pc g_next hr (pa_cons (pv 0) (pa_cons pe_int pa_nil))) pe_int) (pa_cons (pc g_next hr (pa_cons (pv 0) (pa_cons (pe_op op_pow pe_int pe_int) pa_nil))) pa_nil)))) (pc g_next hr (pa_cons (pv 0) (pa_cons pe_int pa_nil))) (fun _ _ => rfl)))), ?_⟩
  refine ⟨_, rfl, rfl, a, 5, R, rfl, by decide, by decide, d, fun r1 H1 _ _ m1 d1 => ⟨_, _, rfl, rfl, ?_⟩⟩
  refine ⟨_, rfl, rfl, a, 2000, R, rfl, by decide, by decide, d1, fun r2 H2 _ _ m2 d2 => ⟨_, _, rfl, rfl, ?_⟩⟩
  refine ⟨_, rfl, _, _, rfl, rfl, ⟨by decide, by decide, by decide⟩, rfl, a, 1000000000000000000, R, rfl, by decide, by decide, d2, fun r3 H3 _ _ m3 d3 => ⟨(by show 3 ≤ sizeLine; decide), fun p hp => ?_⟩⟩
  refine ⟨_, rfl, rfl, a, 3, _, rfl, by decide, by decide, d3.new (o := .lst [.int (r1 - 1), .int (r2 - 1000), .int r3]) hp nl, fun r4 H4 h0 h1 m4 d4 => ?_⟩
  obtain ⟨v, hv, hm⟩ := at_some (xs := [.int (r1 - 1), .int (r2 - 1000), .int r3]) h0 h1
  obtain ⟨z, rfl⟩ : ∃ z, v = V.int z := by
    simp only [List.mem_cons, List.not_mem_nil, or_false] at hm
    rcases hm with e | e | e <;> exact ⟨_, e⟩
  exact ⟨_, _, _, _, rfl, rfl, SqL.of d4.at_, hv, k z H4 ((((m1.trans m2).trans m3).trans (Mono.new hp)).trans m4) d4.tail⟩
theorem ok_changes (F : Fd K mg "_law_changes" s_changes) (Bm : Blt mg) (g_next : Gf P w K mg base 1 "_law_next" ["_law_dice_here", "_law_many"] (spNext K)) (g_worth : Gf P w K mg base 2 "_law_worth" ["_law_d"] (spWorth K)) :
    Gf P w K mg base 3 "_law_changes" ["_law_d", "_law_keys", "_law_most"] (spChanges K) := by
  refine F.ok sc_changes (fun _ _ _ _ _ _ us hl => match us, hl with | [_, _, _], _ => rfl) len_of fun qual f cdv A outer s H vs Q E hr h => ?_
  obtain ⟨_, a, nk, mo, R, rfl, hk, hk8, hmo, d, k⟩ := h
  refine ⟨_, (pss_cons (ps_set (i := 3) sc_changes.nd rfl (Or.inl rfl) (pe_op op_add pe_int (pc g_next hr (pa_cons (pv 0) (pa_cons pe_int pa_nil)))))
      (pss_cons (ps_set (i := 4) sc_changes.nd rfl (Or.inl rfl) (pe_op op_add pe_int (pc g_next hr (pa_cons (pv 0) (pa_cons (pv 1) pa_nil)))))
      (pss_cons (ps_set (i := 5) sc_changes.nd rfl (Or.inl rfl) (pe_lst pa_nil))
      (pss_cons (ps_for PassesOwn.never rfl (pi_range1 rfl Bm.range (pa_cons (pc g_next hr (pa_cons (pv 0) (pa_cons (pe_op op_add (pv 2) pe_int) pa_nil))) pa_nil)) (pg_name (i := 6) sc_changes.nd rfl (Or.inl rfl))
        (pss_cons (ps_set (i := 7) sc_changes.nd rfl (Or.inl rfl) (pe_ix ix_list (pe_lst (pa_cons pe_str (pa_cons pe_str pa_nil))) (pe_callTy call_int1 rfl Bm.int (by decide +kernel) (pa_cons (pe_cmpR op_eq (pc g_next hr (pa_cons (pv 0) (pa_cons (pv 3) pa_nil))) pe_int (nomark _)) pa_nil)) (fun _ _ => rfl)))
        (pss_one (ps_expr (pe_bm PySem.F.plainAttrs_list PySem.F.slot_list_append PySem.F.type_list_append mt_append (pv 5) (pa_cons (pe_tup (pa_cons (pc g_next hr (pa_cons (pv 0) (pa_cons (pe_ix ix_list (pe_lst (pa_cons (pv 4) (pa_cons (pv 4) (pa_cons (pv 1) pa_nil)))) (pc g_next hr (pa_cons (pv 0) (pa_cons pe_int pa_nil))) (fun _ _ => rfl)) pa_nil))) (pa_cons (pv 7) (pa_cons (pc g_worth hr (pa_cons (pv 0) pa_nil)) pa_nil)))) pa_nil))))))
      (pss_one (ps_ret (pe_fz (pv 5)))))))), ?_⟩
  refine ⟨_, rfl, rfl, a, 4, R, rfl, by decide, by decide, d, fun r1 H1 p1 q1 m1 d1 => ⟨_, _, rfl, rfl, ?_⟩⟩
  refine ⟨_, rfl, _, rfl, rfl, a, nk, R, rfl, by omega, by omega, d1, fun r2 H2 p2 q2 m2 d2 => ⟨_, _, rfl, rfl, ?_⟩⟩
  refine ⟨(by show 0 ≤ sizeLine; decide), fun p hp => ?_⟩
  have d3 := d2.new (o := .lst []) hp nl
  have m3 := (m1.trans m2).trans (Mono.new (o := .lst []) hp)
  refine ⟨_, rfl, _, rfl, _, _, rfl, rfl, rfl, a, mo + 1, _, rfl, by omega, by omega, d3, fun r4 H4 p4 q4 m4 d4 => ⟨_, rfl, by omega, by omega, ?_⟩⟩
  refine for_range (lo := 0) (n := r4.toNat) (fun i σ H5 => ∃ (cs : List Ch) (xs : List V) (v6 v7 : Option V), σ = [some (.ref a), some (.int nk), some (.int mo), some (.int (1 + r1)), some (.int (1 + r2)), some (.ref p), v6, v7] ∧
    Mono H H5 ∧ Dice K H5 a ((p, .lst xs) :: R) ∧ RpL K H5 (cs.map Ch.enc) xs ∧ cs.length = i ∧ ∀ c ∈ cs, c.key < nk)
    ⟨[], [], none, none, rfl, m3.trans m4, d4, .nil, rfl, fun _ h => (nomatch h)⟩ ?_ ?_
  · rintro i σ H5 hi ⟨cs, xs, v6, v7, rfl, m5, d5, rp, hl, hc⟩
    refine ⟨(by show 2 ≤ sizeLine; decide), fun l hl2 => ?_⟩
    have d6 := d5.new (o := .lst [.str "add", .str "set"]) hl2 nl
    refine ⟨_, rfl, _, rfl, rfl, a, _, _, rfl, by omega, by omega, d6, fun r6 H6 _ _ m6 d7 => ⟨rfl, .inr ⟨_, rfl, ?_⟩⟩⟩
    have d8 := d7.tail
    have m8 := (Mono.new (o := .lst [.str "add", .str "set"]) hl2).trans m6
    refine ⟨_, _, _, .str (wd (decide (V.int r6 = V.int 0))), rfl, rfl, SqL.of d7.at_, (by cases decide (V.int r6 = V.int 0) <;> rfl), ?_⟩
    refine ⟨_, rfl, .inl ⟨rfl, _, SqL.of d8.at_⟩, _, rfl, _, rfl, _, rfl, _, rfl, ⟨(by show 3 ≤ sizeLine; decide), fun l2 hl3 => ?_⟩⟩
    have d9 := d8.new (o := .lst [.int (1 + r2), .int (1 + r2), .int nk]) hl3 nl
    refine ⟨_, rfl, rfl, a, 3, _, rfl, by decide, by decide, d9, fun r9 H9 p9 q9 m9 d10 => ?_⟩
    obtain ⟨v, hv, hm⟩ := at_some (xs := [.int (1 + r2), .int (1 + r2), .int nk]) p9 q9
    obtain ⟨z, rfl, hz0, hzk⟩ : ∃ z, v = V.int z ∧ 0 < z ∧ z ≤ nk := by
      simp only [List.mem_cons, List.not_mem_nil, or_false] at hm
      rcases hm with e | e | e
      · exact ⟨_, e, by omega, by omega⟩
      · exact ⟨_, e, by omega, by omega⟩
      · exact ⟨_, e, by omega, by omega⟩
    refine ⟨_, _, _, _, rfl, rfl, SqL.of d10.at_, hv, rfl, a, z, _, rfl, hz0, by omega, d10.tail, fun r11 H11 p11 q11 m11 d11 => ?_⟩
    refine ⟨_, rfl, _, rfl, rfl, a, _, rfl, d11, fun z12 H12 m12 d12 => ⟨(by show 3 ≤ sizeLine; decide), fun t ht => ?_⟩⟩
    have ms := (((m8.trans (Mono.new (o := .lst [.int (1 + r2), .int (1 + r2), .int nk]) hl3)).trans m9).trans m11).trans m12
    have d13 := d12.old (o := .tup [.int r11, .str (wd (decide (V.int r6 = V.int 0))), .int z12]) ht
    have mt : Mono H12 (upd H12 t (.tup [.int r11, .str (wd (decide (V.int r6 = V.int 0))), .int z12])) := Mono.new ht
    have hxs : xs.length = i := by rw [rp.length, List.length_map, hl]
    refine ⟨_, _, _, rfl, rfl, d13.at_, (by rw [hxs]; exact small1000 (by omega)), ?_⟩
    refine ⟨cs ++ [⟨r11.toNat, decide (V.int r6 = V.int 0), z12⟩], _, _, _, rfl, ((m5.trans ms).trans mt).trans d13.mput, d13.put nl, ?_, by rw [List.length_append, hl]; rfl, fun c hcm => ?_⟩
    · rw [List.map_append]
      refine ((rp.mono ((ms.trans mt).trans d13.mput)).append (.cons ?_ .nil))
      have e : ((r11.toNat : Nat) : Int) = r11 := by omega
      refine Rp.tup (d13.mput _ _ upd_same trivial) ?_
      show RpL K _ [.int ((r11.toNat : Nat) : Int), _, _] _
      rw [e]
      exact .cons .int (.cons .str (.cons .int .nil))
    · rcases List.mem_append.mp hcm with h | h
      · exact hc c h
      · rw [List.mem_singleton.mp h]
        show r11.toNat < nk
        omega
  · rintro σ H5 ⟨cs, xs, v6, v7, rfl, m5, d5, rp, hl, hc⟩
    refine rd_fz ⟨_, rfl, p, xs, rfl, d5.at_, fun o => ?_⟩
    exact k cs _ _ (by omega) hc (m5.trans d5.mfz) d5.fz (.lst FzL.frz (rp.mono d5.mfz))
end
end Cu

namespace Cu
open PySem PySem.Spec PyProof.Rows L2
/-! a story: worths and lasts behind changes, rows, letters -/
def wst (k : Nat) (w : Int) (c : Ch) : Int := if c.key = k then (if c.set then 0 else w) + c.worth else w
def wofR : List Ch → Nat → Int
  | [], _ => 0
  | c :: r, k => wst k (wofR r k) c
def lofR : List Ch → Nat → Nat
  | [], _ => 0
  | c :: r, k => if c.key = k then r.length + 1 else lofR r k
def wof (cs : List Ch) (k : Nat) : Int := wofR cs.reverse k
def lof (cs : List Ch) (k : Nat) : Nat := lofR cs.reverse k
theorem wof_nil (k : Nat) : wof [] k = 0 := rfl
theorem lof_nil (k : Nat) : lof [] k = 0 := rfl
theorem wof_snoc (cs : List Ch) (c : Ch) (k : Nat) : wof (cs ++ [c]) k = wst k (wof cs k) c := by
  unfold wof
  rw [List.reverse_append]
  rfl
theorem lof_snoc (cs : List Ch) (c : Ch) (k : Nat) : lof (cs ++ [c]) k = if c.key = k then cs.length + 1 else lof cs k := by
  unfold lof
  rw [List.reverse_append]
  show (if c.key = k then cs.reverse.length + 1 else lofR cs.reverse k) = _
  rw [List.length_reverse]
def wrow (nk : Nat) (cs : List Ch) : List Int := (List.range nk).map (wof cs)
def lrow (nk : Nat) (cs : List Ch) : List Int := (List.range nk).map fun k => (lof cs k : Int)
def ilst (ns : List Int) : PyData := .list (ns.map PyData.int)
def rowD (nk : Nat) (cs : List Ch) : PyData := .tuple [ilst (wrow nk cs), ilst (lrow nk cs)]
inductive Letter where
  | change (n : Nat) (c : Ch) (ahead : Nat)
  | part (n b : Nat) (rows : List (Int × Nat))
  | beat (n : Nat) (lasts : List Nat)
def Letter.enc : Letter → PyData
  | .change n c ahead => .tuple [.str "change", .int n, .int c.key, .str (wd c.set), .int c.worth, .int ahead]
  | .part n b rows => .tuple [.str "part", .int n, .int b, .tuple (rows.map fun r => .tuple [.int r.1, .int r.2])]
  | .beat n lasts => .tuple [.str "beat", .int n, .tuple (lasts.map fun k : Nat => .int k)]
def letsR : List Ch → List Letter
  | [] => []
  | c :: r => letsR r ++ [.change (r.length + 1) c (lofR r c.key)]
def rowsR (nk : Nat) : List Ch → List PyData
  | [] => [rowD nk []]
  | c :: r => rowsR nk r ++ [rowD nk (c :: r).reverse]
def lets (cs : List Ch) : List Letter := letsR cs.reverse
def rowsD (nk : Nat) (cs : List Ch) : List PyData := rowsR nk cs.reverse
theorem lets_nil : lets [] = [] := rfl
theorem lets_snoc (cs : List Ch) (c : Ch) : lets (cs ++ [c]) = lets cs ++ [.change (cs.length + 1) c (lof cs c.key)] := by
  unfold lets lof
  rw [List.reverse_append]
  show letsR cs.reverse ++ [Letter.change (cs.reverse.length + 1) c (lofR cs.reverse c.key)] = _
  rw [List.length_reverse]
theorem rowsD_nil (nk : Nat) : rowsD nk [] = [rowD nk []] := rfl
theorem rowsD_snoc (nk : Nat) (cs : List Ch) (c : Ch) : rowsD nk (cs ++ [c]) = rowsD nk cs ++ [rowD nk (cs ++ [c])] := by
  unfold rowsD
  rw [List.reverse_append]
  show rowsR nk cs.reverse ++ [rowD nk (c :: cs.reverse).reverse] = _
  rw [List.reverse_cons, List.reverse_reverse]
theorem snoc_ind {α : Type} {p : List α → Prop} (h0 : p []) (h1 : ∀ xs x, p xs → p (xs ++ [x])) (xs : List α) : p xs := by
  have q : ∀ ys : List α, p ys.reverse := fun ys => by
    induction ys with
    | nil => exact h0
    | cons y ys ih =>
      rw [List.reverse_cons]
      exact h1 _ _ ih
  have := q xs.reverse
  rwa [List.reverse_reverse] at this
theorem rowsD_last (nk : Nat) (cs : List Ch) : ∃ init, rowsD nk cs = init ++ [rowD nk cs] := by
  induction cs using snoc_ind with
  | h0 => exact ⟨[], rfl⟩
  | h1 cs c _ => exact ⟨_, rowsD_snoc nk cs c⟩
theorem rowsD_length (nk : Nat) (cs : List Ch) : (rowsD nk cs).length = cs.length + 1 := by
  induction cs using snoc_ind with
  | h0 => rfl
  | h1 cs c ih => rw [rowsD_snoc, List.length_append, ih, List.length_append]; rfl
theorem lets_length (cs : List Ch) : (lets cs).length = cs.length := by
  induction cs using snoc_ind with
  | h0 => rfl
  | h1 cs c ih => rw [lets_snoc, List.length_append, ih, List.length_append]; rfl
theorem rowsD_get {nk : Nat} : ∀ {cs : List Ch} {n : Nat}, n ≤ cs.length → (rowsD nk cs)[n]? = some (rowD nk (cs.take n)) := by
  intro cs
  induction cs using snoc_ind with
  | h0 =>
    intro n h
    have : n = 0 := by simpa using h
    subst this
    rfl
  | h1 cs c ih =>
    intro n h
    rw [rowsD_snoc]
    rw [List.length_append, List.length_singleton] at h
    by_cases e : n ≤ cs.length
    · rw [List.getElem?_append_left (by rw [rowsD_length]; omega), ih e, List.take_append_of_le_length e]
    · have e1 : n = cs.length + 1 := by omega
      subst e1
      rw [List.getElem?_append_right (by rw [rowsD_length]; exact Nat.le_refl _), rowsD_length, Nat.sub_self, List.take_of_length_le (by simp)]
      rfl
theorem lets_get : ∀ {cs : List Ch} {n : Nat} {c : Ch}, cs[n]? = some c → (lets cs)[n]? = some (.change (n + 1) c (lof (cs.take n) c.key)) := by
  intro cs
  induction cs using snoc_ind with
  | h0 =>
    intro n c h
    simp at h
  | h1 cs d ih =>
    intro n c h
    rw [lets_snoc]
    have hn : n < cs.length + 1 := by
      have := (List.getElem?_eq_some_iff.mp h).1
      simpa using this
    by_cases e : n < cs.length
    · rw [List.getElem?_append_left (by rw [lets_length]; exact e), List.take_append_of_le_length (Nat.le_of_lt e)]
      rw [List.getElem?_append_left e] at h
      exact ih h
    · have e1 : n = cs.length := by omega
      subst e1
      rw [List.getElem?_append_right (Nat.le_refl _), Nat.sub_self] at h
      have e2 : d = c := by simpa using h
      subst e2
      rw [List.getElem?_append_right (by rw [lets_length]; exact Nat.le_refl _), lets_length, Nat.sub_self, List.take_append_of_le_length (Nat.le_refl _), List.take_of_length_le (Nat.le_refl _)]
      rfl
theorem set_cut {α : Type} (xs : List α) (k : Nat) (v : α) (h : k < xs.length) : xs.take k ++ [v] ++ xs.drop (k + 1) = xs.set k v := by
  rw [List.set_eq_take_append_cons_drop, if_pos h, List.append_assoc]
  rfl
theorem wrow_snoc (nk : Nat) (cs : List Ch) (c : Ch) : wrow nk (cs ++ [c]) = (wrow nk cs).set c.key (wst c.key (wof cs c.key) c) := by
  apply List.ext_getElem?
  intro i
  unfold wrow
  rw [List.getElem?_map]
  by_cases hi : i < nk
  · rw [List.getElem?_range hi]
    by_cases e : c.key = i
    · rw [e, List.getElem?_set_self (by simpa using hi)]
      simp [wof_snoc]
    · rw [List.getElem?_set_ne e, List.getElem?_map, List.getElem?_range hi]
      simp [wof_snoc, wst, e]
  · have h1 : (List.range nk)[i]? = none := by simp; omega
    have h2 : ((List.range nk).map (wof cs)).length ≤ i := by simp; omega
    rw [h1, List.getElem?_eq_none (by rw [List.length_set]; exact h2)]
    rfl
theorem lrow_snoc (nk : Nat) (cs : List Ch) (c : Ch) : lrow nk (cs ++ [c]) = (lrow nk cs).set c.key ((cs.length + 1 : Nat) : Int) := by
  apply List.ext_getElem?
  intro i
  unfold lrow
  rw [List.getElem?_map]
  by_cases hi : i < nk
  · rw [List.getElem?_range hi]
    by_cases e : c.key = i
    · rw [e, List.getElem?_set_self (by simpa using hi)]
      simp [lof_snoc, e]
    · rw [List.getElem?_set_ne e, List.getElem?_map, List.getElem?_range hi]
      simp [lof_snoc, e]
  · have h1 : (List.range nk)[i]? = none := by simp; omega
    have h2 : ((List.range nk).map fun k => (lof cs k : Int)).length ≤ i := by simp; omega
    rw [h1, List.getElem?_eq_none (by rw [List.length_set]; exact h2)]
    rfl
theorem wrow_get {nk k : Nat} {cs : List Ch} (h : k < nk) : (wrow nk cs)[k]? = some (wof cs k) := by
  unfold wrow
  rw [List.getElem?_map, List.getElem?_range h]
  rfl
theorem lrow_get {nk k : Nat} {cs : List Ch} (h : k < nk) : (lrow nk cs)[k]? = some (lof cs k : Int) := by
  unfold lrow
  rw [List.getElem?_map, List.getElem?_range h]
  rfl
theorem wrow_len (nk : Nat) (cs : List Ch) : (wrow nk cs).length = nk := by simp [wrow]
theorem lrow_len (nk : Nat) (cs : List Ch) : (lrow nk cs).length = nk := by simp [lrow]
theorem wrow_nil (nk : Nat) : wrow nk [] = List.replicate nk 0 := by
  apply List.ext_getElem?
  intro i
  by_cases hi : i < nk
  · rw [wrow_get hi, List.getElem?_replicate, if_pos hi]
    rfl
  · rw [List.getElem?_eq_none (by rw [wrow_len]; omega), List.getElem?_eq_none (by simp; omega)]
theorem lrow_nil (nk : Nat) : lrow nk [] = List.replicate nk 0 := by
  apply List.ext_getElem?
  intro i
  by_cases hi : i < nk
  · rw [lrow_get hi, List.getElem?_replicate, if_pos hi]
    rfl
  · rw [List.getElem?_eq_none (by rw [lrow_len]; omega), List.getElem?_eq_none (by simp; omega)]
theorem take_snoc {α : Type} {xs : List α} {i : Nat} {x : α} (h : xs[i]? = some x) : xs.take (i + 1) = xs.take i ++ [x] := by
  rw [List.take_add_one, h]
  rfl

section
variable {K : PySem.W.Frag} {H H' : Hp}
theorem RpL.snoc_inv : ∀ {ds : List PyData} {d : PyData} {vs : List V}, RpL K H (ds ++ [d]) vs → ∃ us v, vs = us ++ [v] ∧ RpL K H ds us ∧ Rp K H d v
  | [], d, vs, h => by
    obtain ⟨v, r, e, h1, h2⟩ := RpL.cons_inv (show RpL K H [d] vs from h)
    have := h2.nil_inv
    subst this
    exact ⟨[], v, e, .nil, h1⟩
  | c :: ds, d, vs, h => by
    obtain ⟨v, r, e, h1, h2⟩ := RpL.cons_inv (show RpL K H (c :: (ds ++ [d])) vs from h)
    obtain ⟨us, u, e2, h3, h4⟩ := RpL.snoc_inv h2
    subst e2
    exact ⟨v :: us, u, e, .cons h1 h3, h4⟩
/-- a list of ints that stays -/
theorem Rp.il_inv {ns : List Int} {v : V} (h : Rp K H (ilst ns) v) : ∃ a, v = .ref a ∧ FzL K H a (ns.map V.int) := by
  obtain ⟨a, xs, e, f, r⟩ := h.lst_inv
  rw [r.ints] at f
  exact ⟨a, e, f⟩
theorem Rp.il {ns : List Int} {a : Addr} (h : FzL K H a (ns.map V.int)) : Rp K H (ilst ns) (.ref a) := .lst h (RpL.of_ints ns)
theorem Rp.ch_inv {c : Ch} {v : V} (h : Rp K H c.enc v) : ∃ a, v = .ref a ∧ H a = some (.tup [.int c.key, .str (wd c.set), .int c.worth]) := by
  obtain ⟨a, xs, e, f, r⟩ := h.tup_inv
  obtain ⟨v1, r1, e1, h1, r⟩ := r.cons_inv
  obtain ⟨v2, r2, e2, h2, r⟩ := r.cons_inv
  obtain ⟨v3, r3, e3, h3, r⟩ := r.cons_inv
  have := r.nil_inv
  subst this e3 e2 e1
  have h1 := Rp.int_iff.mp h1
  have h2 := Rp.str_iff.mp h2
  have h3 := Rp.int_iff.mp h3
  subst h1 h2 h3
  exact ⟨a, e, f⟩
theorem Rp.row_inv {nk : Nat} {cs : List Ch} {v : V} (h : Rp K H (rowD nk cs) v) : ∃ a p q, v = .ref a ∧ H a = some (.tup [.ref p, .ref q]) ∧ FzL K H p ((wrow nk cs).map V.int) ∧ FzL K H q ((lrow nk cs).map V.int) := by
  obtain ⟨a, xs, e, f, r⟩ := h.tup_inv
  obtain ⟨v1, r1, e1, h1, r⟩ := r.cons_inv
  obtain ⟨v2, r2, e2, h2, r⟩ := r.cons_inv
  have := r.nil_inv
  subst this e2 e1
  obtain ⟨p, e1, f1⟩ := h1.il_inv
  obtain ⟨q, e2, f2⟩ := h2.il_inv
  subst e1 e2
  exact ⟨a, p, q, e, f, f1, f2⟩
theorem Rp.row {nk : Nat} {cs : List Ch} {a p q : Addr} (h : H a = some (.tup [.ref p, .ref q])) (f1 : FzL K H p ((wrow nk cs).map V.int)) (f2 : FzL K H q ((lrow nk cs).map V.int)) : Rp K H (rowD nk cs) (.ref a) :=
  .tup h (.cons (.il f1) (.cons (.il f2) .nil))
end
theorem Dice.use {K : PySem.W.Frag} {H : Hp} {a : Addr} {R : Lg} (d : Dice K H a R) : ∃ R0, Has H R0 ∧ ∀ H', Mono H H' → Has H' R0 → Dice K H' a R :=
  let ⟨c, ns, i, m, r, h1, h2, h3, h⟩ := d
  ⟨_, h, fun _ m' h' => ⟨c, ns, i, m, r, h1, h2, h3.mono m', h'⟩⟩
end Cu

namespace Cu
open PySem PySem.Spec PyProof.Rows L2
/-- what is owned goes from C to C', whatever else is owned; nothing else changes -/
structure Tr (H : Hp) (C : Lg) (H' : Hp) (C' : Lg) : Prop where
  mono : Mono H H'
  has : ∀ R, Has H (C ++ R) → Has H' (C' ++ R)
abbrev Grow (H H' : Hp) : Prop := Tr H [] H' []
section
variable {K : PySem.W.Frag} {H H1 H2 : Hp} {C C1 C2 D : Lg} {a p : Addr} {o o' : HO} {R : Lg}
theorem Tr.refl (H : Hp) (C : Lg) : Tr H C H C := ⟨Mono.refl H, fun _ h => h⟩
theorem Tr.trans (t : Tr H C H1 C1) (u : Tr H1 C1 H2 C2) : Tr H C H2 C2 := ⟨t.mono.trans u.mono, fun R h => u.has R (t.has R h)⟩
theorem Tr.right (t : Tr H C H1 C1) : Tr H (C ++ D) H1 (C1 ++ D) := ⟨t.mono, fun R h => by
  rw [List.append_assoc] at h ⊢
  exact t.has _ h⟩
theorem Tr.left (t : Tr H C H1 C1) : Tr H (D ++ C) H1 (D ++ C1) := ⟨t.mono, fun R h => by
  rw [List.append_assoc] at h ⊢
  exact (t.has _ h.swap).swap⟩
theorem Tr.now (t : Tr H C H1 C1) (h : Has H C) : Has H1 C1 := by
  have := t.has [] (by rw [List.append_nil]; exact h)
  rwa [List.append_nil] at this
theorem Tr.own (t : Tr H [] H1 C1) : Has H1 C1 := t.now .nil
theorem Tr.grow (t : Tr H C H1 C1) (g : Grow H1 H2) : Tr H C H2 C1 := t.trans (by simpa using g.right (D := C1))
theorem Tr.new (t : Tr H C H1 C1) (f : H1 p = none) (n : ¬ Imm o) : Tr H C (upd H1 p o) ((p, o) :: C1) := ⟨t.mono.trans (Mono.new f), fun R h => (t.has R h).new f n⟩
theorem Tr.old (t : Tr H C H1 C1) (f : H1 p = none) : Tr H C (upd H1 p o) C1 := ⟨t.mono.trans (Mono.new f), fun R h => (t.has R h).old f⟩
theorem Tr.put (t : Tr H C H1 ((p, o) :: C1)) (h : Has H C) (n : ¬ Imm o') : Tr H C (upd H1 p o') ((p, o') :: C1) := ⟨t.mono.trans (t.now h).mono_put, fun R h => (t.has R h).put n⟩
theorem Tr.fz {xs : List V} {ob : Obj} (t : Tr H C H1 ((p, .lst xs) :: C1)) (h : Has H C) : Tr H C (upd H1 p (.frz ob (.lst xs))) C1 :=
  ⟨t.mono.trans (t.now h).mono_put, fun R h => (t.has R h).tail.off (List.nodup_cons.mp (t.has R h).nd).1⟩
theorem Tr.perm (t : Tr H C H1 C1) (e : C1.Perm C2) : Tr H C H1 C2 := ⟨t.mono, fun R h => (t.has R h).perm (e.append_right R)⟩
theorem Tr.sub (t : Tr H C H1 C1) (e : C2.Sublist C1) : Tr H C H1 C2 := ⟨t.mono, fun R h => (t.has R h).sub (e.append_right R)⟩
theorem Tr.tail (t : Tr H C H1 ((p, o) :: C1)) : Tr H C H1 C1 := t.sub (List.sublist_cons_self _ _)
theorem Tr.swap2 {q r : Addr × HO} (t : Tr H C H1 (q :: r :: C1)) : Tr H C H1 (r :: q :: C1) := t.perm (List.Perm.swap _ _ _)
/-- a new list, frozen at once -/
theorem Tr.nfz {xs : List V} {ob : Obj} (t : Tr H C H1 C1) (f : H1 p = none) : Tr H C (upd (upd H1 p (.lst xs)) p (.frz ob (.lst xs))) C1 :=
  ⟨t.mono.trans ((Mono.new f).trans (Mono.put upd_same fun h => h)), fun R h => ((t.has R h).old f).off ((t.has R h).notin f)⟩
theorem Grow.mono' (g : Grow H H1) : Mono H H1 := g.mono
theorem Grow.has' (g : Grow H H1) (h : Has H R) : Has H1 R := g.has R h
theorem Grow.refl (H : Hp) : Grow H H := Tr.refl H []
theorem Grow.new (f : H p = none) : Grow H (upd H p o) := (Tr.refl H []).old f
/-- a new tuple goes to the end of an owned list -/
theorem snoc_tup {l t : Addr} {ys us : List V} {ds : List PyData} (h : Has H ((l, .lst ys) :: C)) (ht : H t = none) (r : RpL K H ds us) :
    Tr H ((l, .lst ys) :: C) (upd (upd H t (.tup us)) l (.lst (ys ++ [.ref t]))) ((l, .lst (ys ++ [.ref t])) :: C) ∧ Rp K (upd (upd H t (.tup us)) l (.lst (ys ++ [.ref t]))) (.tuple ds) (.ref t) := by
  have s1 := (Tr.refl H ((l, .lst ys) :: C)).old (o := .tup us) ht
  have s2 := s1.put (o' := .lst (ys ++ [.ref t])) h nl
  exact ⟨s2, .tup ((s1.now h).mono_put _ _ upd_same trivial) (r.mono s2.mono)⟩
theorem Dice.grow (d : Dice K H a R) (g : Grow H H1) : Dice K H1 a R := by
  obtain ⟨R0, h0, back⟩ := d.use
  exact back _ g.mono (g.has _ h0)
theorem Dice.tr (d : Dice K H a (C ++ R)) (t : Tr H C H1 C1) : Dice K H1 a (C1 ++ R) :=
  let ⟨c, ns, i, m, r, h1, h2, h3, h⟩ := d
  ⟨c, ns, i, m, r, h1, h2, h3.mono t.mono, by
    have := t.has ((a, .lst [.ref c, .int i, .int m, .int r]) :: R) h.swap1
    exact this.unswap1⟩
theorem Dice.tr0 (d : Dice K H a C) (t : Tr H C H1 C1) : Dice K H1 a C1 := by
  have := Dice.tr (R := []) (by rw [List.append_nil]; exact d) t
  rwa [List.append_nil] at this
end
end Cu

namespace Cu
open PySem PySem.Spec PyProof.Rows L2
/-! data that may be compared -/
def Gd (n : Nat) (d : PyData) : Prop := d.canLay0 = true ∧ d.depth ≤ n
theorem Gd.mono {n m : Nat} {d : PyData} (h : Gd n d) (e : n ≤ m) : Gd m d := ⟨h.1, Nat.le_trans h.2 e⟩
theorem Gd.int {n : Nat} {i : Int} : Gd n (.int i) := ⟨by simp [PyData.canLay0], by simp [PyData.depth]⟩
theorem Gd.none {n : Nat} : Gd n .none := ⟨by simp [PyData.canLay0], by simp [PyData.depth]⟩
theorem Gd.bool {n : Nat} {b : Bool} : Gd n (.bool b) := ⟨by simp [PyData.canLay0], by simp [PyData.depth]⟩
theorem Gd.str {n : Nat} {s : Str} (h : PyData.strOk s = true) : Gd n (.str s) := ⟨by simpa [PyData.canLay0] using h, by simp [PyData.depth]⟩
theorem canAll : ∀ {ds : List PyData}, (∀ d ∈ ds, d.canLay0 = true) → PyData.canLayAll0 ds = true
  | [], _ => by simp [PyData.canLayAll0]
  | d :: ds, h => by
    simp only [PyData.canLayAll0, Bool.and_eq_true]
    exact ⟨h d List.mem_cons_self, canAll fun e he => h e (List.mem_cons_of_mem _ he)⟩
theorem depthAll_le {n : Nat} : ∀ {ds : List PyData}, (∀ d ∈ ds, d.depth ≤ n) → PyData.depthAll ds ≤ n
  | [], _ => by simp [PyData.depthAll]
  | d :: ds, h => by
    simp only [PyData.depthAll]
    exact Nat.max_le.mpr ⟨h d List.mem_cons_self, depthAll_le fun e he => h e (List.mem_cons_of_mem _ he)⟩
theorem Gd.list {n : Nat} {ds : List PyData} (h : ∀ d ∈ ds, Gd n d) : Gd (n + 1) (.list ds) := by
  refine ⟨?_, ?_⟩
  · simp only [PyData.canLay0]
    exact canAll fun d hd => (h d hd).1
  · simp only [PyData.depth]
    have := depthAll_le fun d hd => (h d hd).2
    omega
theorem Gd.tuple {n : Nat} {ds : List PyData} (h : ∀ d ∈ ds, Gd n d) : Gd (n + 1) (.tuple ds) := by
  refine ⟨?_, ?_⟩
  · simp only [PyData.canLay0]
    exact canAll fun d hd => (h d hd).1
  · simp only [PyData.depth]
    have := depthAll_le fun d hd => (h d hd).2
    omega
theorem Gd.all_nil {n : Nat} : ∀ d ∈ ([] : List PyData), Gd n d := fun _ h => (nomatch h)
theorem Gd.all_cons {n : Nat} {d : PyData} {ds : List PyData} (h : Gd n d) (r : ∀ d ∈ ds, Gd n d) : ∀ e ∈ d :: ds, Gd n e := fun e he => by
  rcases List.mem_cons.mp he with rfl | he
  · exact h
  · exact r e he
theorem Gd.shaped {n : Nat} {d : PyData} (h : Gd n d) (e : n ≤ 64 := by decide) : SeqAt.shaped d = true := by
  unfold SeqAt.shaped
  rw [Bool.and_eq_true]
  exact ⟨h.1, decide_eq_true (Nat.le_trans h.2 e)⟩
theorem Gd.refl {n : Nat} {d : PyData} (h : Gd n d) : PyData.eqv d d = true := SeqAt.eqv_refl d h.1
theorem Gd.ilst {n : Nat} (ns : List Int) : Gd (n + 1) (ilst ns) := .list fun d hd => by
  obtain ⟨i, _, rfl⟩ := List.mem_map.mp hd
  exact .int
theorem wd_ok (b : Bool) : PyData.strOk (wd b) = true := by cases b <;> decide +kernel
theorem Gd.letter (l : Letter) : Gd 4 l.enc := by
  cases l with
  | change n c ahead => exact .tuple (.all_cons (.str (by decide +kernel)) (.all_cons .int (.all_cons .int (.all_cons (.str (wd_ok _)) (.all_cons .int (.all_cons .int .all_nil))))))
  | part n b rows =>
    refine .tuple (.all_cons (.str (by decide +kernel)) (.all_cons .int (.all_cons .int (.all_cons (.tuple fun d hd => ?_) .all_nil))))
    obtain ⟨r, _, rfl⟩ := List.mem_map.mp hd
    exact .tuple (.all_cons .int (.all_cons .int .all_nil))
  | beat n lasts =>
    refine .tuple (.all_cons (.str (by decide +kernel)) (.all_cons .int (.all_cons (.tuple fun d hd => ?_) .all_nil)))
    obtain ⟨r, _, rfl⟩ := List.mem_map.mp hd
    exact .int
theorem Gd.letters (ls : List Letter) : Gd 5 (.list (ls.map Letter.enc)) := .list fun d hd => by
  obtain ⟨l, _, rfl⟩ := List.mem_map.mp hd
  exact .letter l
theorem Gd.nil {n : Nat} : Gd (n + 1) (.list []) := .list .all_nil
theorem eqv_nil (ds : List PyData) : PyData.eqv (.list ds) (.list []) = ds.isEmpty := by
  cases ds <;> simp [PyData.eqv, PyData.eqvAll]
theorem eqv_ilst : ∀ {ns ms : List Int}, PyData.eqv (ilst ns) (ilst ms) = decide (ns = ms)
  | [], [] => by simp [ilst, PyData.eqv, PyData.eqvAll]
  | [], _ :: _ => by simp [ilst, PyData.eqv, PyData.eqvAll]
  | _ :: _, [] => by simp [ilst, PyData.eqv, PyData.eqvAll]
  | n :: ns, m :: ms => by
    have ih := eqv_ilst (ns := ns) (ms := ms)
    simp only [ilst, PyData.eqv] at ih
    simp only [ilst, List.map_cons, PyData.eqv, PyData.eqvAll, ih]
    by_cases h : n = m <;> simp [h]
theorem Dp.nil {K : PySem.W.Frag} {H : Hp} {a : Addr} (h : H a = some (.lst [])) : Dp K H (.ref a) (.list []) := .lst (SqL.of h) .nil
theorem cutV_to {xs : List V} {k : Nat} (h : k ≤ xs.length) : cutV xs none (some (k : Int)) = xs.take k := by
  unfold cutV
  rw [HT.sIx_none, HT.sIx_nat, Nat.min_eq_left h, List.drop_zero, Nat.sub_zero]
theorem cutV_from {xs : List V} {k : Nat} (h : k ≤ xs.length) : cutV xs (some (k : Int)) none = xs.drop k := by
  unfold cutV
  rw [HT.sIx_none, HT.sIx_nat, Nat.min_eq_left h, List.take_of_length_le (by simp)]
end Cu

namespace Cu
open PySem PySem.Spec PyProof.Rows L2
def partRows (cs : List Ch) (n b m : Nat) : List (Int × Nat) := (List.range m).map fun i => (wof (cs.take n) (b + i), lof (cs.take n) (b + i))
def partL (cs : List Ch) (n b e : Nat) : Letter := .part n b (partRows cs n b (e - b))
def beatL (nk : Nat) (cs : List Ch) (n : Nat) : Letter := .beat n ((List.range nk).map fun k => lof (cs.take n) k)
/-- a letter of a board of nk keys, with the story cs, as it was at some time -/
inductive IsLet (nk : Nat) (cs : List Ch) : Letter → Prop
  | change {n : Nat} {c : Ch} : cs[n]? = some c → IsLet nk cs (.change (n + 1) c (lof (cs.take n) c.key))
  | part {n b e : Nat} : n ≤ cs.length → b < e → e ≤ nk → IsLet nk cs (partL cs n b e)
  | beat {n : Nat} : n ≤ cs.length → IsLet nk cs (beatL nk cs n)
section
variable {K : PySem.W.Frag}
theorem Rp.str_of {H : Hp} {ls : List Letter} {v : V} (h : Rp K H (.list (ls.map Letter.enc)) v) : ∃ a xs, v = .ref a ∧ FzL K H a xs ∧ RpL K H (ls.map Letter.enc) xs ∧ xs.length = ls.length := by
  obtain ⟨a, xs, e, f, r⟩ := h.lst_inv
  exact ⟨a, xs, e, f, r, by rw [r.length, List.length_map]⟩
end
end Cu

namespace Cu
open PySem PySem.Spec PyProof.Rows L2
/-- list + list, lists that stay among them -/
def rCatZ (K : PySem.W.Frag) : R2 := fun x y H Q => ∃ l b xs zs, x = .ref l ∧ y = .ref b ∧ SqL K H l xs ∧ SqL K H b zs ∧ xs.length + zs.length ≤ sizeLine ∧ ∀ p, H p = none → Q (.ref p) (upd H p (.lst (xs ++ zs)))
theorem op_catZ {X : Cx} : OpR X (binaryOp .Add) (rCatZ X.K) := by
  intro pins s σ H x y v u Q I rx ry h
  obtain ⟨l, b, xs, zs, rfl, rfl, hl, hb, hz, q⟩ := h
  cases rx
  cases ry
  obtain ⟨i1, r1, p1, z1⟩ := I.list hl
  obtain ⟨i2, r2, p2, z2⟩ := I.list hb
  obtain ⟨⟨lc, ld, lq, ls⟩, ho1, e1, n1, e2⟩ := p1.isList
  obtain ⟨⟨bc, bd, bq, bs⟩, ho2, e3, n2, e4⟩ := p2.isList
  simp only at e1 e2 e3 e4
  subst e1 e2 e3 e4
  have hsz : i1.toArray.size + i2.toArray.size ≤ sizeLine := by
    rw [List.size_toArray, List.size_toArray, ← r1.length, ← r2.length]
    exact hz
  refine concat_meets ⟨_, ho1, rfl⟩ ⟨_, ho2, rfl⟩ noFill_list_add seq_list_add F.slot_list_add F.entry_list_add (F.args_list_add_2 _ _) (list_addW l b i1.toArray i2.toArray n1 n2 ld bd ls bs hsz) ⟨ho1, ho2, ?_⟩
  rw [show i1.toArray ++ i2.toArray = (i1 ++ i2).toArray by simp]
  exact ⟨.ref _, _, I.lnew (t' := s.toks) (r1.append r2) (by rw [List.length_append]; exact hz), rfl, q _ I.fresh⟩
end Cu

namespace Cu
open PySem PySem.Spec PyProof.Rows L2
/-- a op1 b op2 c op3 d, as a test -/
def tChain3 (r1 r2 r3 : R2) (ta tb tc td : TE) : TE := fun σ H Q => ta σ H fun x H1 => tb σ H1 fun y H2 => r1 x y H2 fun z H3 => ∃ k, z = .bl k ∧
  (if k = true then tc σ H3 fun u H4 => r2 y u H4 fun z H5 => ∃ k, z = .bl k ∧ (if k = true then td σ H5 fun v H6 => r3 u v H6 Q else Q (.bl false) H5) else Q (.bl false) H3)
section
variable {X : Cx} {a b c d : Expr} {ta tb tc td : TE} {pos : Pos}
theorem pt_chain3 {p1 p2 p3 : CmpOp} {r1 r2 r3 : R2} (o1 : OpR X (compareOp p1) r1) (o2 : OpR X (compareOp p2) r2) (o3 : OpR X (compareOp p3) r3) (ha : PE X a ta) (hb : PE X b tb) (hc : PE X c tc) (hd : PE X d td)
    (hm : lastMarks [p1, p2, p3] [b, c, d] = false := by with_unfolding_all rfl) : PT X (.Compare a [p1, p2, p3] [b, c, d] pos) (tTest (tChain3 r1 r2 r3 ta tb tc td)) := ⟨fun pins s σ H Q I h => by
  refine isTrue_chain (thn (ha.run pins s σ H _ I h) fun v1 s1 ⟨x1, H1, I1, q1, w1⟩ => test_link (thn (hb.run pins s1 σ H1 _ I1 w1) fun v2 s2 ⟨x2, H2, I2, q2, w2⟩ => thn (o1 pins s2 σ H2 x1 x2 v1 v2 _ I2 q1 q2 w2) fun v3 s3 ⟨x3, H3, I3, q3, k, ek, w3⟩ => ?_)) hm
  subst ek
  cases q3
  refine wpAny_truthy_bool ?_
  cases k with
  | false =>
    obtain ⟨_, e, w⟩ := w3
    cases e
    exact ite_ff ⟨H3, I3, w⟩
  | true =>
    refine ite_tt (test_link (thn (hc.run pins s3 σ H3 _ I3 w3) fun v4 s4 ⟨x4, H4, I4, q4, w4⟩ => thn (o2 pins s4 σ H4 x2 x4 v2 v4 _ I4 q2 q4 w4) fun v5 s5 ⟨x5, H5, I5, q5, k5, e5, w5⟩ => ?_))
    subst e5
    cases q5
    refine wpAny_truthy_bool ?_
    cases k5 with
    | false =>
      obtain ⟨_, e, w⟩ := w5
      cases e
      exact ite_ff ⟨H5, I5, w⟩
    | true =>
      refine ite_tt (test_last (thn (hd.run pins s5 σ H5 _ I5 w5) fun v6 s6 ⟨x6, H6, I6, q6, w6⟩ => thn (o3 pins s6 σ H6 x4 x6 v4 v6 _ I6 q4 q6 w6) fun v7 s7 ⟨x7, H7, I7, q7, k7, e7, w7⟩ => ?_))
      subst e7
      cases q7
      exact wpAny_truthy_bool ⟨H7, I7, w7⟩⟩
end
end Cu

namespace Cu
open PySem PySem.Spec PyProof.Rows L2
/-! a hearer, key by key -/
/-- a change put aside -/
structure As where
  n : Nat
  worth : Int
  ahead : Nat
structure HK where
  worth : Int
  since : Nat
  upto : Int
  aside : List As
def HK.ini : HK := ⟨0, 0, -1, []⟩
def HK.done (h : HK) (n : Nat) (set : Bool) (w : Int) : HK := { h with worth := if set then w else h.worth + w, since := n, upto := n }
def asN (as : List As) : List Int := as.map fun a => (a.n : Int)
def srt (ns : List Int) : List Int := ns.mergeSort fun a b => decide (a ≤ b)
def findA (as : List As) (n : Int) : Option As := as.find? fun a => decide ((a.n : Int) = n)
def dropA (as : List As) (n : Int) : List As := as.filter fun a => decide ((a.n : Int) ≠ n)
def putA (as : List As) (a : As) : List As := if (as.any fun x => decide (x.n = a.n)) = true then as.map fun x => if x.n = a.n then a else x else as ++ [a]
def HK.fstep (st : HK × List Int) (n : Int) : HK × List Int :=
  match findA st.1.aside n with
  | none => st
  | some a => if n ≤ st.1.upto then ({ st.1 with aside := dropA st.1.aside n }, st.2)
    else if (a.ahead : Int) ≤ st.1.upto then (({ st.1 with aside := dropA st.1.aside n } : HK).done a.n false a.worth, st.2 ++ [n])
    else st
def HK.free (h : HK) : HK × List Int := (srt (asN h.aside)).foldl HK.fstep (h, [])
def HK.chg (h : HK) (n : Nat) (c : Ch) (ahead : Nat) : HK × List Int :=
  if (n : Int) ≤ h.upto then (h, []) else if c.set = false ∧ h.upto < (ahead : Int) then ({ h with aside := putA h.aside ⟨n, c.worth, ahead⟩ }, [])
  else (((h.done n c.set c.worth).free).1, (n : Int) :: ((h.done n c.set c.worth).free).2)
def HK.row (h : HK) (n : Nat) (w : Int) (last : Nat) : HK × List Int := if h.upto < (n : Int) then ({ h with worth := w, since := last, upto := n } : HK).free else (h, [])
def HK.beat (h : HK) (n last : Nat) : HK := if (last : Int) ≤ h.upto ∧ h.upto < (n : Int) then { h with upto := n } else h
def hearK (k : Nat) (h : HK) : Letter → HK × List Int
  | .change n c ahead => if c.key = k then h.chg n c ahead else (h, [])
  | .part n b rows => if b ≤ k then (match rows[k - b]? with | some r => h.row n r.1 r.2 | none => (h, [])) else (h, [])
  | .beat n lasts => match lasts[k]? with | some l => (h.beat n l, []) | none => (h, [])
def hear (hs : List HK) (l : Letter) : List HK := hs.mapIdx fun k h => (hearK k h l).1
def heard (hs : List HK) (l : Letter) : List Int := (hs.mapIdx fun k h => (hearK k h l).2).flatten
theorem srt_eq {ns ms : List Int} (hp : ms.Perm ns) (hs : ms.Pairwise (· ≤ ·)) : ms = srt ns := by
  refine PySem.W.ksm_same (hp.trans (List.mergeSort_perm ns _).symm) hs ?_
  have := List.pairwise_mergeSort (le := fun a b : Int => decide (a ≤ b)) (fun a b c h1 h2 => by simp at h1 h2 ⊢; omega) (fun a b => by simp; omega) ns
  exact this.imp fun h => by simpa using h
theorem hear_len (hs : List HK) (l : Letter) : (hear hs l).length = hs.length := by simp [hear]

/-! where a hearer lies -/
structure HA where
  p : Addr
  dx : Addr
  l1 : Addr
  l2 : Addr
  l3 : Addr
  l4 : Addr
  ds : List Addr
def hF (A : HA) : List (Str × V) := [("worth", .ref A.l1), ("since", .ref A.l2), ("upto", .ref A.l3), ("aside", .ref A.l4)]
def hObj (C : Addr) (A : HA) (hs : List HK) (kv : List (List (Key × V))) : Lg :=
  (A.p, .ins C A.dx (hF A)) :: (A.l1, .lst (hs.map fun h => .int h.worth)) :: (A.l2, .lst (hs.map fun h => .int h.since)) :: (A.l3, .lst (hs.map fun h => .int h.upto)) ::
    (A.l4, .lst (A.ds.map V.ref)) :: List.zipWith (fun d k => (d, HO.dK k)) A.ds kv
def asL (k : Nat) (a : As) : Letter := .change a.n ⟨k, false, a.worth⟩ a.ahead
def AsOk (K : PySem.W.Frag) (H : Hp) (k : Nat) : List As → List (Key × V) → Prop
  | [], kvs => kvs = []
  | a :: as, kvs => ∃ v r, kvs = (Sum.inl (a.n : Int), v) :: r ∧ Rp K H (asL k a).enc v ∧ AsOk K H k as r
section
variable {K : PySem.W.Frag} {H H' : Hp} {k : Nat}
theorem AsOk.mono (m : Mono H H') : ∀ {as : List As} {kvs : List (Key × V)}, AsOk K H k as kvs → AsOk K H' k as kvs
  | [], _, h => h
  | a :: as, _, ⟨v, r, e, h1, h2⟩ => ⟨v, r, e, h1.mono m, AsOk.mono m h2⟩
theorem AsOk.keys : ∀ {as : List As} {kvs : List (Key × V)}, AsOk K H k as kvs → kvs.map (·.1) = (asN as).map Sum.inl
  | [], _, h => by
    cases h
    rfl
  | a :: as, _, ⟨v, r, e, h1, h2⟩ => by
    subst e
    show Sum.inl (a.n : Int) :: r.map (·.1) = _
    rw [h2.keys]
    rfl
theorem AsOk.len {as : List As} {kvs : List (Key × V)} (h : AsOk K H k as kvs) : kvs.length = as.length := by
  have := congrArg List.length h.keys
  simpa [asN] using this
theorem AsOk.find : ∀ {as : List As} {kvs : List (Key × V)} {n : Int} {a : As}, AsOk K H k as kvs → findA as n = some a → ∃ v, valV kvs (Sum.inl n) = some v ∧ Rp K H (asL k a).enc v
  | [], _, _, _, _, e => by cases e
  | b :: as, _, n, a, ⟨v, r, e, h1, h2⟩, f => by
    subst e
    by_cases hb : (b.n : Int) = n
    · have : findA (b :: as) n = some b := by simp [findA, hb]
      rw [this] at f
      cases f
      exact ⟨v, valV_pos (by rw [hb]), h1⟩
    · have : findA (b :: as) n = findA as n := by simp [findA, hb]
      rw [this] at f
      obtain ⟨u, hu, ru⟩ := h2.find f
      exact ⟨u, by rw [valV_neg (fun q => hb (Sum.inl.inj q))]; exact hu, ru⟩
theorem AsOk.drop : ∀ {as : List As} {kvs : List (Key × V)} (n : Int), AsOk K H k as kvs → AsOk K H k (dropA as n) (dropK kvs (Sum.inl n))
  | [], _, _, h => by
    cases h
    rfl
  | b :: as, _, n, ⟨v, r, e, h1, h2⟩ => by
    subst e
    have ih := AsOk.drop n h2
    by_cases hb : (b.n : Int) = n
    · have : dropA (b :: as) n = dropA as n := by simp [dropA, hb]
      rw [this, dropK_pos (by rw [hb])]
      exact ih
    · have : dropA (b :: as) n = b :: dropA as n := by simp [dropA, hb]
      rw [this, dropK_neg (fun q => hb (Sum.inl.inj q))]
      exact ⟨v, _, rfl, h1, ih⟩
theorem AsOk.any : ∀ {as : List As} {kvs : List (Key × V)} (n : Nat), AsOk K H k as kvs → (kvs.any fun kv => decide (kv.1 = Sum.inl (n : Int))) = as.any fun x => decide (x.n = n)
  | [], _, _, h => by
    cases h
    rfl
  | b :: as, _, n, ⟨v, r, e, h1, h2⟩ => by
    subst e
    rw [List.any_cons, List.any_cons, h2.any]
    congr 1
    by_cases hb : b.n = n <;> simp [hb]
    intro q
    exact hb (by omega)
theorem AsOk.map : ∀ {as : List As} {kvs : List (Key × V)} (a : As) (v : V), AsOk K H k as kvs → Rp K H (asL k a).enc v →
    AsOk K H k (as.map fun x => if x.n = a.n then a else x) (kvs.map fun kv => if kv.1 = Sum.inl (a.n : Int) then (kv.1, v) else kv)
  | [], _, _, _, h, _ => by
    cases h
    rfl
  | b :: as, _, a, v, ⟨u, r, e, h1, h2⟩, hv => by
    subst e
    have ih := AsOk.map a v h2 hv
    by_cases hb : b.n = a.n
    · simp only [List.map_cons, hb, if_pos]
      exact ⟨v, _, rfl, hv, ih⟩
    · have hb' : ¬ ((Sum.inl (b.n : Int) : Key) = Sum.inl (a.n : Int)) := fun q => hb (by have := Sum.inl.inj q; omega)
      simp only [List.map_cons, hb, if_neg hb', if_false]
      exact ⟨u, _, rfl, h1, ih⟩
theorem AsOk.append : ∀ {as bs : List As} {kvs kws : List (Key × V)}, AsOk K H k as kvs → AsOk K H k bs kws → AsOk K H k (as ++ bs) (kvs ++ kws)
  | [], _, _, _, h, g => by
    cases h
    exact g
  | _ :: _, _, _, _, ⟨v, r, e, h1, h2⟩, g => by
    subst e
    exact ⟨v, _, rfl, h1, h2.append g⟩
theorem AsOk.put {as : List As} {kvs : List (Key × V)} {a : As} {v : V} (h : AsOk K H k as kvs) (hv : Rp K H (asL k a).enc v) : AsOk K H k (putA as a) (putK kvs (Sum.inl (a.n : Int)) v) := by
  unfold putA putK
  rw [h.any]
  split
  · exact h.map a v hv
  · exact h.append ⟨v, [], rfl, hv, rfl⟩
end

/-- the objects at c are a hearer's that stands so -/
structure HR (K : PySem.W.Frag) (C : Addr) (A : HA) (hs : List HK) (H : Hp) (c : Lg) : Prop where
  ex : ∃ kv, c = hObj C A hs kv ∧ A.ds.length = hs.length ∧ kv.length = hs.length ∧ ∀ (k : Nat) (h : HK) (kvs : List (Key × V)), hs[k]? = some h → kv[k]? = some kvs → AsOk K H k h.aside kvs
theorem Tr.mid {H : Hp} {pre post : Lg} {a : Addr} {o o' : HO} (h : Has H (pre ++ (a, o) :: post)) (n : ¬ Imm o') : Tr H (pre ++ (a, o) :: post) (upd H a o') (pre ++ (a, o') :: post) := by
  refine ⟨Mono.put (h.mem (by simp)) (h.at_ (a, o) (by simp)).2, fun R hR => ?_⟩
  rw [List.append_assoc, List.cons_append] at hR ⊢
  exact ((hR.perm List.perm_middle).put n).perm List.perm_middle.symm
section
variable {K : PySem.W.Frag} {C : Addr} {A : HA} {hs : List HK} {H H' : Hp} {c : Lg} {k : Nat} {h : HK}
theorem HR.mono (r : HR K C A hs H c) (m : Mono H H') : HR K C A hs H' c := by
  obtain ⟨kv, e, l1, l2, q⟩ := r.ex
  exact ⟨kv, e, l1, l2, fun k h kvs e1 e2 => (q k h kvs e1 e2).mono m⟩
theorem HR.at_p (r : HR K C A hs H c) (h : Has H c) : H A.p = some (.ins C A.dx (hF A)) := by
  obtain ⟨kv, rfl, _⟩ := r.ex
  exact h.mem (by simp [hObj])
theorem HR.at1 (r : HR K C A hs H c) (h : Has H c) : H A.l1 = some (.lst (hs.map fun h => .int h.worth)) := by
  obtain ⟨kv, rfl, _⟩ := r.ex
  exact h.mem (by simp [hObj])
theorem HR.at2 (r : HR K C A hs H c) (h : Has H c) : H A.l2 = some (.lst (hs.map fun h => .int h.since)) := by
  obtain ⟨kv, rfl, _⟩ := r.ex
  exact h.mem (by simp [hObj])
theorem HR.at3 (r : HR K C A hs H c) (h : Has H c) : H A.l3 = some (.lst (hs.map fun h => .int h.upto)) := by
  obtain ⟨kv, rfl, _⟩ := r.ex
  exact h.mem (by simp [hObj])
theorem HR.at4 (r : HR K C A hs H c) (h : Has H c) : H A.l4 = some (.lst (A.ds.map V.ref)) := by
  obtain ⟨kv, rfl, _⟩ := r.ex
  exact h.mem (by simp [hObj])
theorem HR.dict (r : HR K C A hs H c) (hh : Has H c) (e : hs[k]? = some h) : ∃ d kvs, A.ds[k]? = some d ∧ H d = some (.dK kvs) ∧ AsOk K H k h.aside kvs := by
  obtain ⟨kv, rfl, l1, l2, q⟩ := r.ex
  have hk := (List.getElem?_eq_some_iff.mp e).1
  obtain ⟨d, hd⟩ : ∃ d, A.ds[k]? = some d := ⟨A.ds[k], List.getElem?_eq_getElem (by omega)⟩
  obtain ⟨kvs, hkv⟩ : ∃ kvs, kv[k]? = some kvs := ⟨kv[k], List.getElem?_eq_getElem (by omega)⟩
  refine ⟨d, kvs, hd, hh.mem ?_, q k h kvs e hkv⟩
  have : (List.zipWith (fun d k => (d, HO.dK k)) A.ds kv)[k]? = some (d, HO.dK kvs) := by rw [List.getElem?_zipWith, hd, hkv]
  have := List.mem_of_getElem? this
  simp [hObj, this]
theorem map_set_same {α β : Type} {f : α → β} {xs : List α} {k : Nat} {x y : α} (e : xs[k]? = some x) (h : f y = f x) : (xs.set k y).map f = xs.map f := by
  rw [List.map_set, h]
  apply List.ext_getElem?
  intro i
  by_cases hi : k = i
  · subst hi
    rw [List.getElem?_set_self (by rw [List.length_map]; exact (List.getElem?_eq_some_iff.mp e).1), List.getElem?_map, e]
    rfl
  · rw [List.getElem?_set_ne hi]
theorem hs_set {hs : List HK} {k : Nat} {h g : HK} (e : hs[k]? = some h) (ea : g.aside = h.aside) {kv : List (List (Key × V))} (q : ∀ (k : Nat) (h : HK) (kvs : List (Key × V)), hs[k]? = some h → kv[k]? = some kvs → AsOk K H k h.aside kvs) :
    ∀ (j : Nat) (h : HK) (kvs : List (Key × V)), (hs.set k g)[j]? = some h → kv[j]? = some kvs → AsOk K H j h.aside kvs := fun j h' kvs e1 e2 => by
  by_cases hj : k = j
  · subst hj
    rw [List.getElem?_set_self (List.getElem?_eq_some_iff.mp e).1] at e1
    cases e1
    rw [ea]
    exact q k h kvs e e2
  · rw [List.getElem?_set_ne hj] at e1
    exact q j h' kvs e1 e2
/-- the three lists, written at a key -/
theorem HR.set1 (r : HR K C A hs H c) (hh : Has H c) (e : hs[k]? = some h) (z : Int) :
    ∃ c', HR K C A (hs.set k { h with worth := z }) (upd H A.l1 (.lst ((hs.map fun h => V.int h.worth).set k (.int z)))) c' ∧ Tr H c (upd H A.l1 (.lst ((hs.map fun h => V.int h.worth).set k (.int z)))) c' := by
  obtain ⟨kv, rfl, l1, l2, q⟩ := r.ex
  have t := Tr.mid (pre := [(A.p, .ins C A.dx (hF A))]) (o' := .lst ((hs.map fun h => V.int h.worth).set k (.int z))) hh nl
  refine ⟨hObj C A (hs.set k { h with worth := z }) kv, ⟨kv, rfl, by rw [List.length_set]; exact l1, by rw [List.length_set]; exact l2, hs_set (g := { h with worth := z }) e rfl fun k h kvs e1 e2 => (q k h kvs e1 e2).mono t.mono⟩, ?_⟩
  unfold hObj
  rw [List.map_set, map_set_same (f := fun h : HK => V.int h.since) (y := { h with worth := z }) e rfl, map_set_same (f := fun h : HK => V.int h.upto) (y := { h with worth := z }) e rfl]
  exact t
theorem HR.set2 (r : HR K C A hs H c) (hh : Has H c) (e : hs[k]? = some h) (z : Nat) :
    ∃ c', HR K C A (hs.set k { h with since := z }) (upd H A.l2 (.lst ((hs.map fun h => V.int h.since).set k (.int z)))) c' ∧ Tr H c (upd H A.l2 (.lst ((hs.map fun h => V.int h.since).set k (.int z)))) c' := by
  obtain ⟨kv, rfl, l1, l2, q⟩ := r.ex
  have t := Tr.mid (pre := [(A.p, .ins C A.dx (hF A)), (A.l1, .lst (hs.map fun h => .int h.worth))]) (o' := .lst ((hs.map fun h => V.int h.since).set k (.int z))) hh nl
  refine ⟨hObj C A (hs.set k { h with since := z }) kv, ⟨kv, rfl, by rw [List.length_set]; exact l1, by rw [List.length_set]; exact l2, hs_set (g := { h with since := z }) e rfl fun k h kvs e1 e2 => (q k h kvs e1 e2).mono t.mono⟩, ?_⟩
  unfold hObj
  rw [List.map_set (f := fun h : HK => V.int h.since), map_set_same (f := fun h : HK => V.int h.worth) (y := { h with since := z }) e rfl, map_set_same (f := fun h : HK => V.int h.upto) (y := { h with since := z }) e rfl]
  exact t
theorem HR.set3 (r : HR K C A hs H c) (hh : Has H c) (e : hs[k]? = some h) (z : Int) :
    ∃ c', HR K C A (hs.set k { h with upto := z }) (upd H A.l3 (.lst ((hs.map fun h => V.int h.upto).set k (.int z)))) c' ∧ Tr H c (upd H A.l3 (.lst ((hs.map fun h => V.int h.upto).set k (.int z)))) c' := by
  obtain ⟨kv, rfl, l1, l2, q⟩ := r.ex
  have t := Tr.mid (pre := [(A.p, .ins C A.dx (hF A)), (A.l1, .lst (hs.map fun h => .int h.worth)), (A.l2, .lst (hs.map fun h => .int h.since))]) (o' := .lst ((hs.map fun h => V.int h.upto).set k (.int z))) hh nl
  refine ⟨hObj C A (hs.set k { h with upto := z }) kv, ⟨kv, rfl, by rw [List.length_set]; exact l1, by rw [List.length_set]; exact l2, hs_set (g := { h with upto := z }) e rfl fun k h kvs e1 e2 => (q k h kvs e1 e2).mono t.mono⟩, ?_⟩
  unfold hObj
  rw [List.map_set (f := fun h : HK => V.int h.upto), map_set_same (f := fun h : HK => V.int h.worth) (y := { h with upto := z }) e rfl, map_set_same (f := fun h : HK => V.int h.since) (y := { h with upto := z }) e rfl]
  exact t
theorem zip_split {ds : List Addr} {kv : List (List (Key × V))} {k : Nat} {d : Addr} {x : List (Key × V)} (h1 : ds[k]? = some d) (h2 : kv[k]? = some x) :
    ∃ pre post, List.zipWith (fun d k => (d, HO.dK k)) ds kv = pre ++ (d, HO.dK x) :: post ∧ ∀ y, List.zipWith (fun d k => (d, HO.dK k)) ds (kv.set k y) = pre ++ (d, HO.dK y) :: post := by
  induction k generalizing ds kv with
  | zero =>
    cases ds with
    | nil => simp at h1
    | cons d' ds =>
      cases kv with
      | nil => simp at h2
      | cons x' kv =>
        simp at h1 h2
        subst h1 h2
        exact ⟨[], _, rfl, fun y => rfl⟩
  | succ k ih =>
    cases ds with
    | nil => simp at h1
    | cons d' ds =>
      cases kv with
      | nil => simp at h2
      | cons x' kv =>
        obtain ⟨pre, post, e1, e2⟩ := ih (ds := ds) (kv := kv) (by simpa using h1) (by simpa using h2)
        refine ⟨(d', HO.dK x') :: pre, post, ?_, fun y => ?_⟩
        · rw [List.zipWith_cons_cons, e1]
          rfl
        · rw [List.set_cons_succ, List.zipWith_cons_cons, e2]
          rfl
/-- a key's dict, written -/
theorem HR.set4 (r : HR K C A hs H c) (hh : Has H c) (e : hs[k]? = some h) {d : Addr} (ed : A.ds[k]? = some d) {as : List As} {kvs : List (Key × V)} (ok : AsOk K H k as kvs) :
    ∃ c', HR K C A (hs.set k { h with aside := as }) (upd H d (.dK kvs)) c' ∧ Tr H c (upd H d (.dK kvs)) c' := by
  obtain ⟨kv, rfl, l1, l2, q⟩ := r.ex
  have hk := (List.getElem?_eq_some_iff.mp e).1
  obtain ⟨x, hx⟩ : ∃ x, kv[k]? = some x := ⟨kv[k], List.getElem?_eq_getElem (by omega)⟩
  obtain ⟨pre, post, e1, e2⟩ := zip_split ed hx
  have t : Tr H (hObj C A hs kv) (upd H d (.dK kvs)) (hObj C A (hs.set k { h with aside := as }) (kv.set k kvs)) := by
    unfold hObj at hh ⊢
    rw [map_set_same (f := fun h : HK => V.int h.worth) (y := { h with aside := as }) e rfl, map_set_same (f := fun h : HK => V.int h.since) (y := { h with aside := as }) e rfl, map_set_same (f := fun h : HK => V.int h.upto) (y := { h with aside := as }) e rfl, e1, e2]
    rw [e1] at hh
    have := Tr.mid (pre := (A.p, .ins C A.dx (hF A)) :: (A.l1, .lst (hs.map fun h => .int h.worth)) :: (A.l2, .lst (hs.map fun h => .int h.since)) :: (A.l3, .lst (hs.map fun h => .int h.upto)) :: (A.l4, .lst (A.ds.map V.ref)) :: pre) (o' := .dK kvs) hh ndk
    exact this
  refine ⟨_, ⟨kv.set k kvs, rfl, by rw [List.length_set]; exact l1, by rw [List.length_set, List.length_set]; exact l2, fun j h' kw e3 e4 => ?_⟩, t⟩
  by_cases hj : k = j
  · subst hj
    rw [List.getElem?_set_self hk] at e3
    rw [List.getElem?_set_self (by omega)] at e4
    cases e3
    cases e4
    exact ok.mono t.mono
  · rw [List.getElem?_set_ne hj] at e3 e4
    exact (q j h' kw e3 e4).mono t.mono
end
/-- what the walk asks of the class -/
structure CHr (K : PySem.W.Frag) (C : Addr) : Prop where
  cl : Cls K C
  n1 : NoAttr K C "worth"
  n2 : NoAttr K C "since"
  n3 : NoAttr K C "upto"
  n4 : NoAttr K C "aside"
theorem hF1 (A : HA) : (hF A).lookup ("worth" : Str) = some (.ref A.l1) := by rfl
theorem hF2 (A : HA) : (hF A).lookup ("since" : Str) = some (.ref A.l2) := by rfl
theorem hF3 (A : HA) : (hF A).lookup ("upto" : Str) = some (.ref A.l3) := by rfl
theorem hF4 (A : HA) : (hF A).lookup ("aside" : Str) = some (.ref A.l4) := by rfl
theorem ixN_nat {n k : Nat} (h : k < n) : ixN n (k : Int) = some k := by
  unfold ixN
  rw [if_pos (by omega), if_pos (by omega), Int.toNat_natCast]
end Cu

namespace Cu
open PySem PySem.Spec PyProof.Rows L2
abbrev s_Hearer_init : Stmt := (inClass (top 18) 0)
theorem sc_Hearer_init : FnScope ["self", "keys", "key"] ["self", "keys"] (defScope s_Hearer_init) := ⟨rfl, rfl, rfl, by decide +kernel, rfl, by decide +kernel, by decide +kernel⟩

abbrev s_Hearer_known : Stmt := (inClass (top 18) 1)
theorem sc_Hearer_known : FnScope ["self"] ["self"] (defScope s_Hearer_known) := ⟨rfl, rfl, rfl, by decide +kernel, rfl, by decide +kernel, by decide +kernel⟩

abbrev s_Hearer_held : Stmt := (inClass (top 18) 2)
theorem sc_Hearer_held : FnScope ["self", "found", "some"] ["self"] (defScope s_Hearer_held) := ⟨rfl, rfl, rfl, by decide +kernel, rfl, by decide +kernel, by decide +kernel⟩

abbrev s_Hearer_look : Stmt := (inClass (top 18) 3)
theorem sc_Hearer_look : FnScope ["self", "key"] ["self", "key"] (defScope s_Hearer_look) := ⟨rfl, rfl, rfl, by decide +kernel, rfl, by decide +kernel, by decide +kernel⟩

abbrev s_Hearer_whole : Stmt := (inClass (top 18) 4)
theorem sc_Hearer_whole : FnScope ["self", "number"] ["self"] (defScope s_Hearer_whole) := ⟨rfl, rfl, rfl, by decide +kernel, rfl, by decide +kernel, by decide +kernel⟩

theorem iteP {c A B : Prop} [Decidable c] (hc : c) (h : A) : if c then A else B := by
  rw [if_pos hc]
  exact h
theorem iteM {c A B : Prop} [Decidable c] (hc : ¬ c) (h : B) : if c then A else B := by
  rw [if_neg hc]
  exact h
theorem Has.one {H : Hp} {a : Addr} {o : HO} (h : H a = some o) (n : ¬ Imm o) : Has H [(a, o)] := ⟨by simp, fun p hp => by
  rw [List.mem_singleton] at hp
  subst hp
  exact ⟨h, n⟩⟩
theorem nins {C dx : Addr} {fs : List (Str × V)} : ¬ Imm (.ins C dx fs) := fun h => h
/-- a list of the same value, so many as a name says -/
theorem rd_const {σ : L2.St} {H : Hp} {Q : VK} {i j nk : Nat} {te : TE} {v : V} {vs : List Nat} (h1 : σ[i]? = some (some (.int nk))) (hk : nk ≤ 8) (hw : ∀ x, wipe ((wipe σ vs).set j (some x)) vs = wipe σ vs)
    (he : ∀ (σ1 : L2.St) (H1 : Hp) (Q1 : VK), Q1 v H1 → te σ1 H1 Q1) (q : ∀ p H', Tr H [] H' [(p, .lst (List.replicate nk v))] → Q (.ref p) H') :
    tI (tLc (iRng1 (tCons (tVar i) tNil)) (gName j) tYes te vs) σ H Q := by
  refine rd_I ⟨_, h1, _, rfl, by omega, by omega, fun D hD => ?_⟩
  refine lc_range (lo := 0) (n := (nk : Int).toNat) (fun m H2 => Tr H [] H2 [(D, .lst (List.replicate m v))]) ((Tr.refl H []).new hD nl) (fun m H2 hm t => ⟨hw _, he _ _ _ ⟨_, t.own.head, ?_, ?_⟩⟩) fun H2 t => q D H2 (by rw [Int.toNat_natCast] at t; exact t)
  · rw [List.length_replicate]
    exact small1000 (by omega)
  · rw [← List.replicate_succ']
    exact t.put .nil nl
def spHinit (K : PySem.W.Frag) (C : Addr) : Sp := fun vs H Q _ => vs.length = 2 ∧ ∃ (p dx : Addr) (nk : Nat), vs = [.ref p, .int nk] ∧ 0 < nk ∧ nk ≤ 8 ∧ H p = some (.ins C dx []) ∧
  ∀ (A : HA) (c : Lg) (H' : Hp), A.p = p → HR K C A (List.replicate nk HK.ini) H' c → Tr H [(p, .ins C dx [])] H' c → Q .non H'
def spKnown (K : PySem.W.Frag) (C : Addr) : Sp := fun vs H Q _ => vs.length = 1 ∧ ∃ (A : HA) (hs : List HK) (c : Lg), vs = [.ref A.p] ∧ HR K C A hs H c ∧ Has H c ∧ ∀ (r : Addr) (H' : Hp), Tr H [] H' [(r, .lst ((hs.map fun h => h.upto).map V.int))] → Q (.ref r) H'
def heldM (hs : List HK) : List Int := srt ((hs.map fun h => asN h.aside).flatten)
def spHeld (K : PySem.W.Frag) (C : Addr) : Sp := fun vs H Q _ => vs.length = 1 ∧ ∃ (A : HA) (hs : List HK) (c : Lg), vs = [.ref A.p] ∧ HR K C A hs H c ∧ Has H c ∧ (hs.map fun h => asN h.aside).flatten.length ≤ 1000 ∧
  ∀ (r : Addr) (H' : Hp), Tr H [] H' [(r, .lst ((heldM hs).map V.int))] → Q (.ref r) H'
def lookM (h : HK) : PyData := if h.upto < 0 then .none else .tuple [.int h.worth, .int h.since, .int h.upto]
def spLook (K : PySem.W.Frag) (C : Addr) : Sp := fun vs H Q _ => vs.length = 2 ∧ ∃ (A : HA) (hs : List HK) (c : Lg) (k : Nat) (h : HK), vs = [.ref A.p, .int k] ∧ HR K C A hs H c ∧ Has H c ∧ hs[k]? = some h ∧
  ∀ (v : V) (H' : Hp), Grow H H' → Rp K H' (lookM h) v → Q v H'
def minU (hs : List HK) : Int := ((hs.map fun h => h.upto).min?).getD 0
def maxS (hs : List HK) : Int := ((hs.map fun h => (h.since : Int)).max?).getD 0
def wholeM (hs : List HK) : Option (Int × List Int) := if minU hs < maxS hs then none else if 0 ≤ minU hs then some (minU hs, hs.map fun h => h.worth) else none
def spWhole (K : PySem.W.Frag) (C : Addr) : Sp := fun vs H Q _ => vs.length = 1 ∧ ∃ (A : HA) (hs : List HK) (c : Lg), vs = [.ref A.p] ∧ HR K C A hs H c ∧ Has H c ∧ 0 < hs.length ∧
  (wholeM hs = none → Q .non H) ∧
  (∀ n ws, wholeM hs = some (n, ws) → ∀ (r t : Addr) (H' : Hp), Tr H [] H' [(r, .lst (ws.map V.int))] → H' t = some (.tup [.int n, .ref r]) → Q (.ref t) H')
end Cu

namespace Cu
open PySem PySem.Spec PyProof.Rows L2
section
variable {P : Program} {w : World} {K : PySem.W.Frag} {mg : Str → Option Value} {base : Heap} {C : Addr}
theorem ok_Hinit {tk : Tok} (F : Kd K mg "Hearer" C "Hearer.__init__" s_Hearer_init) (Bm : Blt mg) (CHearer : CHr K C) (km_MOST_KEYS : mg "MOST_KEYS" = some (.int 8 tk)) : Kf P w K mg base 1 "Hearer" C ["self", "keys"] (spHinit K C) := by
  refine F.ok sc_Hearer_init (fun _ _ _ _ _ _ us hl => match us, hl with | [_, _], _ => rfl) len_of fun qual f cdv A0 outer s H vs Q E hr h => ?_
  obtain ⟨_, p, dx, nk, rfl, hk, hk8, hp, k⟩ := h
  refine ⟨_, (pss_cons (ps_if (pt_not (pt_chain op_le op_le pe_int (pv 1) (pe_glob (v := .int 8) rfl km_MOST_KEYS ⟨_, rfl⟩)))
        (pss_one ps_never)
        pss_nil)
      (pss_cons (ps_fld (pv 0) (pe_I (pe_lc (own := [("key", 2)]) (g := (gName 2)) (tt := tYes) rfl sc_Hearer_init.nd (pi_range1 rfl Bm.range (pa_cons (pv 1) pa_nil)) (blkOk_by (N := ["self", "keys", "key"]) (sc := defScope s_Hearer_init) (by decide +kernel)) (fun _ _ _ _ _ => (pg_name (i := 2) sc_Hearer_init.nd rfl (Or.inl rfl))) (fun _ _ _ _ _ => pts_nil) (fun _ _ _ _ _ => pe_int))) rfl)
      (pss_cons (ps_fld (pv 0) (pe_I (pe_lc (own := [("key", 2)]) (g := (gName 2)) (tt := tYes) rfl sc_Hearer_init.nd (pi_range1 rfl Bm.range (pa_cons (pv 1) pa_nil)) (blkOk_by (N := ["self", "keys", "key"]) (sc := defScope s_Hearer_init) (by decide +kernel)) (fun _ _ _ _ _ => (pg_name (i := 2) sc_Hearer_init.nd rfl (Or.inl rfl))) (fun _ _ _ _ _ => pts_nil) (fun _ _ _ _ _ => pe_int))) rfl)
      (pss_cons (ps_fld (pv 0) (pe_I (pe_lc (own := [("key", 2)]) (g := (gName 2)) (tt := tYes) rfl sc_Hearer_init.nd (pi_range1 rfl Bm.range (pa_cons (pv 1) pa_nil)) (blkOk_by (N := ["self", "keys", "key"]) (sc := defScope s_Hearer_init) (by decide +kernel)) (fun _ _ _ _ _ => (pg_name (i := 2) sc_Hearer_init.nd rfl (Or.inl rfl))) (fun _ _ _ _ _ => pts_nil) (fun _ _ _ _ _ => (pe_un un_neg pe_int)))) rfl)
      (pss_one (ps_fld (pv 0) (pe_lc (own := [("key", 2)]) (g := (gName 2)) (tt := tYes) rfl sc_Hearer_init.nd (pi_range1 rfl Bm.range (pa_cons (pv 1) pa_nil)) (blkOk_by (N := ["self", "keys", "key"]) (sc := defScope s_Hearer_init) (by decide +kernel)) (fun _ _ _ _ _ => (pg_name (i := 2) sc_Hearer_init.nd rfl (Or.inl rfl))) (fun _ _ _ _ _ => pts_nil) (fun _ _ _ _ _ => pe_dnewK)) rfl)))))), ?_⟩
  have h0 := Has.one hp nins
  refine ⟨_, rfl, _, _, rfl, rfl, _, rfl, iteP (decide_eq_true (by omega)) ⟨_, _, rfl, rfl, _, rfl, iteM (by simp; omega) ?_⟩⟩
  refine rd_const (v := .int 0) (by rfl) hk8 (fun _ => rfl) (fun _ _ _ q => q) fun p1 H1 t1 => ?_
  have s1 := (show Tr H [(p, .ins C dx [])] H1 [(p1, .lst (List.replicate nk (.int 0))), (p, .ins C dx [])] from t1.right (D := [(p, .ins C dx [])])).swap2
  have e1 : ((0 : Nat) : Int) = 0 := rfl
  refine ⟨_, rfl, p, C, dx, [], rfl, (s1.now h0).head, CHearer.cl, CHearer.n1, (by show 0 < 1000; decide), ?_⟩
  have s2 := s1.put (o' := .ins C dx [("worth", .ref p1)]) h0 nins
  refine rd_const (v := .int 0) (by rfl) hk8 (fun _ => rfl) (fun _ _ _ q => q) fun p2 H2 t2 => ?_
  have s3 := (s2.trans (t2.right (D := [(p, .ins C dx [("worth", .ref p1)]), (p1, .lst (List.replicate nk (.int 0)))]))).swap2
  refine ⟨_, rfl, p, C, dx, [("worth", .ref p1)], rfl, (s3.now h0).head, CHearer.cl, CHearer.n2, (by show 1 < 1000; decide), ?_⟩
  have s4 := s3.put (o' := .ins C dx [("worth", .ref p1), ("since", .ref p2)]) h0 nins
  refine rd_const (v := .int (-1)) (by rfl) hk8 (fun _ => rfl) (fun _ _ _ q => ⟨_, rfl, q⟩) fun p3 H3 t3 => ?_
  have s5 := (s4.trans (t3.right (D := [(p, .ins C dx [("worth", .ref p1), ("since", .ref p2)]), (p2, .lst (List.replicate nk (.int 0))), (p1, .lst (List.replicate nk (.int 0)))]))).swap2
  refine ⟨_, rfl, p, C, dx, [("worth", .ref p1), ("since", .ref p2)], rfl, (s5.now h0).head, CHearer.cl, CHearer.n3, (by show 2 < 1000; decide), ?_⟩
  have s6 := s5.put (o' := .ins C dx [("worth", .ref p1), ("since", .ref p2), ("upto", .ref p3)]) h0 nins
  refine ⟨_, rfl, _, rfl, by omega, by omega, fun D hD => ?_⟩
  refine lc_range (lo := 0) (n := (nk : Int).toNat) (fun m H4 => ∃ ds : List Addr, ds.length = m ∧ Tr H [(p, .ins C dx [])] H4 ((D, .lst (ds.map V.ref)) :: (p, HO.ins C dx [("worth", V.ref p1), ("since", V.ref p2), ("upto", V.ref p3)]) :: (ds.map (fun d => (d, HO.dK [])) ++ [(p3, HO.lst (List.replicate nk (V.int (-1)))), (p2, HO.lst (List.replicate nk (V.int 0))), (p1, HO.lst (List.replicate nk (V.int 0)))])))
    ⟨[], rfl, s6.new hD nl⟩ ?_ ?_
  · rintro m H4 hm ⟨ds, hl, t⟩
    refine ⟨rfl, fun d hd => ⟨_, by rw [upd_ne (ne_of_none (t.now h0).head hd)]; exact (t.now h0).head, by rw [List.length_map, hl]; exact small1000 (by omega), ds ++ [d], by rw [List.length_append, hl]; rfl, ?_⟩⟩
    have t2 := (t.new (o := .dK []) hd ndk).swap2.put (o' := .lst (ds.map V.ref ++ [.ref d])) h0 nl
    rw [List.map_append, List.map_append]
    refine t2.perm (List.Perm.cons _ ?_)
    have : ((d, HO.dK []) :: (p, HO.ins C dx [("worth", .ref p1), ("since", .ref p2), ("upto", .ref p3)]) :: (ds.map (fun d => (d, HO.dK [])) ++ [(p3, HO.lst (List.replicate nk (V.int (-1)))), (p2, HO.lst (List.replicate nk (V.int 0))), (p1, HO.lst (List.replicate nk (V.int 0)))])).Perm
        ((p, HO.ins C dx [("worth", .ref p1), ("since", .ref p2), ("upto", .ref p3)]) :: ((d, HO.dK []) :: (ds.map (fun d => (d, HO.dK [])) ++ [(p3, HO.lst (List.replicate nk (V.int (-1)))), (p2, HO.lst (List.replicate nk (V.int 0))), (p1, HO.lst (List.replicate nk (V.int 0)))]))) := List.Perm.swap _ _ _
    refine this.trans (List.Perm.cons _ ?_)
    rw [List.append_assoc]
    exact List.perm_middle.symm
  · rintro H4 ⟨ds, hl, t⟩
    rw [Int.toNat_natCast] at hl
    refine ⟨_, rfl, p, C, dx, [("worth", .ref p1), ("since", .ref p2), ("upto", .ref p3)], rfl, (t.now h0).tail.head, CHearer.cl, CHearer.n4, (by show 3 < 1000; decide), ?_⟩
    have t2 := t.swap2.put (o' := .ins C dx [("worth", .ref p1), ("since", .ref p2), ("upto", .ref p3), ("aside", .ref D)]) h0 nins
    refine k ⟨p, dx, p1, p2, p3, D, ds⟩ _ _ rfl ⟨List.replicate nk [], rfl, by rw [List.length_replicate]; exact hl, by rw [List.length_replicate, List.length_replicate], fun j h kvs e1 e2 => ?_⟩ (t2.perm (List.Perm.cons _ ?_))
    · rw [List.getElem?_replicate] at e1 e2
      by_cases hj : j < nk
      · rw [if_pos hj] at e1 e2
        cases e1
        cases e2
        rfl
      · rw [if_neg hj] at e1
        cases e1
    · have ez : List.zipWith (fun d k => (d, HO.dK k)) ds (List.replicate nk []) = ds.map fun d => (d, HO.dK []) := by
        apply List.ext_getElem?
        intro j
        rw [List.getElem?_zipWith, List.getElem?_map, List.getElem?_replicate]
        by_cases hj : j < nk
        · rw [if_pos hj]
          cases ds[j]? <;> rfl
        · rw [if_neg hj, List.getElem?_eq_none (by omega)]
          rfl
      simp only [List.map_replicate, HK.ini]
      rw [ez]
      show ((D, HO.lst (ds.map V.ref)) :: ds.map (fun d => (d, HO.dK [])) ++ [(p3, _), (p2, _), (p1, _)]).Perm ([(p1, _), (p2, _), (p3, _)] ++ ((D, HO.lst (ds.map V.ref)) :: ds.map (fun d => (d, HO.dK []))))
      refine List.perm_append_comm.trans (List.Perm.append_right _ ?_)
      exact (List.reverse_perm _).symm
end
end Cu

namespace Cu
open PySem PySem.Spec PyProof.Rows L2
section
variable {P : Program} {w : World} {K : PySem.W.Frag} {mg : Str → Option Value} {base : Heap} {C : Addr}
theorem ok_known (F : Md K C "known" "Hearer.known" s_Hearer_known) (Bm : Blt mg) (CHearer : CHr K C) : Mf P w K mg base 1 C "known" ["self"] (spKnown K C) := by
  refine F.ok sc_Hearer_known (fun _ _ _ _ _ _ us hl => match us, hl with | [_], _ => rfl) len_of fun qual f cdv A0 outer s H vs Q E hr h => ?_
  obtain ⟨_, A, hs, c, rfl, r, hc, k⟩ := h
  refine ⟨_, (pss_one (ps_ret (pe_callTy call_list_of rfl Bm.list (by decide +kernel) (pa_cons (pe_fld (pv 0) rfl) pa_nil)))), ?_⟩
  refine ⟨_, rfl, _, C, _, _, _, rfl, r.at_p hc, CHearer.cl, CHearer.n3, hF3 A, _, _, rfl, .inl (SqL.of (r.at3 hc)), fun l hl => k l _ ?_⟩
  rw [List.map_map]
  exact (Tr.refl H []).new hl nl
end
end Cu

namespace Cu
open PySem PySem.Spec PyProof.Rows L2
section
variable {P : Program} {w : World} {K : PySem.W.Frag} {mg : Str → Option Value} {base : Heap} {C : Addr}
theorem ok_held (F : Md K C "held" "Hearer.held" s_Hearer_held) (Bm : Blt mg) (CHearer : CHr K C) : Mf P w K mg base 1 C "held" ["self"] (spHeld K C) := by
  refine F.ok sc_Hearer_held (fun _ _ _ _ _ _ us hl => match us, hl with | [_], _ => rfl) len_of fun qual f cdv A0 outer s H vs Q E hr h => ?_
  obtain ⟨_, A, hs, c, rfl, r, hc, hsz, k⟩ := h
  refine ⟨_, (pss_cons (ps_set (i := 1) sc_Hearer_held.nd rfl (Or.inl rfl) (pe_lst pa_nil))
      (pss_cons (ps_for PassesOwn.never rfl (pi_list (pe_fld (pv 0) rfl)) (pg_name (i := 2) sc_Hearer_held.nd rfl (Or.inl rfl))
        (pss_one (ps_expr (pe_bm PySem.F.plainAttrs_list PySem.F.slot_list_extend PySem.F.type_list_extend mt_extend (pv 1) (pa_cons (pe_callTy (call_listD rfl) rfl Bm.list (by decide +kernel) (pa_cons (pv 2) pa_nil)) pa_nil)))))
      (pss_one (ps_ret (pe_callB cr_sortedI rfl Bm.sorted (by decide +kernel) (pa_cons (pv 1) pa_nil)))))), ?_⟩
  refine ⟨(by show 0 ≤ sizeLine; decide), fun p hp => ?_⟩
  have t1 := (Tr.refl H []).new (o := .lst []) hp nl
  have up : ∀ {H2 : Hp} {O : Lg}, Tr H [] H2 O → Has H2 c ∧ HR K C A hs H2 c := fun t => ⟨(t.has c hc).right, r.mono t.mono⟩
  have hds : A.ds.length = hs.length := by
    obtain ⟨_, _, l1, _⟩ := r.ex
    exact l1
  refine ⟨_, rfl, _, C, _, _, _, rfl, (up t1).2.at_p (up t1).1, CHearer.cl, CHearer.n4, hF4 A, _, rfl, ⟨_, SqL.of ((up t1).2.at4 (up t1).1)⟩, for_list (K := K) (a := A.l4) (xs := A.ds.map V.ref)
    (fun i σ H2 => ∃ v : Option V, σ = [some (.ref A.p), some (.ref p), v] ∧ Tr H [] H2 [(p, .lst ((((hs.take i).map fun h => asN h.aside).flatten).map V.int))]) ⟨none, rfl, t1⟩ (fun i σ H2 _ ⟨_, _, t⟩ => SqL.of ((up t).2.at4 (up t).1)) ?_ ?_⟩
  · rintro i x σ H2 hi ⟨v, rfl, t⟩
    have hi' : i < hs.length := by
      have := (List.getElem?_eq_some_iff.mp hi).1
      rw [List.length_map] at this
      omega
    obtain ⟨h, eh⟩ : ∃ h, hs[i]? = some h := ⟨hs[i], List.getElem?_eq_getElem hi'⟩
    obtain ⟨d, kvs, ed, hd, ok⟩ := (up t).2.dict (up t).1 eh
    rw [List.getElem?_map, ed] at hi
    cases hi
    refine ⟨_, rfl, .inl ⟨rfl, _, SqL.of t.own.head⟩, _, rfl, d, kvs, rfl, .inl hd, fun l hl => ?_⟩
    have ek : (kvs.map fun kv => kV kv.1) = (asN h.aside).map V.int := by
      have := congrArg (List.map kV) ok.keys
      rw [List.map_map, List.map_map] at this
      exact this
    have hle : (((hs.take i).map fun h => asN h.aside).flatten).length + (asN h.aside).length ≤ (hs.map fun h => asN h.aside).flatten.length := by
      have e1 : (hs.map fun h => asN h.aside) = ((hs.take (i + 1)).map fun h => asN h.aside) ++ ((hs.drop (i + 1)).map fun h => asN h.aside) := by
        rw [← List.map_append, List.take_append_drop]
      rw [e1, take_snoc eh, List.map_append, List.flatten_append, List.flatten_append, List.length_append, List.length_append]
      simp
    have np : p ≠ l := ne_of_none t.own.head hl
    refine ⟨_, _, _, _, rfl, rfl, by rw [upd_ne np]; exact t.own.head, upd_same, ?_, ?_⟩
    · rw [ek, List.length_map, List.length_map]
      exact Nat.le_trans (Nat.le_trans hle hsz) (by decide)
    · refine ⟨_, rfl, ?_⟩
      have e2 : (((hs.take (i + 1)).map fun h => asN h.aside).flatten).map V.int = (((hs.take i).map fun h => asN h.aside).flatten).map V.int ++ (kvs.map fun kv => kV kv.1) := by
        rw [ek, take_snoc eh, List.map_append, List.flatten_append, List.map_append]
        simp
      rw [e2]
      exact (t.old hl).put .nil nl
  · rintro σ H2 ⟨v, rfl, t⟩
    rw [List.take_of_length_le (by rw [List.length_map]; omega)] at t
    refine ⟨_, rfl, p, _, rfl, SqL.of t.own.head, fun ns q hperm hsort hq => ?_⟩
    have e := srt_eq hperm hsort
    subst e
    exact k q _ ((t.new hq nl).swap2.tail)
end
end Cu

namespace Cu
open PySem PySem.Spec PyProof.Rows L2
section
variable {P : Program} {w : World} {K : PySem.W.Frag} {mg : Str → Option Value} {base : Heap} {C : Addr}
theorem ok_look (F : Md K C "look" "Hearer.look" s_Hearer_look) (Bm : Blt mg) (CHearer : CHr K C) : Mf P w K mg base 1 C "look" ["self", "key"] (spLook K C) := by
  refine F.ok sc_Hearer_look (fun _ _ _ _ _ _ us hl => match us, hl with | [_, _], _ => rfl) len_of fun qual f cdv A0 outer s H vs Q E hr h => ?_
  obtain ⟨_, A, hs, c, k, h, rfl, r, hc, eh, go⟩ := h
  have hp := r.at_p hc
  have hk : k < hs.length := (List.getElem?_eq_some_iff.mp eh).1
  refine ⟨_, (pss_cons (ps_if (pt_not (pt_chain op_le op_lt pe_int (pv 1) (pe_callB call_len_seq rfl Bm.len (by decide +kernel) (pa_cons (pe_fld (pv 0) rfl) pa_nil))))
        (pss_one ps_never)
        pss_nil)
      (pss_cons (ps_if (pt_cmpR op_lt (pe_ix ix_list (pe_fld (pv 0) rfl) (pv 1) (fun _ _ => rfl)) pe_int (nomark _))
        (pss_one (ps_ret pe_non))
        pss_nil)
      (pss_one (ps_ret (pe_tup (pa_cons (pe_ix ix_list (pe_fld (pv 0) rfl) (pv 1) (fun _ _ => rfl)) (pa_cons (pe_ix ix_list (pe_fld (pv 0) rfl) (pv 1) (fun _ _ => rfl)) (pa_cons (pe_ix ix_list (pe_fld (pv 0) rfl) (pv 1) (fun _ _ => rfl)) pa_nil)))))))), ?_⟩
  refine ⟨_, rfl, _, _, rfl, rfl, _, rfl, iteP (decide_eq_true (by omega)) ⟨_, rfl, _, C, _, _, _, rfl, hp, CHearer.cl, CHearer.n1, hF1 A, _, _, rfl, .inl (SqL.of (r.at1 hc)), _, _, rfl, rfl, _, rfl, iteM (by simp; omega) ?_⟩⟩
  have a1 : atI (hs.map fun h => V.int h.worth) (k : Int) = some (V.int h.worth) := at_of (j := k) rfl (by rw [List.getElem?_map, eh]; rfl)
  have a2 : atI (hs.map fun h => V.int h.since) (k : Int) = some (V.int h.since) := at_of (j := k) rfl (by rw [List.getElem?_map, eh]; rfl)
  have a3 : atI (hs.map fun h => V.int h.upto) (k : Int) = some (V.int h.upto) := at_of (j := k) rfl (by rw [List.getElem?_map, eh]; rfl)
  refine ⟨_, rfl, _, C, _, _, _, rfl, hp, CHearer.cl, CHearer.n3, hF3 A, _, rfl, _, _, _, _, rfl, rfl, SqL.of (r.at3 hc), a3, _, _, rfl, rfl, _, rfl, ite2 (fun h0 => ?_) fun h0 => ?_⟩
  · refine go _ H (Grow.refl H) ?_
    rw [lookM, if_pos (of_decide_eq_true h0)]
    exact .non
  · refine ⟨_, rfl, _, C, _, _, _, rfl, hp, CHearer.cl, CHearer.n1, hF1 A, _, rfl, _, _, _, _, rfl, rfl, SqL.of (r.at1 hc), a1, _, rfl, _, C, _, _, _, rfl, hp, CHearer.cl, CHearer.n2, hF2 A, _, rfl, _, _, _, _, rfl, rfl, SqL.of (r.at2 hc), a2,
      _, rfl, _, C, _, _, _, rfl, hp, CHearer.cl, CHearer.n3, hF3 A, _, rfl, _, _, _, _, rfl, rfl, SqL.of (r.at3 hc), a3, ⟨(by show 3 ≤ sizeLine; decide), fun t ht => go _ _ (Grow.new ht) ?_⟩⟩
    rw [lookM, if_neg (of_decide_eq_false (by simpa using h0))]
    exact .tup upd_same (.cons .int (.cons .int (.cons .int .nil)))
end
end Cu

namespace Cu
open PySem PySem.Spec PyProof.Rows L2
section
variable {P : Program} {w : World} {K : PySem.W.Frag} {mg : Str → Option Value} {base : Heap} {C : Addr}
theorem ok_whole (F : Md K C "whole" "Hearer.whole" s_Hearer_whole) (Bm : Blt mg) (CHearer : CHr K C) : Mf P w K mg base 1 C "whole" ["self"] (spWhole K C) := by
  refine F.ok sc_Hearer_whole (fun _ _ _ _ _ _ us hl => match us, hl with | [_], _ => rfl) len_of fun qual f cdv A0 outer s H vs Q E hr h => ?_
  obtain ⟨_, A, hs, c, rfl, r, hc, hne, kn, ks⟩ := h
  have hp := r.at_p hc
  have h3 := r.at3 hc
  have h2 := r.at2 hc
  rw [show (hs.map fun h => V.int h.upto) = (hs.map fun h => h.upto).map V.int by rw [List.map_map]; rfl] at h3
  rw [show (hs.map fun h => V.int h.since) = (hs.map fun h => (h.since : Int)).map V.int by rw [List.map_map]; rfl] at h2
  refine ⟨_, (pss_cons (ps_set (i := 1) sc_Hearer_whole.nd rfl (Or.inl rfl) (pe_callB (cr_min rfl) rfl Bm.min (by decide +kernel) (pa_cons (pe_fld (pv 0) rfl) pa_nil)))
      (pss_cons (ps_if (pt_cmpR op_lt (pv 1) (pe_callB (cr_max rfl) rfl Bm.max (by decide +kernel) (pa_cons (pe_fld (pv 0) rfl) pa_nil)) (nomark _))
        (pss_one (ps_ret pe_non))
        pss_nil)
      (pss_one (ps_ret (pe_ifExp (pt_cmpR op_ge (pv 1) pe_int (nomark _)) (pe_tup (pa_cons (pv 1) (pa_cons (pe_callTy call_list_of rfl Bm.list (by decide +kernel) (pa_cons (pe_fld (pv 0) rfl) pa_nil)) pa_nil))) pe_non))))), ?_⟩
  refine ⟨_, rfl, _, C, _, _, _, rfl, hp, CHearer.cl, CHearer.n3, hF3 A, A.l3, hs.map fun h => h.upto, rfl, SqL.of h3, by rw [List.length_map]; exact hne, fun m m1 m2 => ?_⟩
  have em : minU hs = m := by
    rw [minU, List.min?_eq_some_iff.mpr ⟨m1, m2⟩]
    rfl
  refine ⟨_, rfl, _, rfl, _, C, _, _, _, rfl, hp, CHearer.cl, CHearer.n2, hF2 A, A.l2, hs.map fun h => (h.since : Int), rfl, SqL.of h2, by rw [List.length_map]; exact hne, fun g g1 g2 => ?_⟩
  have eg : maxS hs = g := by
    rw [maxS, List.max?_eq_some_iff.mpr ⟨g1, g2⟩]
    rfl
  refine ⟨_, _, rfl, rfl, _, rfl, ite2 (fun h0 => ?_) fun h0 => ?_⟩
  · refine kn ?_
    rw [wholeM, if_pos (by rw [em, eg]; exact of_decide_eq_true h0)]
  · have h0' : ¬ minU hs < maxS hs := by
      rw [em, eg]
      exact of_decide_eq_false (by simpa using h0)
    refine ⟨_, rfl, _, _, rfl, rfl, _, rfl, ite2 (fun h1 => ?_) fun h1 => ?_⟩
    · refine ⟨_, rfl, _, rfl, _, C, _, _, _, rfl, hp, CHearer.cl, CHearer.n1, hF1 A, _, _, rfl, .inl (SqL.of (r.at1 hc)), fun l hl => ⟨(by show 2 ≤ sizeLine; decide), fun t ht => ?_⟩⟩
      refine ks m (hs.map fun h => h.worth) ?_ l t _ ?_ upd_same
      · rw [wholeM, if_neg h0', if_pos (by rw [em]; exact of_decide_eq_true h1), em]
      · rw [List.map_map]
        exact ((Tr.refl H []).new hl nl).old ht
    · refine kn ?_
      rw [wholeM, if_neg h0', if_neg (by rw [em]; exact of_decide_eq_false (by simpa using h1))]
end
end Cu

namespace Cu
open PySem PySem.Spec PyProof.Rows L2
/-! the mirror's steps -/
theorem findA_drop {as : List As} {n m : Int} (h : n ≠ m) : findA (dropA as m) n = findA as n := by
  induction as with
  | nil => rfl
  | cons a as ih =>
    by_cases hm : (a.n : Int) = m
    · have e1 : dropA (a :: as) m = dropA as m := by simp [dropA, hm]
      have e2 : findA (a :: as) n = findA as n := by simp [findA, show ¬ (a.n : Int) = n by omega]
      rw [e1, e2, ih]
    · have e1 : dropA (a :: as) m = a :: dropA as m := by simp [dropA, hm]
      rw [e1]
      by_cases hn : (a.n : Int) = n
      · simp [findA, hn]
      · have e2 : ∀ bs, findA (a :: bs) n = findA bs n := fun bs => by simp [findA, hn]
        rw [e2, e2, ih]
theorem findA_some {as : List As} {n : Int} (h : n ∈ asN as) : ∃ a, findA as n = some a ∧ (a.n : Int) = n := by
  induction as with
  | nil => cases h
  | cons b as ih =>
    by_cases hb : (b.n : Int) = n
    · exact ⟨b, by simp [findA, hb], hb⟩
    · have h' : n ∈ asN as := by
        rcases List.mem_cons.mp (show n ∈ (b.n : Int) :: asN as from h) with e | e
        · exact absurd e.symm hb
        · exact e
      obtain ⟨a, ha, e⟩ := ih h'
      exact ⟨a, by simpa [findA, hb] using ha, e⟩
theorem findA_n {as : List As} {n : Int} {a : As} (h : findA as n = some a) : (a.n : Int) = n := by
  have := List.find?_some h
  simpa using this
theorem fstep_find {st : HK × List Int} {n m : Int} (h : n ≠ m) : findA (HK.fstep st m).1.aside n = findA st.1.aside n := by
  unfold HK.fstep
  cases hf : findA st.1.aside m with
  | none => rfl
  | some a =>
    dsimp only
    split
    · exact findA_drop h
    · split
      · exact findA_drop h
      · rfl
theorem fold_find {n : Int} : ∀ {l : List Int} {st : HK × List Int}, n ∉ l → findA (l.foldl HK.fstep st).1.aside n = findA st.1.aside n
  | [], _, _ => rfl
  | m :: l, st, h => by
    rw [List.foldl_cons, fold_find fun q => h (List.mem_cons_of_mem _ q), fstep_find fun q => h (by rw [q]; exact List.mem_cons_self)]
theorem fold_len {l : List Int} {st : HK × List Int} : (l.foldl HK.fstep st).2.length ≤ st.2.length + l.length := by
  induction l generalizing st with
  | nil => exact Nat.le_refl _
  | cons n l ih =>
    rw [List.foldl_cons]
    refine Nat.le_trans ih ?_
    have : (HK.fstep st n).2.length ≤ st.2.length + 1 := by
      unfold HK.fstep
      cases findA st.1.aside n with
      | none => exact Nat.le_succ _
      | some a =>
        dsimp only
        split
        · exact Nat.le_succ _
        · split
          · simp
          · exact Nat.le_succ _
    rw [List.length_cons]
    omega
theorem srt_perm (ns : List Int) : (srt ns).Perm ns := List.mergeSort_perm ns _
theorem wd_set (b : Bool) : decide (V.str (wd b) = V.str "set") = b := by cases b <;> decide +kernel
theorem wd_add (b : Bool) : decide (V.str (wd b) = V.str "add") = !b := by cases b <;> decide +kernel
/-- what a key's changes put aside must be, to be sorted -/
structure Wf (h : HK) : Prop where
  nd : (asN h.aside).Nodup
  few : h.aside.length < 122
def prt (hs : List HK) (l : Letter) (m : Nat) : List HK := hs.mapIdx fun k h => if k < m then (hearK k h l).1 else h
def fnd (hs : List HK) (l : Letter) (m : Nat) : List Int := ((hs.mapIdx fun k h => (hearK k h l).2).take m).flatten
theorem prt_get {hs : List HK} {l : Letter} {m k : Nat} {h : HK} (e : hs[k]? = some h) : (prt hs l m)[k]? = some (if k < m then (hearK k h l).1 else h) := by
  rw [prt, List.getElem?_mapIdx, e]
  rfl
theorem prt_len (hs : List HK) (l : Letter) (m : Nat) : (prt hs l m).length = hs.length := by simp [prt]
theorem prt_succ {hs : List HK} {l : Letter} {m : Nat} {h : HK} (e : hs[m]? = some h) : prt hs l (m + 1) = (prt hs l m).set m (hearK m h l).1 := by
  apply List.ext_getElem?
  intro k
  cases ek : hs[k]? with
  | none =>
    have hk := List.getElem?_eq_none_iff.mp ek
    rw [List.getElem?_eq_none (by rw [prt_len]; exact hk), List.getElem?_eq_none (by rw [List.length_set, prt_len]; exact hk)]
  | some g =>
    rw [prt_get ek]
    by_cases hk : m = k
    · subst hk
      rw [e] at ek
      cases ek
      rw [List.getElem?_set_self (by rw [prt_len]; exact (List.getElem?_eq_some_iff.mp e).1), if_pos (Nat.lt_succ_self _)]
    · rw [List.getElem?_set_ne hk, prt_get ek]
      congr 1
      by_cases h1 : k < m
      · rw [if_pos h1, if_pos (by omega)]
      · rw [if_neg h1, if_neg (by omega)]
theorem fnd_succ {hs : List HK} {l : Letter} {m : Nat} {h : HK} (e : hs[m]? = some h) : fnd hs l (m + 1) = fnd hs l m ++ (hearK m h l).2 := by
  unfold fnd
  rw [take_snoc (x := (hearK m h l).2) (by rw [List.getElem?_mapIdx, e]; rfl), List.flatten_append]
  simp
theorem prt_all {hs : List HK} {l : Letter} {m : Nat} (h : hs.length ≤ m) : prt hs l m = hear hs l := by
  apply List.ext_getElem?
  intro k
  cases ek : hs[k]? with
  | none =>
    have hk := List.getElem?_eq_none_iff.mp ek
    rw [List.getElem?_eq_none (by rw [prt_len]; exact hk), List.getElem?_eq_none (by rw [hear_len]; exact hk)]
  | some g =>
    have hk := (List.getElem?_eq_some_iff.mp ek).1
    rw [prt_get ek, if_pos (by omega), hear, List.getElem?_mapIdx, ek]
    rfl
theorem fnd_all {hs : List HK} {l : Letter} {m : Nat} (h : hs.length ≤ m) : fnd hs l m = heard hs l := by
  unfold fnd heard
  rw [List.take_of_length_le (by simpa using h)]
theorem flat_nil {xs : List (List Int)} (h : ∀ x ∈ xs, x = []) : xs.flatten = [] := by
  induction xs with
  | nil => rfl
  | cons x xs ih =>
    rw [List.flatten_cons, h x List.mem_cons_self, ih fun y hy => h y (List.mem_cons_of_mem _ hy)]
    rfl
/-- a letter that does nothing with the keys ahead of b, nothing with those from e on -/
theorem prt_low {hs : List HK} {l : Letter} {b : Nat} (h : ∀ k g, k < b → hearK k g l = (g, [])) : prt hs l b = hs ∧ fnd hs l b = [] := by
  constructor
  · apply List.ext_getElem?
    intro k
    cases ek : hs[k]? with
    | none => rw [List.getElem?_eq_none (by rw [prt_len]; exact List.getElem?_eq_none_iff.mp ek)]
    | some g =>
      rw [prt_get ek]
      split
      · rename_i hk
        rw [h k g hk]
      · rfl
  · unfold fnd
    have : ∀ x ∈ (hs.mapIdx fun k h => (hearK k h l).2).take b, x = [] := fun x hx => by
      obtain ⟨k, hk⟩ := List.getElem?_of_mem hx
      have hkb : k < b := by
        have := (List.getElem?_eq_some_iff.mp hk).1
        rw [List.length_take] at this
        omega
      rw [List.getElem?_take_of_lt hkb, List.getElem?_mapIdx] at hk
      cases ek : hs[k]? with
      | none =>
        rw [ek] at hk
        cases hk
      | some g =>
        rw [ek] at hk
        have e1 : (hearK k g l).2 = x := Option.some.inj hk
        rw [← e1, h k g hkb]
    exact flat_nil this
theorem prt_high {hs : List HK} {l : Letter} {e : Nat} (h : ∀ k g, e ≤ k → hearK k g l = (g, [])) : prt hs l e = hear hs l ∧ fnd hs l e = heard hs l := by
  constructor
  · apply List.ext_getElem?
    intro k
    cases ek : hs[k]? with
    | none => rw [List.getElem?_eq_none (by rw [prt_len]; exact List.getElem?_eq_none_iff.mp ek), List.getElem?_eq_none (by rw [hear_len]; exact List.getElem?_eq_none_iff.mp ek)]
    | some g =>
      rw [prt_get ek, hear, List.getElem?_mapIdx, ek]
      split
      · rfl
      · rename_i hk
        show some g = some (hearK k g l).1
        rw [h k g (by omega)]
  · unfold heard fnd
    have : ∀ x ∈ (hs.mapIdx fun k h => (hearK k h l).2).drop e, x = [] := fun x hx => by
      obtain ⟨k, hk⟩ := List.getElem?_of_mem hx
      rw [List.getElem?_drop, List.getElem?_mapIdx] at hk
      cases ek : hs[e + k]? with
      | none =>
        rw [ek] at hk
        cases hk
      | some g =>
        rw [ek] at hk
        have e1 : (hearK (e + k) g l).2 = x := Option.some.inj hk
        rw [← e1, h (e + k) g (by omega)]
    have h0 : ((hs.mapIdx fun k h => (hearK k h l).2).drop e).flatten = [] := flat_nil this
    conv => rhs; rw [← List.take_append_drop e (hs.mapIdx fun k h => (hearK k h l).2), List.flatten_append, h0, List.append_nil]
section
variable {K : PySem.W.Frag} {H : Hp}
theorem Rp.chg_inv {n ahead : Nat} {c : Ch} {v : V} (h : Rp K H (Letter.enc (.change n c ahead)) v) : ∃ a, v = .ref a ∧ H a = some (.tup [.str "change", .int n, .int c.key, .str (wd c.set), .int c.worth, .int ahead]) := by
  obtain ⟨a, xs, e, f, r⟩ := Rp.tup_inv h
  obtain ⟨v1, r1, e1, h1, r⟩ := r.cons_inv
  obtain ⟨v2, r2, e2, h2, r⟩ := r.cons_inv
  obtain ⟨v3, r3, e3, h3, r⟩ := r.cons_inv
  obtain ⟨v4, r4, e4, h4, r⟩ := r.cons_inv
  obtain ⟨v5, r5, e5, h5, r⟩ := r.cons_inv
  obtain ⟨v6, r6, e6, h6, r⟩ := r.cons_inv
  have := r.nil_inv
  subst this e6 e5 e4 e3 e2 e1
  have h1 := Rp.str_iff.mp h1
  have h2 := Rp.int_iff.mp h2
  have h3 := Rp.int_iff.mp h3
  have h4 := Rp.str_iff.mp h4
  have h5 := Rp.int_iff.mp h5
  have h6 := Rp.int_iff.mp h6
  subst h1 h2 h3 h4 h5 h6
  exact ⟨a, e, f⟩
theorem Rp.part_inv {n b : Nat} {rows : List (Int × Nat)} {v : V} (h : Rp K H (Letter.enc (.part n b rows)) v) :
    ∃ a t xs, v = .ref a ∧ H a = some (.tup [.str "part", .int n, .int b, .ref t]) ∧ H t = some (.tup xs) ∧ xs.length = rows.length ∧ ∀ (i : Nat) r, rows[i]? = some r → ∃ q, xs[i]? = some (.ref q) ∧ H q = some (.tup [.int r.1, .int r.2]) := by
  obtain ⟨a, xs, e, f, r⟩ := Rp.tup_inv h
  obtain ⟨v1, r1, e1, h1, r⟩ := r.cons_inv
  obtain ⟨v2, r2, e2, h2, r⟩ := r.cons_inv
  obtain ⟨v3, r3, e3, h3, r⟩ := r.cons_inv
  obtain ⟨v4, r4, e4, h4, r⟩ := r.cons_inv
  have := r.nil_inv
  subst this e4 e3 e2 e1
  have h1 := Rp.str_iff.mp h1
  have h2 := Rp.int_iff.mp h2
  have h3 := Rp.int_iff.mp h3
  obtain ⟨t, ys, e4, f4, r4⟩ := h4.tup_inv
  subst h1 h2 h3 e4
  refine ⟨a, t, ys, e, f, f4, by rw [r4.length, List.length_map], fun i r hr => ?_⟩
  obtain ⟨u, hu, ru⟩ := r4.get (i := i) (d := .tuple [.int r.1, .int r.2]) (by rw [List.getElem?_map, hr]; rfl)
  obtain ⟨q, zs, e5, f5, r5⟩ := ru.tup_inv
  obtain ⟨w1, z1, e6, g1, r5⟩ := r5.cons_inv
  obtain ⟨w2, z2, e7, g2, r5⟩ := r5.cons_inv
  have := r5.nil_inv
  subst this e7 e6 e5
  have g1 := Rp.int_iff.mp g1
  have g2 := Rp.int_iff.mp g2
  subst g1 g2
  exact ⟨q, hu, f5⟩
theorem Rp.beat_inv {n : Nat} {lasts : List Nat} {v : V} (h : Rp K H (Letter.enc (.beat n lasts)) v) :
    ∃ a t, v = .ref a ∧ H a = some (.tup [.str "beat", .int n, .ref t]) ∧ H t = some (.tup (lasts.map fun k : Nat => V.int k)) := by
  obtain ⟨a, xs, e, f, r⟩ := Rp.tup_inv h
  obtain ⟨v1, r1, e1, h1, r⟩ := r.cons_inv
  obtain ⟨v2, r2, e2, h2, r⟩ := r.cons_inv
  obtain ⟨v3, r3, e3, h3, r⟩ := r.cons_inv
  have := r.nil_inv
  subst this e3 e2 e1
  have h1 := Rp.str_iff.mp h1
  have h2 := Rp.int_iff.mp h2
  obtain ⟨t, ys, e4, f4, r4⟩ := h3.tup_inv
  subst h1 h2 e4
  have ey : ys = lasts.map fun k : Nat => V.int k := by
    have : (lasts.map fun k : Nat => PyData.int k) = (lasts.map fun k : Nat => (k : Int)).map PyData.int := by
      rw [List.map_map]
      rfl
    rw [this] at r4
    have := r4.ints
    rw [this, List.map_map]
    rfl
  subst ey
  exact ⟨a, t, e, f, f4⟩
end
def spDo (K : PySem.W.Frag) (C : Addr) : Sp := fun vs H Q _ => vs.length = 2 ∧ ∃ (A : HA) (hs : List HK) (c : Lg) (v : V) (n ahead : Nat) (ch : Ch) (h : HK), vs = [.ref A.p, v] ∧ HR K C A hs H c ∧ Has H c ∧ Rp K H (Letter.enc (.change n ch ahead)) v ∧ hs[ch.key]? = some h ∧
  ∀ (c' : Lg) (H' : Hp), HR K C A (hs.set ch.key (h.done n ch.set ch.worth)) H' c' → Tr H c H' c' → Q .non H'
def spFreed (K : PySem.W.Frag) (C : Addr) : Sp := fun vs H Q _ => vs.length = 2 ∧ ∃ (A : HA) (hs : List HK) (c : Lg) (k : Nat) (h : HK), vs = [.ref A.p, .int k] ∧ HR K C A hs H c ∧ Has H c ∧ hs[k]? = some h ∧ Wf h ∧
  ∀ (r : Addr) (c' : Lg) (H' : Hp), HR K C A (hs.set k h.free.1) H' c' → Tr H c H' ((r, .lst (h.free.2.map V.int)) :: c') → Q (.ref r) H'
def spChanged (K : PySem.W.Frag) (C : Addr) : Sp := fun vs H Q _ => vs.length = 2 ∧ ∃ (A : HA) (hs : List HK) (c : Lg) (v : V) (n ahead : Nat) (ch : Ch) (h : HK), vs = [.ref A.p, v] ∧ HR K C A hs H c ∧ Has H c ∧ Rp K H (Letter.enc (.change n ch ahead)) v ∧ hs[ch.key]? = some h ∧ Wf h ∧
  ∀ (r : Addr) (c' : Lg) (H' : Hp), HR K C A (hs.set ch.key (h.chg n ch ahead).1) H' c' → Tr H c H' ((r, .lst ((h.chg n ch ahead).2.map V.int)) :: c') → Q (.ref r) H'
def spHear (K : PySem.W.Frag) (C : Addr) : Sp := fun vs H Q _ => vs.length = 2 ∧ ∃ (A : HA) (hs : List HK) (c : Lg) (v : V) (l : Letter), vs = [.ref A.p, v] ∧ HR K C A hs H c ∧ Has H c ∧ Rp K H l.enc v ∧ hs.length ≤ 8 ∧ (∀ h ∈ hs, Wf h) ∧
  (match l with | .change _ ch _ => ch.key < hs.length | .part _ b rows => b + rows.length ≤ hs.length | .beat _ lasts => lasts.length = hs.length) ∧
  ∀ (r : Addr) (c' : Lg) (H' : Hp), HR K C A (hear hs l) H' c' → Tr H c H' ((r, .lst ((heard hs l).map V.int)) :: c') → Q (.ref r) H'
def spCopied (K : PySem.W.Frag) (C : Addr) : Sp := fun vs H Q _ => vs.length = 2 ∧ ∃ (A : HA) (hs : List HK) (c : Lg) (v : V) (n b : Nat) (rows : List (Int × Nat)), vs = [.ref A.p, v] ∧ HR K C A hs H c ∧ Has H c ∧ Rp K H (Letter.enc (.part n b rows)) v ∧ hs.length ≤ 8 ∧ (∀ h ∈ hs, Wf h) ∧ b + rows.length ≤ hs.length ∧
  ∀ (r : Addr) (c' : Lg) (H' : Hp), HR K C A (hear hs (.part n b rows)) H' c' → Tr H c H' ((r, .lst ((heard hs (.part n b rows)).map V.int)) :: c') → Q (.ref r) H'
theorem HR.len {K : PySem.W.Frag} {C : Addr} {A : HA} {hs : List HK} {H : Hp} {c : Lg} (r : HR K C A hs H c) : A.ds.length = hs.length := let ⟨_, _, h, _⟩ := r.ex; h
theorem set_back {hs : List HK} {k : Nat} {h : HK} (e : hs[k]? = some h) : hs.set k h = hs := by
  apply List.ext_getElem?
  intro i
  by_cases hi : k = i
  · subst hi
    rw [List.getElem?_set_self (List.getElem?_eq_some_iff.mp e).1, e]
  · rw [List.getElem?_set_ne hi]
theorem ndec {c : Prop} [Decidable c] (h : ¬ decide c = true) : ¬ c := fun q => h (decide_eq_true q)
theorem hFno {A : HA} {m : Str} (h : (hF A).lookup m = none := by rfl) : (hF A).lookup m = none := h
theorem ixN_of {n j : Nat} {z : Int} (e : z = (j : Int)) (h : j < n) : ixN n z = some j := by
  rw [e]
  exact ixN_nat h
theorem free_len {h : HK} (w : Wf h) : h.free.2.length ≤ 121 := by
  refine Nat.le_trans fold_len ?_
  rw [(srt_perm _).length_eq, asN, List.length_map]
  have := w.few
  show 0 + _ ≤ _
  omega
theorem hearK_len {k : Nat} {h : HK} {l : Letter} (w : Wf h) : (hearK k h l).2.length ≤ 122 := by
  cases l with
  | change n c ahead =>
    simp only [hearK]
    split
    · unfold HK.chg
      split
      · exact Nat.zero_le _
      · split
        · exact Nat.zero_le _
        · have := free_len (h := h.done n c.set c.worth) ⟨w.nd, w.few⟩
          show _ + 1 ≤ 122
          omega
    · exact Nat.zero_le _
  | part n b rows =>
    simp only [hearK]
    split
    · split
      · unfold HK.row
        split
        · rename_i r _ _
          have := free_len (h := { h with worth := r.1, since := r.2, upto := n }) ⟨w.nd, w.few⟩
          omega
        · exact Nat.zero_le _
      · exact Nat.zero_le _
    · exact Nat.zero_le _
  | beat n lasts =>
    simp only [hearK]
    split <;> exact Nat.zero_le _
theorem flat_len {b : Nat} : ∀ {xs : List (List Int)}, (∀ x ∈ xs, x.length ≤ b) → xs.flatten.length ≤ b * xs.length
  | [], _ => Nat.zero_le _
  | x :: xs, h => by
    have ih := flat_len (xs := xs) fun y hy => h y (List.mem_cons_of_mem _ hy)
    have h1 := h x List.mem_cons_self
    rw [List.flatten_cons, List.length_append, List.length_cons, Nat.mul_add]
    omega
theorem fnd_len {hs : List HK} {l : Letter} {m : Nat} (w : ∀ h ∈ hs, Wf h) (h8 : hs.length ≤ 8) : (fnd hs l m).length ≤ 976 := by
  unfold fnd
  refine Nat.le_trans (flat_len (b := 122) fun x hx => ?_) ?_
  · have hx := List.mem_of_mem_take hx
    obtain ⟨k, hk⟩ := List.getElem?_of_mem hx
    rw [List.getElem?_mapIdx] at hk
    cases ek : hs[k]? with
    | none =>
      rw [ek] at hk
      cases hk
    | some g =>
      rw [ek] at hk
      have e1 : (hearK k g l).2 = x := Option.some.inj hk
      rw [← e1]
      exact hearK_len (w g (List.mem_of_getElem? ek))
  · rw [List.length_take, List.length_mapIdx]
    have : min m hs.length ≤ 8 := Nat.le_trans (Nat.min_le_right _ _) h8
    omega
theorem hear_change {hs : List HK} {n ahead : Nat} {ch : Ch} {h : HK} (e : hs[ch.key]? = some h) : hear hs (.change n ch ahead) = hs.set ch.key (h.chg n ch ahead).1 ∧ heard hs (.change n ch ahead) = (h.chg n ch ahead).2 := by
  have ek : hearK ch.key h (.change n ch ahead) = h.chg n ch ahead := by simp only [hearK, if_pos]
  obtain ⟨a1, a2⟩ := prt_low (hs := hs) (l := .change n ch ahead) (b := ch.key) fun k g hk => by
    simp only [hearK]
    rw [if_neg (by omega)]
  obtain ⟨b1, b2⟩ := prt_high (hs := hs) (l := .change n ch ahead) (e := ch.key + 1) fun k g hk => by
    simp only [hearK]
    rw [if_neg (by omega)]
  rw [prt_succ e, a1, ek] at b1
  rw [fnd_succ e, a2, ek] at b2
  exact ⟨b1.symm, b2.symm⟩
end Cu

namespace Cu
open PySem PySem.Spec PyProof.Rows L2
/-! enumerate over a tuple -/
theorem newE (t : Addr) (ys : Array Value) :
    Meets (Builtin.«enumerate.__new__» ⟨[.type "enumerate", .ref t], []⟩) (fun _ R z => z.heap.IsTuple t ys ∧
      R (.ok (.ret (.ref (z.heap.push { cls := .type "tuple_iterator", data := .fields #[.ref t, .int 0 0] }).objs.size)))
        { z with heap := (z.heap.push { cls := .type "tuple_iterator", data := .fields #[.ref t, .int 0 0] }).push { cls := .type "enumerate", data := .fields #[.none, .bool false, .ref z.heap.objs.size, rawInt 0, .none, .none] } }) :=
  .of_wp fun P w A R z hz => by
    obtain ⟨h0, g0, d0, k0, os0⟩ := z
    obtain ⟨ht, hR⟩ := hz
    have hsub := sub_enumerate
    have q1 : ∀ {A' : Around} {E : Value → Shared → Prop} {Q : Value → Shared → Prop}, Q (.ref h0.objs.size) ⟨h0.push { cls := .type "tuple_iterator", data := .fields #[.ref t, .int 0 0] }, g0, d0, k0, os0⟩ →
        wpAny (model P w) A' (pyIter (.ref t)) Q E ⟨h0, g0, d0, k0, os0⟩ := fun q => wpAny_pyIter_tuple ht q
    wp_walk using q1
    refine wpAny_stack_any fun stk => wpAny_pure ?_
    split
    · rename_i c _ _ _ _ _
      cases (c == Value.type "enumerate") <;> (wp_walk using q1; exact ⟨_, rfl, hR⟩)
    · wp_walk using q1
      exact ⟨_, rfl, hR⟩
section
variable {P : Program} {w : World} {A : Around} {E : Value → Shared → Prop} {s : Shared}
theorem callE {t : Addr} {ys : Array Value} {Q : Value → Shared → Prop} (ht : s.heap.IsTuple t ys)
    (q : ∀ h2, IsEnum h2 (s.heap.objs.size + 1) s.heap.objs.size 0 .none → h2.IsTupleIter s.heap.objs.size t 0 → h2.objs.size = s.heap.objs.size + 2 →
      (∀ b o, s.heap.get? b = some o → h2.get? b = some o) → Q (.ref (s.heap.objs.size + 1)) { s with heap := h2 }) :
    wpAny (model P w) A (call (.type "enumerate") [.ref t]) Q E s := by
  refine callType_new F.called_enumerate (by decide) (F.typeCall_enumerate_1 _) (F.newCall_enumerate_1 _) (fun o => F.args_object_init_2 o _) F.entry_enumerate_new (newE t ys) ⟨ht, ?_⟩
  have z1 : (s.heap.push { cls := .type "tuple_iterator", data := .fields #[.ref t, .int 0 0] }).objs.size = s.heap.objs.size + 1 := Heap.size_push ..
  show _ ∧ _
  rw [z1]
  have e1 : IsEnum ((s.heap.push { cls := .type "tuple_iterator", data := .fields #[.ref t, .int 0 0] }).push
      { cls := .type "enumerate", data := .fields #[.none, .bool false, .ref s.heap.objs.size, rawInt 0, .none, .none] }) (s.heap.objs.size + 1) s.heap.objs.size 0 .none := by
    have := Heap.get?_push_size (s.heap.push { cls := .type "tuple_iterator", data := .fields #[.ref t, .int 0 0] })
      (o := { cls := .type "enumerate", data := .fields #[.none, .bool false, .ref s.heap.objs.size, rawInt 0, .none, .none] }) rfl
    rw [z1] at this
    exact this
  exact ⟨⟨_, e1, rfl⟩, q _ e1 ⟨_, Heap.get?_push_of_some _ (Heap.get?_push_size _ rfl), rfl, rfl⟩ (by rw [Heap.size_push, z1]) fun b o x => Heap.get?_push_of_some _ (Heap.get?_push_of_some _ x)⟩
end
/-- the tuple at a, its items in new pairs with their places -/
def Iet (K : PySem.W.Frag) (a : Addr) : It :=
  ⟨fun i H => ∃ (ys : List V) (y : V), SqT K H a ys ∧ ys[i]? = some y,
   fun i H v H2 => ∃ p y, v = .ref p ∧ H p = none ∧ H2 = upd H p (.tup [.int (i : Nat), y]) ∧ ∀ ys, SqT K H a ys → ys[i]? = some y,
   fun i H => ∃ ys : List V, SqT K H a ys ∧ ys.length = i⟩
theorem turnE {P : Program} {w : World} {K : PySem.W.Frag} {elts : List Expr} {kk : Nat} {tp : Pos} (a e it : Addr) :
    Turn P w K (.Tuple elts kk tp) (Iet K a) [e, it] e (fun i h => (∃ old, IsEnum h e it ((i : Nat) : Int) old) ∧ h.IsTupleIter it a i ∧ e ≠ it ∧ a ≠ e ∧ a ≠ it) where
  mem := by simp
  obj := fun i h st b hb => by
    obtain ⟨⟨old, he⟩, ⟨o, ho, hc, hd⟩, _⟩ := st
    rcases (show b = e ∨ b = it by simpa using hb) with z | z
    · rw [z]
      exact ⟨_, he, fun v q => nomatch q⟩
    · rw [z]
      exact ⟨o, ho, fun v q => by rw [hd] at q; cases q⟩
  keep := fun i h h2 st kp => by
    obtain ⟨⟨old, he⟩, hi, hne⟩ := st
    exact ⟨⟨old, kp e (by simp) _ he⟩, hi.at fun o q => kp it (by simp) o q, hne⟩
  item := by
    intro X hP hw hK hc i pins s σ H E I hf st hg
    subst hP hw hK
    obtain ⟨⟨old, he⟩, hit, hne, hae, hai⟩ := st
    obtain ⟨ys, y, hq, hy⟩ := hg
    obtain ⟨its, rv, p, hz⟩ := I.tuple hq
    obtain ⟨u, hu, ru⟩ := rv.get hy
    have hel : e < s.heap.objs.size := Heap.lt_size he
    have hil : it < s.heap.objs.size := by
      obtain ⟨_, q, _⟩ := hit
      exact Heap.lt_size q
    have hlt : i < its.toArray.size := by
      have := (List.getElem?_eq_some_iff.mp hu).1
      simpa using this
    have pT : s.heap.IsTuple a its.toArray := let ⟨o, ho, hc, n, hd⟩ := p; ⟨o, ho, hc, n, hd⟩
    refine wpAny_pyNext_enum_itemD (Draws.tuple (prog := X.prog) (w := X.w) (A := X.A.in1) (I.ok.hd hc) it a hai its.toArray) he ⟨hit, pT⟩ hlt hne (by simp [hne, Ne.symm hae]) fun x h2 tk hx ho hit2 hT hsz hk => ?_
    have hxu : x = u := by
      have q : its.toArray[i]? = some x := hx
      rw [List.getElem?_toArray, hu] at q
      exact (Option.some.inj q).symm
    subst hxu
    refine ⟨_, rfl, wpAny_letOwnedTupleGo_enum (s := { s with heap := h2, toks := tk + 1 }) ho fun h3 he3 sb => ?_⟩
    have hT3 : h3.get? s.heap.objs.size = some { cls := .type "tuple", data := .seq #[.int i tk, x] } := (sb.2 _ (Nat.ne_of_gt hel)).trans hT
    have new : ObjOk X.prog X.w (upd H s.heap.objs.size (.tup [.int (i : Nat), y])) h3 s.heap.objs.size (.tup [.int (i : Nat), y]) :=
      ⟨by show 2 ≤ sizeLine; decide, [.int i tk, x], .cons ⟨_, rfl⟩ (.cons ru .nil), ⟨_, hT3, rfl, _, rfl⟩⟩
    have I1 : Inv X pins σ (upd H s.heap.objs.size (.tup [.int (i : Nat), y])) { s with heap := h3, toks := tk + 1 } :=
      I.turnedNew (ch := [e, it]) (fun b ob hb q => (sb.2 b (fun z => hb (by simp [z]))).trans (hk b ob (fun z => hb (by simp [z])) (fun z => hb (by simp [z])) q)) hf (Nat.le_refl _) new
    refine ⟨.ref s.heap.objs.size, _, I1, rfl, ⟨_, y, rfl, I.hok.fresh (Nat.le_refl _), rfl, fun zs hzs => by rw [I.tuple_inj hzs hq]; exact hy⟩, ⟨⟨x, ?_⟩, hit2.1.at fun o q => (sb.2 it (Ne.symm hne)).trans q, hne, hae, hai⟩, fun b hb => ?_⟩
    · have e1 : ((i + 1 : Nat) : Int) = (i : Int) + 1 := by omega
      rw [e1]
      exact he3
    · have hb2 : b < s.heap.objs.size := by
        rcases (show b = e ∨ b = it by simpa using hb) with z | z
        · rw [z]
          exact hel
        · rw [z]
          exact hil
      rw [upd_ne (Nat.ne_of_lt hb2)]
      exact (hf b hb).1
  done := by
    intro X hP hw hK hc i pins s σ H E I hf st hg
    subst hP hw hK
    obtain ⟨⟨old, he⟩, hit, hne, hae, hai⟩ := st
    obtain ⟨ys, hq, hy⟩ := hg
    obtain ⟨its, rv, p, hz⟩ := I.tuple hq
    obtain ⟨f0, f1, f2, f3, f4, f5⟩ := hf it (by simp)
    have pT : s.heap.IsTuple a its.toArray := let ⟨o, ho, hc, n, hd⟩ := p; ⟨o, ho, hc, n, hd⟩
    have hn : its.toArray.size = i := by
      have := rv.length
      simp
      omega
    exact wpAny_pyNext_enum_endD (Draws.tuple (prog := X.prog) (w := X.w) (A := X.A.in1) (I.ok.hd hc) it a hai its.toArray) he ⟨by rw [hn]; exact hit, pT⟩ fun h2 eb => ⟨rfl, I.turned (t' := s.toks) (fun b o hb q => eb b o hb q) f0 f1 f3 f4 f5⟩
  self := fun A i s Q E st h => let ⟨⟨_, he⟩, _⟩ := st; wpAny_pyIter_enum he h
def iEnumT (K : PySem.W.Frag) (ta : TA) : TI := fun σ H R => ta σ H fun vs H1 => ∃ a ys, vs = [.ref a] ∧ SqT K H1 a ys ∧ R (Iet K a) H1
theorem pi_enumT {X : Cx} {e : Expr} {ta : TA} {p pos tp : Pos} {elts : List Expr} {kk : Nat} (hg : Gl X "enumerate") (hm : X.mg "enumerate" = none) (ha : PA X [e] ta) (hs : starEach [e] X.env = [(false, eval e X.env)] := by rfl) :
    PI X (.Tuple elts kk tp) (.Call (.Name "enumerate" p) [e] [] pos) (iEnumT X.K ta) := by
  refine ⟨fun pins s σ H R I h => ?_⟩
  refine Call_ (ld_blt I hg hm boot_enumerate (PyProof.Rows.callWith_type1 (thn (ha.run pos pins s σ H _ I h) fun us s1 ⟨vs, H1, I1, r1, q1⟩ => ?_) hs rfl))
  obtain ⟨a, ys, ex, hq, q⟩ := q1
  subst ex
  cases r1 with
  | cons r rr =>
    cases rr
    cases r
    obtain ⟨its, rv, p', hz⟩ := I1.tuple hq
    have pT : s1.heap.IsTuple a its.toArray := let ⟨o, ho, hc, n, hd⟩ := p'; ⟨o, ho, hc, n, hd⟩
    have hal : a < s1.heap.objs.size := let ⟨_, ho, _⟩ := p'; Heap.lt_size ho
    refine callE pT fun h2 he hit hsz hk => wpAny_pyIter_enum he ?_
    have I2 : Inv X pins σ H1 { s1 with heap := h2 } := I1.kept (t' := s1.toks) hk
    refine ⟨s1.heap.objs.size + 1, [s1.heap.objs.size + 1, s1.heap.objs.size], _, _, H1, rfl, I2, turnE a (s1.heap.objs.size + 1) s1.heap.objs.size, ⟨⟨.none, he⟩, hit, Nat.succ_ne_self _, Nat.ne_of_lt (Nat.lt_succ_of_lt hal), Nat.ne_of_lt hal⟩, fun b hb => ?_, q⟩
    have hle : s1.heap.objs.size ≤ b := by
      rcases (show b = s1.heap.objs.size + 1 ∨ b = s1.heap.objs.size by simpa using hb) with z | z
      · rw [z]
        exact Nat.le_add_right _ _
      · rw [z]
        exact Nat.le_refl _
    exact I1.fpOk hle (I1.hok.fresh hle)
theorem walk_enumT {K : PySem.W.Frag} {a : Addr} {xs : List V} : Walk (Iet K a) xs.length (fun H => SqT K H a xs) (YPair (fun i => some (.int (i : Nat))) (fun i => xs[i]?)) := by
  refine ⟨fun i _ hi q => ⟨xs, xs[i], q, by simp [hi]⟩, fun _ q => ⟨xs, q, rfl⟩, fun i H v H2 _ q y => ?_⟩
  obtain ⟨p, z, h1, h2, h3, h4⟩ := y
  exact ⟨p, .int (i : Nat), z, h1, h2, h3, rfl, h4 xs q⟩
end Cu

namespace Cu
open PySem PySem.Spec PyProof.Rows L2
abbrev s_Hearer_do : Stmt := (inClass (top 18) 7)
theorem sc_Hearer_do : FnScope ["self", "letter", "word", "number", "key", "kind", "worth", "ahead"] ["self", "letter"] (defScope s_Hearer_do) := ⟨rfl, rfl, rfl, by decide +kernel, rfl, by decide +kernel, by decide +kernel⟩

abbrev s_Hearer_freed : Stmt := (inClass (top 18) 9)
theorem sc_Hearer_freed : FnScope ["self", "key", "found", "number", "letter"] ["self", "key"] (defScope s_Hearer_freed) := ⟨rfl, rfl, rfl, by decide +kernel, rfl, by decide +kernel, by decide +kernel⟩

abbrev s_Hearer_changed : Stmt := (inClass (top 18) 6)
theorem sc_Hearer_changed : FnScope ["self", "letter", "word", "number", "key", "kind", "worth", "ahead"] ["self", "letter"] (defScope s_Hearer_changed) := ⟨rfl, rfl, rfl, by decide +kernel, rfl, by decide +kernel, by decide +kernel⟩

abbrev s_Hearer_copied : Stmt := (inClass (top 18) 8)
theorem sc_Hearer_copied : FnScope ["self", "letter", "word", "number", "begin", "rows", "found", "at", "worth", "last", "key"] ["self", "letter"] (defScope s_Hearer_copied) := ⟨rfl, rfl, rfl, by decide +kernel, rfl, by decide +kernel, by decide +kernel⟩

abbrev s_Hearer_hear : Stmt := (inClass (top 18) 5)
theorem sc_Hearer_hear : FnScope ["self", "letter", "key"] ["self", "letter"] (defScope s_Hearer_hear) := ⟨rfl, rfl, rfl, by decide +kernel, rfl, by decide +kernel, by decide +kernel⟩

section
variable {P : Program} {w : World} {K : PySem.W.Frag} {mg : Str → Option Value} {base : Heap} {C : Addr}
theorem ok_do (F : Md K C "do" "Hearer.do" s_Hearer_do) (Bm : Blt mg) (CHearer : CHr K C) : Mf P w K mg base 1 C "do" ["self", "letter"] (spDo K C) := by
  refine F.ok sc_Hearer_do (fun _ _ _ _ _ _ us hl => match us, hl with | [_, _], _ => rfl) len_of fun qual f cdv A0 outer s H vs Q E hr h => ?_
  obtain ⟨_, A, hs, c, v, n, ahead, ch, h, rfl, r, hc, rv, eh, k⟩ := h
  obtain ⟨a, rfl, ha⟩ := rv.chg_inv
  have hk : ch.key < hs.length := (List.getElem?_eq_some_iff.mp eh).1
  have a1 : atI (hs.map fun h => V.int h.worth) (ch.key : Int) = some (V.int h.worth) := at_of (j := ch.key) rfl (by rw [List.getElem?_map, eh]; rfl)
  refine ⟨_, (pss_cons (ps_asg (pv 1) (pg_tup rfl (pgs_cons (pg_name (i := 2) sc_Hearer_do.nd rfl (Or.inl rfl)) (pgs_cons (pg_name (i := 3) sc_Hearer_do.nd rfl (Or.inl rfl)) (pgs_cons (pg_name (i := 4) sc_Hearer_do.nd rfl (Or.inl rfl)) (pgs_cons (pg_name (i := 5) sc_Hearer_do.nd rfl (Or.inl rfl)) (pgs_cons (pg_name (i := 6) sc_Hearer_do.nd rfl (Or.inl rfl)) (pgs_cons (pg_name (i := 7) sc_Hearer_do.nd rfl (Or.inl rfl)) pgs_nil))))))))
      (pss_cons (ps_asg (pe_ifExp (pt_cmpR op_eq (pv 5) pe_str (nomark _)) (pv 6) (pe_op op_add (pe_ix ix_list (pe_fld (pv 0) rfl) (pv 4) (fun _ _ => rfl)) (pv 6))) (pg_sub (pe_fld (pv 0) rfl) (pv 4) set_list))
      (pss_cons (ps_asg (pv 3) (pg_sub (pe_fld (pv 0) rfl) (pv 4) set_list))
      (pss_one (ps_asg (pv 3) (pg_sub (pe_fld (pv 0) rfl) (pv 4) set_list)))))), ?_⟩
  refine ⟨_, rfl, a, _, rfl, SqT.of ha, rfl, _, _, rfl, _, _, rfl, _, _, rfl, _, _, rfl, _, _, rfl, _, _, rfl, rfl, ?_⟩
  have ix1 : ∀ {α : Type} (g : HK → α), ixN (hs.map g).length (ch.key : Int) = some ch.key := fun g => ixN_nat (by rw [List.length_map]; exact hk)
  refine ⟨_, rfl, rfl, _, rfl, ite2 (fun h0 => ?_) fun h0 => ?_⟩
  · rw [wd_set] at h0
    refine ⟨_, rfl, _, rfl, _, C, _, _, _, rfl, r.at_p hc, CHearer.cl, CHearer.n1, hF1 A, _, rfl, _, _, _, _, rfl, rfl, r.at1 hc, ix1 _, ?_⟩
    obtain ⟨c1, r1, t1⟩ := r.set1 hc eh ch.worth
    have hc1 := t1.now hc
    have e1 : (hs.set ch.key { h with worth := ch.worth })[ch.key]? = some { h with worth := ch.worth } := List.getElem?_set_self hk
    refine ⟨_, rfl, _, rfl, _, C, _, _, _, rfl, r1.at_p hc1, CHearer.cl, CHearer.n2, hF2 A, _, rfl, _, _, _, _, rfl, rfl, r1.at2 hc1, ixN_nat (by rw [List.length_map, List.length_set]; exact hk), ?_⟩
    obtain ⟨c2, r2, t2⟩ := r1.set2 hc1 e1 n
    rw [List.set_set] at r2
    have hc2 := t2.now hc1
    have e2 : (hs.set ch.key { h with worth := ch.worth, since := n })[ch.key]? = some { h with worth := ch.worth, since := n } := List.getElem?_set_self hk
    refine ⟨_, rfl, _, rfl, _, C, _, _, _, rfl, r2.at_p hc2, CHearer.cl, CHearer.n3, hF3 A, _, rfl, _, _, _, _, rfl, rfl, r2.at3 hc2, ixN_nat (by rw [List.length_map, List.length_set]; exact hk), ?_⟩
    obtain ⟨c3, r3, t3⟩ := r2.set3 hc2 e2 n
    rw [List.set_set] at r3
    refine k c3 _ ?_ ((t1.trans t2).trans t3)
    have ee : h.done n ch.set ch.worth = { h with worth := ch.worth, since := n, upto := n } := by
      unfold HK.done
      rw [if_pos h0]
    rw [ee]
    exact r3
  · rw [wd_set] at h0
    refine ⟨_, rfl, _, C, _, _, _, rfl, r.at_p hc, CHearer.cl, CHearer.n1, hF1 A, _, rfl, _, _, _, _, rfl, rfl, SqL.of (r.at1 hc), a1, _, rfl, _, _, rfl, rfl, _, rfl, _, C, _, _, _, rfl, r.at_p hc, CHearer.cl, CHearer.n1, hF1 A, _, rfl, _, _, _, _, rfl, rfl, r.at1 hc, ix1 _, ?_⟩
    obtain ⟨c1, r1, t1⟩ := r.set1 hc eh (h.worth + ch.worth)
    have hc1 := t1.now hc
    have e1 : (hs.set ch.key { h with worth := h.worth + ch.worth })[ch.key]? = some { h with worth := h.worth + ch.worth } := List.getElem?_set_self hk
    refine ⟨_, rfl, _, rfl, _, C, _, _, _, rfl, r1.at_p hc1, CHearer.cl, CHearer.n2, hF2 A, _, rfl, _, _, _, _, rfl, rfl, r1.at2 hc1, ixN_nat (by rw [List.length_map, List.length_set]; exact hk), ?_⟩
    obtain ⟨c2, r2, t2⟩ := r1.set2 hc1 e1 n
    rw [List.set_set] at r2
    have hc2 := t2.now hc1
    have e2 : (hs.set ch.key { h with worth := h.worth + ch.worth, since := n })[ch.key]? = some { h with worth := h.worth + ch.worth, since := n } := List.getElem?_set_self hk
    refine ⟨_, rfl, _, rfl, _, C, _, _, _, rfl, r2.at_p hc2, CHearer.cl, CHearer.n3, hF3 A, _, rfl, _, _, _, _, rfl, rfl, r2.at3 hc2, ixN_nat (by rw [List.length_map, List.length_set]; exact hk), ?_⟩
    obtain ⟨c3, r3, t3⟩ := r2.set3 hc2 e2 n
    rw [List.set_set] at r3
    refine k c3 _ ?_ ((t1.trans t2).trans t3)
    have ee : h.done n ch.set ch.worth = { h with worth := h.worth + ch.worth, since := n, upto := n } := by
      unfold HK.done
      rw [if_neg h0]
    rw [ee]
    exact r3
end
end Cu

namespace Cu
open PySem PySem.Spec PyProof.Rows L2
section
variable {P : Program} {w : World} {K : PySem.W.Frag} {mg : Str → Option Value} {base : Heap} {C : Addr}
theorem ok_freed (F : Md K C "freed" "Hearer.freed" s_Hearer_freed) (Bm : Blt mg) (CHearer : CHr K C) (m_Hearer_do : Mf P w K mg base 1 C "do" ["self", "letter"] (spDo K C)) : Mf P w K mg base 2 C "freed" ["self", "key"] (spFreed K C) := by
  refine F.ok sc_Hearer_freed (fun _ _ _ _ _ _ us hl => match us, hl with | [_, _], _ => rfl) len_of fun qual f cdv A0 outer s H vs Q E hr h => ?_
  obtain ⟨_, A, hs, c, k, h, rfl, r, hc, eh, wf, go⟩ := h
  have hk : k < hs.length := (List.getElem?_eq_some_iff.mp eh).1
  refine ⟨_, (pss_cons (ps_set (i := 2) sc_Hearer_freed.nd rfl (Or.inl rfl) (pe_lst pa_nil))
      (pss_cons (ps_for PassesOwn.never rfl (pi_list (pe_callB (call_sortedDIw rfl) rfl Bm.sorted (by decide +kernel) (pa_cons (pe_ix ix_list (pe_fld (pv 0) rfl) (pv 1) (fun _ _ => rfl)) pa_nil))) (pg_name (i := 3) sc_Hearer_freed.nd rfl (Or.inl rfl))
        (pss_cons (ps_set (i := 4) sc_Hearer_freed.nd rfl (Or.inl rfl) (pe_dget (hu_of hr) (pe_ix ix_list (pe_fld (pv 0) rfl) (pv 1) (fun _ _ => rfl)) (pv 3) (fun _ _ => rfl)))
        (pss_one (ps_if (pt_cmpR op_le (pv 3) (pe_ix ix_list (pe_fld (pv 0) rfl) (pv 1) (fun _ _ => rfl)) (nomark _))
          (pss_one (ps_expr (pe_dpop1 (pe_ix ix_list (pe_fld (pv 0) rfl) (pv 1) (fun _ _ => rfl)) (pv 3) ⟨rfl, rfl, rfl, rfl⟩)))
          (pss_one (ps_if (pt_cmpR op_le (pe_ix ix_tup (pv 4) pe_int (fun _ _ => rfl)) (pe_ix ix_list (pe_fld (pv 0) rfl) (pv 1) (fun _ _ => rfl)) (nomark _))
            (pss_cons (ps_expr (pe_dpop1 (pe_ix ix_list (pe_fld (pv 0) rfl) (pv 1) (fun _ _ => rfl)) (pv 3) ⟨rfl, rfl, rfl, rfl⟩))
            (pss_cons (ps_expr (pm (pv 0) CHearer.cl m_Hearer_do hr (pa_cons (pv 4) pa_nil)))
            (pss_one (ps_expr (pe_bm PySem.F.plainAttrs_list PySem.F.slot_list_append PySem.F.type_list_append mt_append (pv 2) (pa_cons (pv 3) pa_nil))))))
            pss_nil))))))
      (pss_one (ps_ret (pv 2))))), ?_⟩
  refine ⟨(by show 0 ≤ sizeLine; decide), fun p hp => ?_⟩
  have t1 := (Tr.refl H c).new (o := .lst []) hp nl
  have hc1 := (t1.now hc).tail
  have r1 := r.mono t1.mono
  obtain ⟨d, kvs, ed, hd, ok⟩ := r1.dict hc1 eh
  have ad : atI (A.ds.map V.ref) (k : Int) = some (.ref d) := at_of (j := k) rfl (by rw [List.getElem?_map, ed]; rfl)
  refine ⟨_, rfl, _, C, _, _, _, rfl, r1.at_p hc1, CHearer.cl, CHearer.n4, hF4 A, _, rfl, _, _, _, _, rfl, rfl, SqL.of (r1.at4 hc1), ad, d, kvs, asN h.aside, rfl, .inl hd, ok.keys, by rw [asN, List.length_map]; exact Nat.le_trans (Nat.le_of_lt wf.few) (by decide), fun ys q hperm hsort hq => ?_⟩
  have e := srt_eq hperm hsort
  subst e
  have t2 := t1.new (o := .lst ((srt (asN h.aside)).map V.int)) hq nl
  have hnd : (srt (asN h.aside)).Nodup := (srt_perm _).nodup_iff.mpr wf.nd
  have hsz : (srt (asN h.aside)).length < 122 := by rw [(srt_perm _).length_eq, asN, List.length_map]; exact wf.few
  refine ⟨q, rfl, ⟨_, SqL.of upd_same⟩, for_list (K := K) (a := q) (xs := (srt (asN h.aside)).map V.int) (fun i σ H2 => ∃ (v3 v4 : Option V) (c' : Lg) (st : HK × List Int), σ = [some (.ref A.p), some (.int k), some (.ref p), v3, v4] ∧
      st = ((srt (asN h.aside)).take i).foldl HK.fstep (h, []) ∧ HR K C A (hs.set k st.1) H2 c' ∧ Tr H c H2 ((q, .lst ((srt (asN h.aside)).map V.int)) :: (p, .lst (st.2.map V.int)) :: c'))
    ⟨none, none, c, (h, []), rfl, rfl, by rw [set_back eh]; exact r.mono t2.mono, t2⟩ (fun i σ H2 _ ⟨_, _, _, _, _, _, _, t⟩ => SqL.of (t.now hc).head) ?_ ?_⟩
  · rintro i x σ H2 hi ⟨v3, v4, c', st, rfl, est, r2, t3⟩
    rw [List.getElem?_map] at hi
    obtain ⟨n, en, rfl⟩ : ∃ n, (srt (asN h.aside))[i]? = some n ∧ x = V.int n := by
      cases e1 : (srt (asN h.aside))[i]? with
      | none =>
        rw [e1] at hi
        cases hi
      | some n =>
        rw [e1] at hi
        exact ⟨n, rfl, (Option.some.inj hi).symm⟩
    have hil : i < 122 := by
      have := (List.getElem?_eq_some_iff.mp en).1
      omega
    have hh := t3.now hc
    have hc3 := hh.tail.tail
    have eg : (hs.set k st.1)[k]? = some st.1 := List.getElem?_set_self hk
    have hnot : n ∉ (srt (asN h.aside)).take i := fun hm => by
      obtain ⟨j, hj⟩ := List.getElem?_of_mem hm
      have hji : j < i := by
        have := (List.getElem?_eq_some_iff.mp hj).1
        rw [List.length_take] at this
        omega
      rw [List.getElem?_take_of_lt hji] at hj
      have := nd_ix hnd hj en
      omega
    have hin : n ∈ asN h.aside := (srt_perm _).mem_iff.mp (List.mem_of_getElem? en)
    obtain ⟨a, ha, ean⟩ := findA_some hin
    have ha2 : findA st.1.aside n = some a := by
      rw [est, fold_find hnot]
      exact ha
    have est' : HK.fstep st n = ((srt (asN h.aside)).take (i + 1)).foldl HK.fstep (h, []) := by
      rw [take_snoc en, List.foldl_append, ← est]
      rfl
    have hst2 : st.2.length ≤ i := by
      have := fold_len (l := (srt (asN h.aside)).take i) (st := (h, []))
      rw [← est] at this
      refine Nat.le_trans this ?_
      rw [List.length_take]
      show 0 + _ ≤ _
      omega
    obtain ⟨d2, kvs2, ed2, hd2, ok2⟩ := r2.dict hc3 eg
    rw [ed] at ed2
    cases ed2
    obtain ⟨v, hv, rv⟩ := ok2.find ha2
    obtain ⟨av, rfl, hav⟩ := Rp.chg_inv rv
    have a3 : atI ((hs.set k st.1).map fun h => V.int h.upto) (k : Int) = some (V.int st.1.upto) := at_of (j := k) rfl (by rw [List.getElem?_map, eg]; rfl)
    have dg : DGet H2 d (.int n) (some (.ref av)) := by
      rw [← hv]
      exact DGet.k (k := Sum.inl n) hd2
    -- letter = self.aside[key][number]
    refine ⟨_, rfl, _, C, _, _, _, rfl, r2.at_p hc3, CHearer.cl, CHearer.n4, hF4 A, _, rfl, _, _, _, _, rfl, rfl, SqL.of (r2.at4 hc3), ad, _, rfl, d, _, rfl, dg, ?_⟩
    refine ⟨_, rfl, _, rfl, _, C, _, _, _, rfl, r2.at_p hc3, CHearer.cl, CHearer.n3, hF3 A, _, rfl, _, _, _, _, rfl, rfl, SqL.of (r2.at3 hc3), a3, _, _, rfl, rfl, _, rfl, ite2 (fun h0 => ?_) fun h0 => ?_⟩
    · -- number <= upto: dropped
      have h0' := of_decide_eq_true h0
      refine ⟨_, rfl, _, C, _, _, _, rfl, r2.at_p hc3, CHearer.cl, CHearer.n4, hF4 A, _, rfl, _, _, _, _, rfl, rfl, SqL.of (r2.at4 hc3), ad, d, rfl, .inl ⟨_, .inl hd2⟩, _, rfl, _, Sum.inl n, _, hd2, rfl, hv, ?_⟩
      obtain ⟨c4, r4, t4⟩ := r2.set4 hc3 eg ed (ok2.drop n)
      rw [List.set_set] at r4
      refine ⟨_, _, c4, HK.fstep st n, rfl, est', ?_, ?_⟩
      · have : HK.fstep st n = ({ st.1 with aside := dropA st.1.aside n }, st.2) := by
          unfold HK.fstep
          rw [ha2]
          dsimp only
          rw [if_pos h0']
        rw [this]
        exact r4
      · have : HK.fstep st n = ({ st.1 with aside := dropA st.1.aside n }, st.2) := by
          unfold HK.fstep
          rw [ha2]
          dsimp only
          rw [if_pos h0']
        rw [this]
        exact t3.trans (t4.left (D := [(q, .lst ((srt (asN h.aside)).map V.int)), (p, .lst (st.2.map V.int))]))
    · have h0' := ndec h0
      refine ⟨_, rfl, _, _, _, _, rfl, rfl, SqT.of hav, rfl, _, rfl, _, C, _, _, _, rfl, r2.at_p hc3, CHearer.cl, CHearer.n3, hF3 A, _, rfl, _, _, _, _, rfl, rfl, SqL.of (r2.at3 hc3), a3, _, _, rfl, rfl, _, rfl, ite2 (fun h1 => ?_) fun h1 => ?_⟩
      · -- it can be done
        have h1' := of_decide_eq_true h1
        refine ⟨_, rfl, _, C, _, _, _, rfl, r2.at_p hc3, CHearer.cl, CHearer.n4, hF4 A, _, rfl, _, _, _, _, rfl, rfl, SqL.of (r2.at4 hc3), ad, d, rfl, .inl ⟨_, .inl hd2⟩, _, rfl, _, Sum.inl n, _, hd2, rfl, hv, ?_⟩
        obtain ⟨c4, r4, t4⟩ := r2.set4 hc3 eg ed (ok2.drop n)
        rw [List.set_set] at r4
        have t5 := t3.trans (t4.left (D := [(q, .lst ((srt (asN h.aside)).map V.int)), (p, .lst (st.2.map V.int))]))
        have hh5 := t5.now hc
        have hc5 := hh5.tail.tail
        have e5 : (hs.set k { st.1 with aside := dropA st.1.aside n })[(asL k a |> fun _ => k)]? = some { st.1 with aside := dropA st.1.aside n } := List.getElem?_set_self hk
        refine ⟨_, rfl, A.p, _, _, rfl, r4.at_p hc5, hFno, _, rfl, rfl, A, _, c4, .ref av, a.n, a.ahead, ⟨k, false, a.worth⟩, _, rfl, r4, hc5, rv.mono t4.mono, e5, fun c6 H6 r6 t6 => ?_⟩
        have t7 := t5.trans (t6.left (D := [(q, .lst ((srt (asN h.aside)).map V.int)), (p, .lst (st.2.map V.int))]))
        have hh7 := t7.now hc
        refine ⟨_, rfl, .inl ⟨rfl, _, SqL.of hh7.tail.head⟩, _, rfl, _, _, _, rfl, rfl, hh7.tail.head, by rw [List.length_map]; exact small1000 (by omega), ?_⟩
        have t8 := (t7.swap2.put (o' := .lst (st.2.map V.int ++ [.int n])) hc nl).swap2
        have e8 : HK.fstep st n = (({ st.1 with aside := dropA st.1.aside n } : HK).done a.n false a.worth, st.2 ++ [n]) := by
          unfold HK.fstep
          rw [ha2]
          dsimp only
          rw [if_neg h0', if_pos h1']
        have ns := hh7.swap2.mono_put (o' := .lst (st.2.map V.int ++ [.int n]))
        refine ⟨_, _, c6, HK.fstep st n, rfl, est', ?_, ?_⟩
        · rw [e8]
          have : (hs.set k { st.1 with aside := dropA st.1.aside n }).set k (({ st.1 with aside := dropA st.1.aside n } : HK).done a.n false a.worth) = hs.set k (({ st.1 with aside := dropA st.1.aside n } : HK).done a.n false a.worth) := List.set_set ..
          rw [← this]
          exact r6.mono ns
        · rw [e8, List.map_append]
          exact t8
      · have h1' := ndec h1
        have e8 : HK.fstep st n = st := by
          unfold HK.fstep
          rw [ha2]
          dsimp only
          rw [if_neg h0', if_neg h1']
        exact ⟨_, _, c', st, rfl, by rw [← est', e8], r2, t3⟩
  · rintro σ H2 ⟨v3, v4, c', st, rfl, est, r2, t3⟩
    have e1 : st = h.free := by
      rw [est, List.take_of_length_le (by rw [List.length_map]; exact Nat.le_refl _)]
      rfl
    subst e1
    exact ⟨_, rfl, go p c' H2 r2 t3.tail⟩
theorem ok_changed (F : Md K C "changed" "Hearer.changed" s_Hearer_changed) (Bm : Blt mg) (CHearer : CHr K C) (m_Hearer_do : Mf P w K mg base 1 C "do" ["self", "letter"] (spDo K C)) (m_Hearer_freed : Mf P w K mg base 2 C "freed" ["self", "key"] (spFreed K C)) :
    Mf P w K mg base 3 C "changed" ["self", "letter"] (spChanged K C) := by
  refine F.ok sc_Hearer_changed (fun _ _ _ _ _ _ us hl => match us, hl with | [_, _], _ => rfl) len_of fun qual f cdv A0 outer s H vs Q E hr h => ?_
  obtain ⟨_, A, hs, c, v, n, ahead, ch, h, rfl, r, hc, rv, eh, wf, go⟩ := h
  obtain ⟨a, rfl, ha⟩ := rv.chg_inv
  have hk : ch.key < hs.length := (List.getElem?_eq_some_iff.mp eh).1
  have a3 : atI (hs.map fun h => V.int h.upto) (ch.key : Int) = some (V.int h.upto) := at_of (j := ch.key) rfl (by rw [List.getElem?_map, eh]; rfl)
  refine ⟨_, (pss_cons (ps_asg (pv 1) (pg_tup rfl (pgs_cons (pg_name (i := 2) sc_Hearer_changed.nd rfl (Or.inl rfl)) (pgs_cons (pg_name (i := 3) sc_Hearer_changed.nd rfl (Or.inl rfl)) (pgs_cons (pg_name (i := 4) sc_Hearer_changed.nd rfl (Or.inl rfl)) (pgs_cons (pg_name (i := 5) sc_Hearer_changed.nd rfl (Or.inl rfl)) (pgs_cons (pg_name (i := 6) sc_Hearer_changed.nd rfl (Or.inl rfl)) (pgs_cons (pg_name (i := 7) sc_Hearer_changed.nd rfl (Or.inl rfl)) pgs_nil))))))))
      (pss_cons (ps_if (pt_cmpR op_le (pv 3) (pe_ix ix_list (pe_fld (pv 0) rfl) (pv 4) (fun _ _ => rfl)) (nomark _))
        (pss_one (ps_ret (pe_lst pa_nil)))
        pss_nil)
      (pss_cons (ps_if (PW.pt (pw_and (pt_cmpR op_eq (pv 5) pe_str (nomark _)) (pw_and1 (pt_cmpR op_lt (pe_ix ix_list (pe_fld (pv 0) rfl) (pv 4) (fun _ _ => rfl)) (pv 7) (nomark _)))))
        (pss_cons (ps_dput (hu_of hr) (pe_ix ix_list (pe_fld (pv 0) rfl) (pv 4) (fun _ _ => rfl)) (pv 3) (pv 1) rfl)
        (pss_one (ps_ret (pe_lst pa_nil))))
        pss_nil)
      (pss_cons (ps_expr (pm (pv 0) CHearer.cl m_Hearer_do hr (pa_cons (pv 1) pa_nil)))
      (pss_one (ps_ret (pe_op op_cat (pe_lst (pa_cons (pv 3) pa_nil)) (pm (pv 0) CHearer.cl m_Hearer_freed hr (pa_cons (pv 4) pa_nil))))))))), ?_⟩
  refine ⟨_, rfl, a, _, rfl, SqT.of ha, rfl, _, _, rfl, _, _, rfl, _, _, rfl, _, _, rfl, _, _, rfl, _, _, rfl, rfl, ?_⟩
  refine ⟨_, rfl, _, rfl, _, C, _, _, _, rfl, r.at_p hc, CHearer.cl, CHearer.n3, hF3 A, _, rfl, _, _, _, _, rfl, rfl, SqL.of (r.at3 hc), a3, _, _, rfl, rfl, _, rfl, ite2 (fun h0 => ?_) fun h0 => ?_⟩
  · -- known farther
    refine ⟨(by show 0 ≤ sizeLine; decide), fun l hl => ?_⟩
    have e : h.chg n ch ahead = (h, []) := by
      unfold HK.chg
      rw [if_pos (of_decide_eq_true h0)]
    rw [e] at go
    have t := (Tr.refl H c).new (o := .lst []) hl nl
    exact go l c _ (by rw [set_back eh]; exact r.mono t.mono) t
  have h0' := ndec h0
  have doit : (¬ (ch.set = false ∧ h.upto < (ahead : Int))) → h.chg n ch ahead = (((h.done n ch.set ch.worth).free).1, (n : Int) :: ((h.done n ch.set ch.worth).free).2) := fun q => by
    unfold HK.chg
    rw [if_neg h0', if_neg q]
  -- what is done behind the two tests
  have rest : (¬ (ch.set = false ∧ h.upto < (ahead : Int))) → ∀ (c4 : Lg) (H4 : Hp), HR K C A (hs.set ch.key (h.done n ch.set ch.worth)) H4 c4 → Tr H c H4 c4 → ∀ l, H4 l = none → ∀ (r5 : Addr) (c5 : Lg) (H5 : Hp),
      HR K C A (hs.set ch.key (h.done n ch.set ch.worth).free.1) H5 c5 → Tr (upd H4 l (.lst [.int n])) ((l, .lst [.int n]) :: c4) H5 ((r5, .lst ((h.done n ch.set ch.worth).free.2.map V.int)) :: (l, .lst [.int n]) :: c5) → ∀ q, H5 q = none →
      Q (.ref q) (upd H5 q (.lst ([.int n] ++ (h.done n ch.set ch.worth).free.2.map V.int))) := fun hq c4 H4 r4 t4 l hl r5 c5 H5 r6 t6 q hq2 => by
    have t7 := (t4.new (o := .lst [.int n]) hl nl).trans t6
    have t8 := t7.new (o := .lst ([.int n] ++ (h.done n ch.set ch.worth).free.2.map V.int)) hq2 nl
    rw [doit hq] at go
    refine go q c5 _ (r6.mono (Mono.new hq2)) ?_
    show Tr H c _ ((q, .lst ([.int n] ++ (h.done n ch.set ch.worth).free.2.map V.int)) :: c5)
    exact t8.sub (List.Sublist.cons_cons _ (List.sublist_append_right [_, _] c5))
  refine ⟨_, rfl, rfl, _, rfl, ?_⟩
  rw [wd_add]
  have wf' : Wf (h.done n ch.set ch.worth) := ⟨wf.nd, wf.few⟩
  have e4 : (hs.set ch.key (h.done n ch.set ch.worth))[ch.key]? = some (h.done n ch.set ch.worth) := List.getElem?_set_self hk
  have tail : (¬ (ch.set = false ∧ h.upto < (ahead : Int))) → ∀ (c4 : Lg) (H4 : Hp), HR K C A (hs.set ch.key (h.done n ch.set ch.worth)) H4 c4 → Tr H c H4 c4 → ∀ l, H4 l = none →
      spFreed K C [.ref A.p, .int ch.key] (upd H4 l (.lst [.int n])) (fun y H5 => rCat (.ref l) y H5 Q) E0 := fun hq c4 H4 r4 t4 l hl => by
    have t5 := (Tr.refl H4 c4).new (o := .lst [.int n]) hl nl
    have hc4 := t4.now hc
    refine ⟨rfl, A, _, c4, ch.key, _, rfl, r4.mono t5.mono, (t5.now hc4).tail, e4, wf', fun r5 c5 H5 r6 t6 => ?_⟩
    rw [List.set_set] at r6
    have t7 : Tr (upd H4 l (.lst [.int n])) ((l, .lst [.int n]) :: c4) H5 ((r5, .lst ((h.done n ch.set ch.worth).free.2.map V.int)) :: (l, .lst [.int n]) :: c5) := (t6.left (D := [(l, .lst [.int n])])).swap2
    have hh7 := t7.now (t5.now hc4)
    refine ⟨l, r5, _, _, rfl, rfl, hh7.tail.head, hh7.head, ?_, fun q hq2 => rest hq c4 H4 r4 t4 l hl r5 c5 H5 r6 t7 q hq2⟩
    have : (h.done n ch.set ch.worth).free.2.length ≤ 122 := by
      refine Nat.le_trans fold_len ?_
      rw [(srt_perm _).length_eq, asN, List.length_map]
      exact Nat.le_trans (Nat.add_le_add (Nat.le_refl _) (Nat.le_of_lt wf'.few)) (by simp)
    rw [List.length_map]
    exact Nat.le_trans (show 1 + _ ≤ 2000 by omega) (by decide)
  cases hset : ch.set with
  | true =>
    have hq : ¬ (ch.set = false ∧ h.upto < (ahead : Int)) := fun q => by
      rw [hset] at q
      cases q.1
    refine ⟨_, rfl, A.p, _, _, rfl, r.at_p hc, hFno, _, rfl, rfl, A, hs, c, .ref a, n, ahead, ch, h, rfl, r, hc, rv, eh, fun c4 H4 r4 t4 => ?_⟩
    refine ⟨_, rfl, (by show 1 ≤ sizeLine; decide), fun l hl => ?_⟩
    have hc4 := t4.now hc
    exact ⟨_, rfl, A.p, _, _, rfl, by rw [upd_ne (ne_of_none (r4.at_p hc4) hl)]; exact r4.at_p hc4, hFno, _, rfl, tail hq c4 H4 r4 t4 l hl⟩
  | false =>
    refine ⟨_, rfl, _, C, _, _, _, rfl, r.at_p hc, CHearer.cl, CHearer.n3, hF3 A, _, rfl, _, _, _, _, rfl, rfl, SqL.of (r.at3 hc), a3, _, rfl, _, _, rfl, rfl, _, rfl, ite2 (fun h1 => ?_) fun h1 => ?_⟩
    · -- put aside
      have h1' := of_decide_eq_true h1
      obtain ⟨d, kvs, ed, hd, ok⟩ := r.dict hc eh
      have ad : atI (A.ds.map V.ref) (ch.key : Int) = some (.ref d) := at_of (j := ch.key) rfl (by rw [List.getElem?_map, ed]; rfl)
      have el : asL ch.key ⟨n, ch.worth, ahead⟩ = .change n ch ahead := by
        unfold asL
        cases ch
        cases hset
        rfl
      obtain ⟨c4, r4, t4⟩ := r.set4 hc eh ed (ok.put (a := ⟨n, ch.worth, ahead⟩) (v := .ref a) (by rw [el]; exact rv))
      have hlen : kvs.length < sizeLine := by
        rw [ok.len]
        exact small1000 (by have := wf.few; omega)
      refine ⟨_, rfl, _, rfl, _, C, _, _, _, rfl, r.at_p hc, CHearer.cl, CHearer.n4, hF4 A, _, rfl, _, _, _, _, rfl, rfl, SqL.of (r.at4 hc), ad, _, rfl, d, _, rfl, DPut.k (k := Sum.inl (n : Int)) hd hlen, ?_⟩
      refine ⟨(by show 0 ≤ sizeLine; decide), fun l hl => ?_⟩
      have e : h.chg n ch ahead = ({ h with aside := putA h.aside ⟨n, ch.worth, ahead⟩ }, []) := by
        unfold HK.chg
        rw [if_neg h0', if_pos ⟨hset, h1'⟩]
      rw [e] at go
      exact go l c4 _ (r4.mono (Mono.new hl)) (t4.new hl nl)
    · have h1' := ndec h1
      have hq : ¬ (ch.set = false ∧ h.upto < (ahead : Int)) := fun q => h1' q.2
      refine ⟨_, rfl, A.p, _, _, rfl, r.at_p hc, hFno, _, rfl, rfl, A, hs, c, .ref a, n, ahead, ch, h, rfl, r, hc, rv, eh, fun c4 H4 r4 t4 => ?_⟩
      refine ⟨_, rfl, (by show 1 ≤ sizeLine; decide), fun l hl => ?_⟩
      have hc4 := t4.now hc
      exact ⟨_, rfl, A.p, _, _, rfl, by rw [upd_ne (ne_of_none (r4.at_p hc4) hl)]; exact r4.at_p hc4, hFno, _, rfl, tail hq c4 H4 r4 t4 l hl⟩
end
end Cu

namespace Cu
open PySem PySem.Spec PyProof.Rows L2
section
variable {P : Program} {w : World} {K : PySem.W.Frag} {mg : Str → Option Value} {base : Heap} {C : Addr}
theorem ok_copied (F : Md K C "copied" "Hearer.copied" s_Hearer_copied) (Bm : Blt mg) (CHearer : CHr K C) (m_Hearer_freed : Mf P w K mg base 2 C "freed" ["self", "key"] (spFreed K C)) : Mf P w K mg base 3 C "copied" ["self", "letter"] (spCopied K C) := by
  refine F.ok sc_Hearer_copied (fun _ _ _ _ _ _ us hl => match us, hl with | [_, _], _ => rfl) len_of fun qual f cdv A0 outer s H vs Q E hr h => ?_
  obtain ⟨_, A, hs, c, v, n, b, rows, rfl, r, hc, rv, h8, wf, hb, go⟩ := h
  obtain ⟨a, t, xs, rfl, ha, ht, hxs, hrow⟩ := rv.part_inv
  refine ⟨_, (pss_cons (ps_asg (pv 1) (pg_tup rfl (pgs_cons (pg_name (i := 2) sc_Hearer_copied.nd rfl (Or.inl rfl)) (pgs_cons (pg_name (i := 3) sc_Hearer_copied.nd rfl (Or.inl rfl)) (pgs_cons (pg_name (i := 4) sc_Hearer_copied.nd rfl (Or.inl rfl)) (pgs_cons (pg_name (i := 5) sc_Hearer_copied.nd rfl (Or.inl rfl)) pgs_nil))))))
      (pss_cons (ps_set (i := 6) sc_Hearer_copied.nd rfl (Or.inl rfl) (pe_lst pa_nil))
      (pss_cons (ps_for PassesOwn.never rfl (pi_enumT rfl Bm.enumerate (pa_cons (pv 5) pa_nil)) (pg_tup rfl (pgs_cons (pg_name (i := 7) sc_Hearer_copied.nd rfl (Or.inl rfl)) (pgs_cons (pg_tup rfl (pgs_cons (pg_name (i := 8) sc_Hearer_copied.nd rfl (Or.inl rfl)) (pgs_cons (pg_name (i := 9) sc_Hearer_copied.nd rfl (Or.inl rfl)) pgs_nil))) pgs_nil)))
        (pss_cons (ps_set (i := 10) sc_Hearer_copied.nd rfl (Or.inl rfl) (pe_op op_add (pv 4) (pv 7)))
        (pss_one (ps_if (pt_cmpR op_gt (pv 3) (pe_ix ix_list (pe_fld (pv 0) rfl) (pv 10) (fun _ _ => rfl)) (nomark _))
          (pss_cons (ps_asg (pv 8) (pg_sub (pe_fld (pv 0) rfl) (pv 10) set_list))
          (pss_cons (ps_asg (pv 9) (pg_sub (pe_fld (pv 0) rfl) (pv 10) set_list))
          (pss_cons (ps_asg (pv 3) (pg_sub (pe_fld (pv 0) rfl) (pv 10) set_list))
          (pss_one (ps_expr (pe_bm PySem.F.plainAttrs_list PySem.F.slot_list_extend PySem.F.type_list_extend mt_extend (pv 6) (pa_cons (pm (pv 0) CHearer.cl m_Hearer_freed hr (pa_cons (pv 10) pa_nil)) pa_nil)))))))
          pss_nil))))
      (pss_one (ps_ret (pv 6)))))), ?_⟩
  refine ⟨_, rfl, a, _, rfl, SqT.of ha, rfl, _, _, rfl, _, _, rfl, _, _, rfl, _, _, rfl, rfl, ?_⟩
  refine ⟨(by show 0 ≤ sizeLine; decide), fun p hp => ?_⟩
  have t1 := (Tr.refl H c).new (o := .lst []) hp nl
  obtain ⟨a1, a2⟩ := prt_low (hs := hs) (l := .part n b rows) (b := b) fun k g hk => by
    simp only [hearK]
    rw [if_neg (by omega)]
  obtain ⟨b1, b2⟩ := prt_high (hs := hs) (l := .part n b rows) (e := b + rows.length) fun k g hk => by
    simp only [hearK]
    rw [if_pos (by omega), List.getElem?_eq_none (by omega)]
  refine ⟨_, rfl, t, xs, rfl, SqT.of (t1.mono _ _ ht trivial), for_it (walk_enumT (xs := xs)) (fun i σ H2 => ∃ (v7 v8 v9 v10 : Option V) (c' : Lg), σ = [some (.ref A.p), some (.ref a), some (.str "part"), some (.int n), some (.int b), some (.ref t), some (.ref p), v7, v8, v9, v10] ∧
      HR K C A (prt hs (.part n b rows) (b + i)) H2 c' ∧ Tr H c H2 ((p, .lst ((fnd hs (.part n b rows) (b + i)).map V.int)) :: c'))
    ⟨none, none, none, none, c, rfl, by rw [Nat.add_zero, a1]; exact r.mono t1.mono, by rw [Nat.add_zero, a2]; exact t1⟩ (fun i σ H2 _ ⟨_, _, _, _, _, _, _, t2⟩ => SqT.of (t2.mono _ _ ht trivial)) ?_ ?_⟩
  · rintro i x σ H2 H3 hi ⟨v7, v8, v9, v10, c', rfl, r2, t2⟩ ⟨T, x1, y1, rfl, hT, rfl, e1, e2⟩
    cases e1
    have hi' : i < rows.length := by omega
    obtain ⟨rw', er⟩ : ∃ r, rows[i]? = some r := ⟨rows[i], List.getElem?_eq_getElem hi'⟩
    obtain ⟨q, eq, hq⟩ := hrow i rw' er
    have e2 : xs[i]? = some y1 := e2
    rw [eq] at e2
    cases e2
    have t3 := t2.old (o := .tup [.int (i : Nat), .ref q]) hT
    have r3 := r2.mono (Mono.new (o := .tup [.int (i : Nat), .ref q]) hT)
    have hbi : b + i < hs.length := by omega
    obtain ⟨g, eg⟩ : ∃ g, hs[b + i]? = some g := ⟨hs[b + i], List.getElem?_eq_getElem hbi⟩
    have eg2 : (prt hs (.part n b rows) (b + i))[b + i]? = some g := by
      rw [prt_get eg, if_neg (Nat.lt_irrefl _)]
    have eK : hearK (b + i) g (.part n b rows) = g.row n rw'.1 rw'.2 := by
      simp only [hearK]
      rw [if_pos (Nat.le_add_right _ _), Nat.add_sub_cancel_left, er]
    have eP : prt hs (.part n b rows) (b + (i + 1)) = (prt hs (.part n b rows) (b + i)).set (b + i) (g.row n rw'.1 rw'.2).1 := by
      rw [← Nat.add_assoc, prt_succ eg, eK]
    have eF : fnd hs (.part n b rows) (b + (i + 1)) = fnd hs (.part n b rows) (b + i) ++ (g.row n rw'.1 rw'.2).2 := by
      rw [← Nat.add_assoc, fnd_succ eg, eK]
    have ez : ((b : Int) + (i : Nat)) = ((b + i : Nat) : Int) := by omega
    have hh := t3.now hc
    have hc3 := hh.tail
    have plen := prt_len hs (.part n b rows) (b + i)
    have a3 : atI ((prt hs (.part n b rows) (b + i)).map fun h => V.int h.upto) ((b : Int) + (i : Nat)) = some (V.int g.upto) := at_of (j := b + i) ez (by rw [List.getElem?_map, eg2]; rfl)
    refine ⟨T, _, rfl, SqT.of upd_same, rfl, _, _, rfl, _, _, rfl, q, _, rfl, SqT.of (t3.mono _ _ hq trivial), rfl, _, _, rfl, _, _, rfl, rfl, rfl, ?_⟩
    refine ⟨_, rfl, _, rfl, _, _, rfl, rfl, ?_⟩
    refine ⟨_, rfl, _, rfl, _, C, _, _, _, rfl, r3.at_p hc3, CHearer.cl, CHearer.n3, hF3 A, _, rfl, _, _, _, _, rfl, rfl, SqL.of (r3.at3 hc3), a3, _, _, rfl, rfl, _, rfl, ite2 (fun h0 => ?_) fun h0 => ?_⟩
    · have h0' := of_decide_eq_true h0
      have eRow : g.row n rw'.1 rw'.2 = ({ g with worth := rw'.1, since := rw'.2, upto := n } : HK).free := by
        unfold HK.row
        rw [if_pos h0']
      have ix1 : ∀ {α : Type} (gs : List HK) (f : HK → α), gs.length = hs.length → ixN (gs.map f).length ((b : Int) + (i : Nat)) = some (b + i) := fun gs f hl => ixN_of ez (by rw [List.length_map, hl]; exact hbi)
      refine ⟨_, rfl, _, rfl, _, C, _, _, _, rfl, r3.at_p hc3, CHearer.cl, CHearer.n1, hF1 A, _, rfl, _, _, _, _, rfl, rfl, r3.at1 hc3, ix1 _ _ plen, ?_⟩
      obtain ⟨c4, r4, t4⟩ := r3.set1 hc3 eg2 rw'.1
      have hc4 := t4.now hc3
      have e4 : ((prt hs (.part n b rows) (b + i)).set (b + i) { g with worth := rw'.1 })[b + i]? = some { g with worth := rw'.1 } := List.getElem?_set_self (by omega)
      refine ⟨_, rfl, _, rfl, _, C, _, _, _, rfl, r4.at_p hc4, CHearer.cl, CHearer.n2, hF2 A, _, rfl, _, _, _, _, rfl, rfl, r4.at2 hc4, ix1 _ _ (by rw [List.length_set]; exact plen), ?_⟩
      obtain ⟨c5, r5, t5⟩ := r4.set2 hc4 e4 rw'.2
      rw [List.set_set] at r5
      have hc5 := t5.now hc4
      have e5 : ((prt hs (.part n b rows) (b + i)).set (b + i) { g with worth := rw'.1, since := rw'.2 })[b + i]? = some { g with worth := rw'.1, since := rw'.2 } := List.getElem?_set_self (by omega)
      refine ⟨_, rfl, _, rfl, _, C, _, _, _, rfl, r5.at_p hc5, CHearer.cl, CHearer.n3, hF3 A, _, rfl, _, _, _, _, rfl, rfl, r5.at3 hc5, ix1 _ _ (by rw [List.length_set]; exact plen), ?_⟩
      obtain ⟨c6, r6, t6⟩ := r5.set3 hc5 e5 n
      rw [List.set_set] at r6
      have hc6 := t6.now hc5
      have e6 : ((prt hs (.part n b rows) (b + i)).set (b + i) { g with worth := rw'.1, since := rw'.2, upto := n })[b + i]? = some { g with worth := rw'.1, since := rw'.2, upto := n } := List.getElem?_set_self (by omega)
      have t7 := t3.trans (((t4.trans t5).trans t6).left (D := [(p, .lst ((fnd hs (.part n b rows) (b + i)).map V.int))]))
      have hh7 := t7.now hc
      have wfg : Wf ({ g with worth := rw'.1, since := rw'.2, upto := n } : HK) := ⟨(wf g (List.mem_of_getElem? eg)).nd, (wf g (List.mem_of_getElem? eg)).few⟩
      refine ⟨_, rfl, .inl ⟨rfl, _, SqL.of hh7.head⟩, _, rfl, A.p, _, _, rfl, r6.at_p hc6, hFno, _, rfl, rfl, A, _, c6, b + i, _, congrArg (fun z => [V.ref A.p, V.int z]) ez, r6, hc6, e6, wfg, fun r8 c8 H8 q8 t8 => ?_⟩
      rw [List.set_set] at q8
      have t9 := (t7.trans (t8.left (D := [(p, .lst ((fnd hs (.part n b rows) (b + i)).map V.int))])))
      have hh9 := t9.now hc
      refine ⟨p, r8, _, _, rfl, rfl, hh9.head, hh9.tail.head, ?_, ?_⟩
      · have := fnd_len (l := .part n b rows) (m := b + i) wf h8
        have := free_len wfg
        rw [List.length_map, List.length_map]
        exact Nat.le_trans (show _ ≤ 2000 by omega) (by decide)
      · have t10 := t9.put (o' := .lst ((fnd hs (.part n b rows) (b + i)).map V.int ++ ({ g with worth := rw'.1, since := rw'.2, upto := n } : HK).free.2.map V.int)) hc nl
        refine ⟨_, _, _, _, c8, rfl, ?_, ?_⟩
        · rw [eP, eRow]
          exact q8.mono hh9.mono_put
        · rw [eF, eRow, List.map_append]
          exact t10.sub (List.Sublist.cons_cons _ (List.sublist_cons_self _ _))
    · have h0' := ndec h0
      have eRow : g.row n rw'.1 rw'.2 = (g, []) := by
        unfold HK.row
        rw [if_neg h0']
      refine ⟨_, _, _, _, c', rfl, ?_, ?_⟩
      · rw [eP, eRow, set_back eg2]
        exact r3
      · rw [eF, eRow, List.append_nil]
        exact t3
  · rintro σ H2 ⟨v7, v8, v9, v10, c', rfl, r2, t2⟩
    rw [hxs, b1] at r2
    rw [hxs, b2] at t2
    exact ⟨_, rfl, go p c' H2 r2 t2⟩
theorem ok_hear (F : Md K C "hear" "Hearer.hear" s_Hearer_hear) (Bm : Blt mg) (CHearer : CHr K C) (m_Hearer_changed : Mf P w K mg base 3 C "changed" ["self", "letter"] (spChanged K C)) (m_Hearer_copied : Mf P w K mg base 3 C "copied" ["self", "letter"] (spCopied K C)) :
    Mf P w K mg base 4 C "hear" ["self", "letter"] (spHear K C) := by
  refine F.ok sc_Hearer_hear (fun _ _ _ _ _ _ us hl => match us, hl with | [_, _], _ => rfl) len_of fun qual f cdv A0 outer s H vs Q E hr h => ?_
  obtain ⟨_, A, hs, c, v, l, rfl, r, hc, rv, h8, wf, hl, go⟩ := h
  refine ⟨_, (pss_cons (ps_if (pt_cmpR op_eq (pe_ix ix_tup (pv 1) pe_int (fun _ _ => rfl)) pe_str (nomark _))
        (pss_one (ps_ret (pm (pv 0) CHearer.cl m_Hearer_changed hr (pa_cons (pv 1) pa_nil))))
        pss_nil)
      (pss_cons (ps_if (pt_cmpR op_eq (pe_ix ix_tup (pv 1) pe_int (fun _ _ => rfl)) pe_str (nomark _))
        (pss_one (ps_ret (pm (pv 0) CHearer.cl m_Hearer_copied hr (pa_cons (pv 1) pa_nil))))
        pss_nil)
      (pss_cons (ps_for PassesOwn.never rfl (pi_range1 rfl Bm.range (pa_cons (pe_callB call_len_seq rfl Bm.len (by decide +kernel) (pa_cons (pe_fld (pv 0) rfl) pa_nil)) pa_nil)) (pg_name (i := 2) sc_Hearer_hear.nd rfl (Or.inl rfl))
        (pss_one (ps_if (pt_chain op_le op_lt (pe_ix ix_tup (pe_ix ix_tup (pv 1) pe_int (fun _ _ => rfl)) (pv 2) (fun _ _ => rfl)) (pe_ix ix_list (pe_fld (pv 0) rfl) (pv 2) (fun _ _ => rfl)) (pe_ix ix_tup (pv 1) pe_int (fun _ _ => rfl)))
          (pss_one (ps_asg (pe_ix ix_tup (pv 1) pe_int (fun _ _ => rfl)) (pg_sub (pe_fld (pv 0) rfl) (pv 2) set_list)))
          pss_nil)))
      (pss_one (ps_ret (pe_lst pa_nil)))))), ?_⟩
  cases l with
  | change n ch ahead =>
    obtain ⟨a, rfl, ha⟩ := rv.chg_inv
    obtain ⟨g, eg⟩ : ∃ g, hs[ch.key]? = some g := ⟨hs[ch.key], List.getElem?_eq_getElem hl⟩
    obtain ⟨e1, e2⟩ := hear_change (n := n) (ahead := ahead) eg
    rw [e1, e2] at go
    exact ⟨_, rfl, a, _, _, _, rfl, rfl, SqT.of ha, rfl, rfl, _, rfl, iteP (by decide +kernel) ⟨_, rfl, A.p, _, _, rfl, r.at_p hc, hFno, _, rfl, rfl, A, hs, c, .ref a, n, ahead, ch, g, rfl, r, hc, rv, eg, wf g (List.mem_of_getElem? eg), go⟩⟩
  | part n b rows =>
    obtain ⟨a, t, xs, rfl, ha, _⟩ := id rv.part_inv
    exact ⟨_, rfl, a, _, _, _, rfl, rfl, SqT.of ha, rfl, rfl, _, rfl, iteM (by decide +kernel) ⟨_, rfl, a, _, _, _, rfl, rfl, SqT.of ha, rfl, rfl, _, rfl, iteP (by decide +kernel) ⟨_, rfl, A.p, _, _, rfl, r.at_p hc, hFno, _, rfl, rfl, A, hs, c, .ref a, n, b, rows, rfl, r, hc, rv, h8, wf, hl, go⟩⟩⟩
  | beat n lasts =>
    obtain ⟨a, t, rfl, ha, ht⟩ := rv.beat_inv
    have hl : lasts.length = hs.length := hl
    refine ⟨_, rfl, a, _, _, _, rfl, rfl, SqT.of ha, rfl, rfl, _, rfl, iteM (by decide +kernel) ⟨_, rfl, a, _, _, _, rfl, rfl, SqT.of ha, rfl, rfl, _, rfl, iteM (by decide +kernel) ?_⟩⟩
    refine ⟨_, rfl, _, C, _, _, _, rfl, r.at_p hc, CHearer.cl, CHearer.n3, hF3 A, _, _, rfl, .inl (SqL.of (r.at3 hc)), _, rfl, by rw [List.length_map]; omega, by rw [List.length_map]; omega, ?_⟩
    refine for_range (lo := 0) (n := ((hs.map fun h => V.int h.upto).length : Int).toNat) (fun i σ H2 => ∃ (v2 : Option V) (c' : Lg), σ = [some (.ref A.p), some (.ref a), v2] ∧ HR K C A (prt hs (.beat n lasts) i) H2 c' ∧ Tr H c H2 c' ∧ fnd hs (.beat n lasts) i = [])
      ⟨none, c, rfl, ?_, Tr.refl H c, rfl⟩ ?_ ?_
    · rw [(prt_low (hs := hs) (l := .beat n lasts) (b := 0) fun k g hk => absurd hk (Nat.not_lt_zero _)).1]
      exact r
    · rintro i σ H2 hi ⟨v2, c', rfl, r2, t2, f2⟩
      rw [List.length_map] at hi
      have hi' : i < hs.length := by omega
      obtain ⟨g, eg⟩ : ∃ g, hs[i]? = some g := ⟨hs[i], List.getElem?_eq_getElem hi'⟩
      obtain ⟨la, el⟩ : ∃ la, lasts[i]? = some la := ⟨lasts[i], List.getElem?_eq_getElem (by omega)⟩
      have eg2 : (prt hs (.beat n lasts) i)[i]? = some g := by rw [prt_get eg, if_neg (Nat.lt_irrefl _)]
      have eK : hearK i g (.beat n lasts) = (g.beat n la, []) := by
        simp only [hearK]
        rw [el]
      have eP : prt hs (.beat n lasts) (i + 1) = (prt hs (.beat n lasts) i).set i (g.beat n la) := by rw [prt_succ eg, eK]
      have eF : fnd hs (.beat n lasts) (i + 1) = [] := by rw [fnd_succ eg, eK, f2]; rfl
      have ez : ((0 : Int) + i) = (i : Int) := by omega
      have hc2 := t2.now hc
      have plen := prt_len hs (.beat n lasts) i
      have a3 : atI ((prt hs (.beat n lasts) i).map fun h => V.int h.upto) ((0 : Int) + i) = some (V.int g.upto) := at_of (j := i) ez (by rw [List.getElem?_map, eg2]; rfl)
      have a4 : atI (lasts.map fun k : Nat => V.int k) ((0 : Int) + i) = some (V.int la) := at_of (j := i) ez (by rw [List.getElem?_map, el]; rfl)
      have ha2 := t2.mono _ _ ha trivial
      have same : (¬ ((la : Int) ≤ g.upto ∧ g.upto < (n : Int))) → ∃ (v2' : Option V) (c'' : Lg), ([some (V.ref A.p), some (.ref a), some (.int (0 + i))] : L2.St) = [some (.ref A.p), some (.ref a), v2'] ∧ HR K C A (prt hs (.beat n lasts) (i + 1)) H2 c'' ∧ Tr H c H2 c'' ∧ fnd hs (.beat n lasts) (i + 1) = [] := fun q => by
        have eB : g.beat n la = g := by
          unfold HK.beat
          rw [if_neg q]
        refine ⟨_, c', rfl, ?_, t2, eF⟩
        rw [eP, eB, set_back eg2]
        exact r2
      refine ⟨_, rfl, a, _, _, _, rfl, rfl, SqT.of ha2, rfl, _, rfl, t, _, _, _, rfl, rfl, SqT.of (t2.mono _ _ ht trivial), a4, _, rfl, _, C, _, _, _, rfl, r2.at_p hc2, CHearer.cl, CHearer.n3, hF3 A, _, rfl, _, _, _, _, rfl, rfl, SqL.of (r2.at3 hc2), a3, _, _, rfl, rfl, _, rfl, ite2 (fun h0 => ?_) fun h0 => ?_⟩
      · refine ⟨_, rfl, a, _, _, _, rfl, rfl, SqT.of ha2, rfl, _, _, rfl, rfl, _, rfl, ite2 (fun h1 => ?_) fun h1 => ?_⟩
        · refine ⟨_, rfl, a, _, _, _, rfl, rfl, SqT.of ha2, rfl, _, rfl, _, C, _, _, _, rfl, r2.at_p hc2, CHearer.cl, CHearer.n3, hF3 A, _, rfl, _, _, _, _, rfl, rfl, r2.at3 hc2, ixN_of ez (by rw [List.length_map, plen]; exact hi'), ?_⟩
          obtain ⟨c4, r4, t4⟩ := r2.set3 hc2 eg2 n
          have eB : g.beat n la = { g with upto := n } := by
            unfold HK.beat
            rw [if_pos ⟨of_decide_eq_true h0, of_decide_eq_true h1⟩]
          refine ⟨_, c4, rfl, ?_, t2.trans t4, eF⟩
          rw [eP, eB]
          exact r4
        · exact same fun q => ndec h1 q.2
      · exact ⟨_, rfl, iteM (by decide) (same fun q => ndec h0 q.1)⟩
    · rintro σ H2 ⟨v2, c', rfl, r2, t2, f2⟩
      refine ⟨(by show 0 ≤ sizeLine; decide), fun l hl2 => ?_⟩
      have e1 : prt hs (.beat n lasts) ((hs.map fun h => V.int h.upto).length : Int).toNat = hear hs (.beat n lasts) := prt_all (by rw [List.length_map]; omega)
      have e2 : fnd hs (.beat n lasts) ((hs.map fun h => V.int h.upto).length : Int).toNat = heard hs (.beat n lasts) := fnd_all (by rw [List.length_map]; omega)
      rw [e1] at r2
      rw [e2] at f2
      rw [f2] at go
      exact go l c' _ (r2.mono (Mono.new hl2)) (t2.new hl2 nl)
end
end Cu

namespace Cu
open PySem PySem.Spec PyProof.Rows L2
/-! what a hearer holds is right -/
theorem lof_le (cs : List Ch) (k : Nat) : lof cs k ≤ cs.length := by
  induction cs using snoc_ind with
  | h0 => exact Nat.le_refl _
  | h1 cs c ih =>
    rw [lof_snoc, List.length_append, List.length_singleton]
    split <;> omega
theorem take_le_len {cs : List Ch} {j : Nat} : (cs.take j).length ≤ j := by
  rw [List.length_take]
  exact Nat.min_le_left _ _
theorem lof_take_le (cs : List Ch) (j k : Nat) : lof (cs.take j) k ≤ j := Nat.le_trans (lof_le _ _) take_le_len
/-- a step of a story -/
theorem lof_step {cs : List Ch} {j k : Nat} : lof (cs.take (j + 1)) k = lof (cs.take j) k ∨ (lof (cs.take (j + 1)) k = j + 1 ∧ ∃ c, cs[j]? = some c ∧ c.key = k) := by
  cases e : cs[j]? with
  | none =>
    left
    have hj := List.getElem?_eq_none_iff.mp e
    rw [List.take_of_length_le hj, List.take_of_length_le (Nat.le_succ_of_le hj)]
  | some c =>
    have hj := (List.getElem?_eq_some_iff.mp e).1
    rw [take_snoc e, lof_snoc]
    by_cases hk : c.key = k
    · right
      rw [if_pos hk, List.length_take, Nat.min_eq_left (Nat.le_of_lt hj)]
      exact ⟨rfl, c, rfl, hk⟩
    · left
      rw [if_neg hk]
theorem lof_mono {cs : List Ch} {k i j : Nat} (h : i ≤ j) : lof (cs.take i) k ≤ lof (cs.take j) k := by
  induction j with
  | zero =>
    have : i = 0 := by omega
    subst this
    exact Nat.le_refl _
  | succ j ih =>
    by_cases e : i = j + 1
    · subst e
      exact Nat.le_refl _
    · have := ih (by omega)
      rcases lof_step (cs := cs) (j := j) (k := k) with q | ⟨q, _⟩
      · omega
      · have := lof_take_le cs j k
        omega
theorem lof_ge {cs : List Ch} {k m j : Nat} {c : Ch} (e : cs[m]? = some c) (hk : c.key = k) (h : m < j) : m + 1 ≤ lof (cs.take j) k := by
  have h1 : lof (cs.take (m + 1)) k = m + 1 := by
    have hm := (List.getElem?_eq_some_iff.mp e).1
    rw [take_snoc e, lof_snoc, if_pos hk, List.length_take, Nat.min_eq_left (Nat.le_of_lt hm)]
  have := lof_mono (cs := cs) (k := k) (show m + 1 ≤ j by omega)
  omega
/-- nothing happens to a key behind its last change -/
theorem wof_const {cs : List Ch} {k i j : Nat} (h : i ≤ j) (hl : lof (cs.take j) k ≤ i) : wof (cs.take j) k = wof (cs.take i) k ∧ lof (cs.take j) k = lof (cs.take i) k := by
  induction j with
  | zero =>
    have : i = 0 := by omega
    subst this
    exact ⟨rfl, rfl⟩
  | succ j ih =>
    by_cases e : i = j + 1
    · subst e
      exact ⟨rfl, rfl⟩
    · have hij : i ≤ j := by omega
      cases ec : cs[j]? with
      | none =>
        have hj := List.getElem?_eq_none_iff.mp ec
        have e1 : cs.take (j + 1) = cs.take j := by rw [List.take_of_length_le hj, List.take_of_length_le (Nat.le_succ_of_le hj)]
        rw [e1] at hl ⊢
        exact ih hij hl
      | some c =>
        have hk : ¬ c.key = k := fun q => by
          have := lof_ge (j := j + 1) ec q (Nat.lt_succ_self _)
          omega
        rw [take_snoc ec, lof_snoc, if_neg hk] at hl
        rw [take_snoc ec, wof_snoc, lof_snoc, if_neg hk, wst, if_neg hk]
        exact ih hij hl
/-- the change of a key -/
theorem wof_at {cs : List Ch} {m : Nat} {c : Ch} (e : cs[m]? = some c) : wof (cs.take (m + 1)) c.key = (if c.set then 0 else wof (cs.take m) c.key) + c.worth ∧ lof (cs.take (m + 1)) c.key = m + 1 := by
  have hm := (List.getElem?_eq_some_iff.mp e).1
  rw [take_snoc e, wof_snoc, lof_snoc, if_pos rfl, wst, if_pos rfl, List.length_take, Nat.min_eq_left (Nat.le_of_lt hm)]
  exact ⟨rfl, rfl⟩
/-- put aside is a true adding change -/
def AsIn (cs : List Ch) (k : Nat) (a : As) : Prop := ∃ m, a.n = m + 1 ∧ cs[m]? = some ⟨k, false, a.worth⟩ ∧ a.ahead = lof (cs.take m) k
theorem AsIn.lt {cs : List Ch} {k : Nat} {a : As} (h : AsIn cs k a) : a.ahead < a.n := by
  obtain ⟨m, e1, e2, e3⟩ := h
  have := lof_take_le cs m k
  omega
theorem AsIn.le {cs : List Ch} {k : Nat} {a : As} (h : AsIn cs k a) : a.n ≤ cs.length ∧ 0 < a.n := by
  obtain ⟨m, e1, e2, e3⟩ := h
  have := (List.getElem?_eq_some_iff.mp e2).1
  omega
/-- of two changes of a key the later one is behind the other one -/
theorem AsIn.after {cs : List Ch} {k : Nat} {a b : As} (ha : AsIn cs k a) (hb : AsIn cs k b) (h : a.n < b.n) : a.n ≤ b.ahead := by
  obtain ⟨m, e1, e2, e3⟩ := ha
  obtain ⟨m', f1, f2, f3⟩ := hb
  have := lof_ge (k := k) (j := m') e2 rfl (by omega)
  omega
/-- what is held is right -/
structure KR (cs : List Ch) (k : Nat) (h : HK) : Prop where
  lo : -1 ≤ h.upto
  hi : h.upto ≤ cs.length
  ok : ∀ u : Nat, h.upto = u → h.worth = wof (cs.take u) k ∧ h.since = lof (cs.take u) k
  as : ∀ a ∈ h.aside, AsIn cs k a
  nd : (asN h.aside).Nodup
structure KI (cs : List Ch) (k : Nat) (h : HK) : Prop extends KR cs k h where
  ahead : ∀ a ∈ h.aside, h.upto < (a.ahead : Int)
theorem KI.ini (cs : List Ch) (k : Nat) : KI cs k HK.ini := ⟨⟨Int.le_refl _, by show (-1 : Int) ≤ _; omega, fun u e => by
  have e : (-1 : Int) = u := e
  omega, fun _ h => (nomatch h), List.nodup_nil⟩, fun _ h => (nomatch h)⟩
theorem dropA_mem {as : List As} {n : Int} {a : As} : a ∈ dropA as n ↔ a ∈ as ∧ (a.n : Int) ≠ n := by
  unfold dropA
  rw [List.mem_filter]
  simp
theorem asN_drop (as : List As) (n : Int) : (asN (dropA as n)).Sublist (asN as) := (List.filter_sublist (p := _)).map _
theorem findA_mem {as : List As} {n : Int} {a : As} (h : findA as n = some a) : a ∈ as := List.mem_of_find?_eq_some h
theorem asN_of {as : List As} {b : As} (hb : b ∈ as) : (b.n : Int) ∈ asN as := List.mem_map.mpr ⟨b, hb, rfl⟩
theorem nd_same {as : List As} (nd : (asN as).Nodup) {a b : As} (ha : a ∈ as) (hb : b ∈ as) (e : a.n = b.n) : a = b := by
  induction as with
  | nil => cases ha
  | cons x as ih =>
    obtain ⟨h1, h2⟩ := List.nodup_cons.mp (show ((x.n : Int) :: asN as).Nodup from nd)
    rcases List.mem_cons.mp ha with ha' | ha'
    · rcases List.mem_cons.mp hb with hb' | hb'
      · rw [ha', hb']
      · refine absurd ?_ h1
        have q := asN_of hb'
        rw [← e, ha'] at q
        exact q
    · rcases List.mem_cons.mp hb with hb' | hb'
      · refine absurd ?_ h1
        have q := asN_of ha'
        rw [e, hb'] at q
        exact q
      · exact ih h2 ha' hb'
/-- a number that stands for a change of the key -/
def IsN (cs : List Ch) (k : Nat) (n : Int) : Prop := ∃ m c, n = ((m + 1 : Nat) : Int) ∧ cs[m]? = some c ∧ c.key = k
theorem fold_inv {cs : List Ch} {k : Nat} {u0 : Int} : ∀ {L : List Int} {st : HK × List Int}, KR cs k st.1 → 0 ≤ st.1.upto → L.Pairwise (· < ·) → (∀ n ∈ L, n ∈ asN st.1.aside) →
    (∀ a ∈ st.1.aside, (a.n : Int) ∉ L → st.1.upto < (a.ahead : Int) ∧ ∀ n ∈ L, (a.n : Int) < n) →
    u0 ≤ st.1.upto → (∀ n ∈ st.2, u0 < n ∧ n ≤ st.1.upto ∧ IsN cs k n) → st.2.Pairwise (· < ·) →
    KI cs k (L.foldl HK.fstep st).1 ∧ st.1.upto ≤ (L.foldl HK.fstep st).1.upto ∧ (∀ n ∈ (L.foldl HK.fstep st).2, u0 < n ∧ n ≤ (L.foldl HK.fstep st).1.upto ∧ IsN cs k n) ∧ (L.foldl HK.fstep st).2.Pairwise (· < ·)
  | [], st, r, h0, _, _, hrem, hu, hf, hp => ⟨⟨r, fun a ha => (hrem a ha (List.not_mem_nil)).1⟩, Int.le_refl _, hf, hp⟩
  | n :: L, st, r, h0, hL, hin, hrem, hu, hf, hp => by
    rw [List.foldl_cons]
    obtain ⟨hL1, hL2⟩ := List.pairwise_cons.mp hL
    obtain ⟨a, ha, ean⟩ := findA_some (hin n List.mem_cons_self)
    have hnL : n ∉ L := fun q => Int.lt_irrefl _ (hL1 n q)
    have ham := findA_mem ha
    have hain := r.as a ham
    obtain ⟨u, hu'⟩ : ∃ u : Nat, st.1.upto = u := ⟨st.1.upto.toNat, by omega⟩
    have stay : ∀ m ∈ L, m ∈ asN (dropA st.1.aside n) := fun m hm => by
      obtain ⟨b, hb, eb⟩ := List.mem_map.mp (hin m (List.mem_cons_of_mem _ hm))
      refine List.mem_map.mpr ⟨b, dropA_mem.mpr ⟨hb, fun q => ?_⟩, eb⟩
      have := hL1 m hm
      omega
    by_cases h1 : n ≤ st.1.upto
    · have e1 : HK.fstep st n = ({ st.1 with aside := dropA st.1.aside n }, st.2) := by
        unfold HK.fstep
        rw [ha]
        dsimp only
        rw [if_pos h1]
      rw [e1]
      exact fold_inv (st := ({ st.1 with aside := dropA st.1.aside n }, st.2)) ⟨r.lo, r.hi, r.ok, fun b hb => r.as b (dropA_mem.mp hb).1, r.nd.sublist (asN_drop _ _)⟩ h0 hL2 stay
        (fun b hb hbL => by
          obtain ⟨hb1, hb2⟩ := dropA_mem.mp hb
          obtain ⟨q1, q2⟩ := hrem b hb1 fun q => by
            rcases List.mem_cons.mp q with q | q
            · exact hb2 q
            · exact hbL q
          exact ⟨q1, fun m hm => q2 m (List.mem_cons_of_mem _ hm)⟩) hu hf hp
    · by_cases h2 : (a.ahead : Int) ≤ st.1.upto
      · have e1 : HK.fstep st n = (({ st.1 with aside := dropA st.1.aside n } : HK).done a.n false a.worth, st.2 ++ [n]) := by
          unfold HK.fstep
          rw [ha]
          dsimp only
          rw [if_neg h1, if_pos h2]
        rw [e1]
        obtain ⟨m, em1, em2, em3⟩ := id hain
        have hle := hain.le
        have hright : st.1.worth + a.worth = wof (cs.take a.n) k ∧ a.n = lof (cs.take a.n) k := by
          obtain ⟨w1, w2⟩ := wof_at em2
          obtain ⟨w3, _⟩ := wof_const (cs := cs) (k := k) (i := u) (j := m) (by omega) (by omega)
          rw [em1]
          refine ⟨?_, w2.symm⟩
          rw [show wof (cs.take (m + 1)) k = (if false = true then (0 : Int) else wof (cs.take m) k) + a.worth from w1, if_neg (by decide), w3, (r.ok u hu').1]
        have hdone : KR cs k (({ st.1 with aside := dropA st.1.aside n } : HK).done a.n false a.worth) := by
          refine ⟨?_, ?_, fun v hv => ?_, fun b hb => r.as b (dropA_mem.mp hb).1, r.nd.sublist (asN_drop _ _)⟩
          · show (-1 : Int) ≤ (a.n : Int)
            omega
          · show (a.n : Int) ≤ cs.length
            omega
          · have hv : (a.n : Int) = v := hv
            have : a.n = v := by omega
            subst this
            exact ⟨hright.1, hright.2⟩
        have hrem' : ∀ b ∈ (({ st.1 with aside := dropA st.1.aside n } : HK).done a.n false a.worth).aside, (b.n : Int) ∉ L → (({ st.1 with aside := dropA st.1.aside n } : HK).done a.n false a.worth).upto < (b.ahead : Int) ∧ ∀ n ∈ L, (b.n : Int) < n := by
          intro b hb hbL
          obtain ⟨hb1, hb2⟩ := dropA_mem.mp hb
          obtain ⟨q1, q2⟩ := hrem b hb1 fun q => by
            rcases List.mem_cons.mp q with q | q
            · exact hb2 q
            · exact hbL q
          have q3 := q2 n List.mem_cons_self
          have := (r.as b hb1).after hain (by omega)
          have := (r.as b hb1).lt
          omega
        have hf' : ∀ x ∈ st.2 ++ [n], u0 < x ∧ x ≤ (({ st.1 with aside := dropA st.1.aside n } : HK).done a.n false a.worth).upto ∧ IsN cs k x := by
          intro x hx
          show u0 < x ∧ x ≤ (a.n : Int) ∧ IsN cs k x
          rcases List.mem_append.mp hx with hx | hx
          · obtain ⟨p1, p2, p3⟩ := hf x hx
            exact ⟨p1, by omega, p3⟩
          · rw [List.mem_singleton] at hx
            subst hx
            exact ⟨by omega, by omega, m, _, by omega, em2, rfl⟩
        have hp' : (st.2 ++ [n]).Pairwise (· < ·) := by
          refine List.pairwise_append.mpr ⟨hp, List.pairwise_singleton _ _, fun x hx y hy => ?_⟩
          rw [List.mem_singleton] at hy
          subst hy
          have := (hf x hx).2.1
          omega
        have q := fold_inv (u0 := u0) (L := L) (st := (({ st.1 with aside := dropA st.1.aside n } : HK).done a.n false a.worth, st.2 ++ [n])) hdone (by show (0 : Int) ≤ (a.n : Int); omega) hL2 stay hrem' (by show u0 ≤ (a.n : Int); omega) hf' hp'
        exact ⟨q.1, Int.le_trans (by show st.1.upto ≤ (a.n : Int); omega) q.2.1, q.2.2⟩
      · have e1 : HK.fstep st n = st := by
          unfold HK.fstep
          rw [ha]
          dsimp only
          rw [if_neg h1, if_neg h2]
        rw [e1]
        refine fold_inv r h0 hL2 (fun m hm => hin m (List.mem_cons_of_mem _ hm)) (fun b hb hbL => ?_) hu hf hp
        by_cases hbn : (b.n : Int) = n
        · have : b = a := nd_same r.nd hb ham (by omega)
          subst this
          exact ⟨by omega, fun m hm => by rw [hbn]; exact hL1 m hm⟩
        · obtain ⟨q1, q2⟩ := hrem b hb fun q => by
            rcases List.mem_cons.mp q with q | q
            · exact hbn q
            · exact hbL q
          exact ⟨q1, fun m hm => q2 m (List.mem_cons_of_mem _ hm)⟩
theorem srt_lt {ns : List Int} (nd : ns.Nodup) : (srt ns).Pairwise (· < ·) := by
  have h1 : (srt ns).Pairwise (· ≤ ·) := by
    have := List.pairwise_mergeSort (le := fun a b : Int => decide (a ≤ b)) (fun a b c h1 h2 => by simp at h1 h2 ⊢; omega) (fun a b => by simp; omega) ns
    exact this.imp fun h => by simpa using h
  have h2 : (srt ns).Nodup := (srt_perm ns).nodup_iff.mpr nd
  exact (List.pairwise_and_iff.mpr ⟨h1, h2⟩).imp fun ⟨a, b⟩ => by omega
/-- what is told as done by a letter, for a key: between what was known and what is known, changes of the key, rising -/
structure Told (cs : List Ch) (k : Nat) (u : Int) (r : HK × List Int) : Prop where
  inv : KI cs k r.1
  up : u ≤ r.1.upto
  num : ∀ n ∈ r.2, u < n ∧ n ≤ r.1.upto ∧ IsN cs k n
  rise : r.2.Pairwise (· < ·)
theorem free_told {cs : List Ch} {k : Nat} {h : HK} {u0 : Int} (r : KR cs k h) (h0 : 0 ≤ h.upto) (hu : u0 ≤ h.upto) : Told cs k u0 h.free ∧ h.upto ≤ h.free.1.upto := by
  obtain ⟨q1, q2, q3, q4⟩ := fold_inv (u0 := u0) (L := srt (asN h.aside)) (st := (h, [])) r h0 (srt_lt r.nd) (fun n hn => (srt_perm _).mem_iff.mp hn)
    (fun a ha q => absurd ((srt_perm _).mem_iff.mpr (List.mem_map.mpr ⟨a, ha, rfl⟩)) q) hu (fun _ q => (nomatch q)) List.Pairwise.nil
  exact ⟨⟨q1, Int.le_trans hu q2, q3, q4⟩, q2⟩
theorem Told.none {cs : List Ch} {k : Nat} {h : HK} (i : KI cs k h) : Told cs k h.upto (h, []) := ⟨i, Int.le_refl _, fun _ q => (nomatch q), List.Pairwise.nil⟩
theorem putA_mem {as : List As} {a b : As} (h : b ∈ putA as a) : b = a ∨ b ∈ as := by
  unfold putA at h
  split at h
  · obtain ⟨x, hx, e⟩ := List.mem_map.mp h
    split at e
    · exact .inl e.symm
    · exact .inr (e ▸ hx)
  · rcases List.mem_append.mp h with h | h
    · exact .inr h
    · exact .inl (List.mem_singleton.mp h)
theorem putA_nd {as : List As} {a : As} (nd : (asN as).Nodup) : (asN (putA as a)).Nodup := by
  unfold putA
  split
  · have : asN (as.map fun x => if x.n = a.n then a else x) = asN as := by
      unfold asN
      rw [List.map_map]
      apply List.map_congr_left
      intro x _
      show ((if x.n = a.n then a else x).n : Int) = x.n
      split
      · rename_i h
        rw [h]
      · rfl
    rw [this]
    exact nd
  · rename_i h
    unfold asN
    rw [List.map_append]
    refine List.nodup_append.mpr ⟨nd, by simp, fun x hx y hy q => h ?_⟩
    obtain ⟨b, hb, eb⟩ := List.mem_map.mp hx
    have hy : y = (a.n : Int) := by simpa using hy
    rw [List.any_eq_true]
    exact ⟨b, hb, by simp; omega⟩
/-- THE STEP -/
theorem hearK_told {nk : Nat} {cs : List Ch} {k : Nat} {h : HK} {l : Letter} (i : KI cs k h) (hk : k < nk) (hl : IsLet nk cs l) : Told cs k h.upto (hearK k h l) := by
  cases hl with
  | @change n c e =>
    simp only [hearK]
    split
    · rename_i hck
      subst hck
      unfold HK.chg
      split
      · exact .none i
      · rename_i h1
        split
        · rename_i h2
          have hin : AsIn cs c.key ⟨n + 1, c.worth, lof (cs.take n) c.key⟩ := by
            refine ⟨n, rfl, ?_, rfl⟩
            rw [e]
            cases c
            cases h2.1
            rfl
          refine ⟨⟨⟨i.lo, i.hi, i.ok, fun a ha => ?_, putA_nd i.nd⟩, fun a ha => ?_⟩, Int.le_refl _, fun _ q => (nomatch q), List.Pairwise.nil⟩
          · rcases putA_mem ha with q | q
            · rw [q]
              exact hin
            · exact i.as a q
          · rcases putA_mem ha with q | q
            · rw [q]
              exact h2.2
            · exact i.ahead a q
        · rename_i h2
          have hn := (List.getElem?_eq_some_iff.mp e).1
          have hr : KR cs c.key (h.done (n + 1) c.set c.worth) := by
            refine ⟨?_, ?_, fun u hu => ?_, i.as, i.nd⟩
            · show (-1 : Int) ≤ ((n + 1 : Nat) : Int)
              omega
            · show ((n + 1 : Nat) : Int) ≤ cs.length
              omega
            · have hu : ((n + 1 : Nat) : Int) = u := hu
              have : n + 1 = u := by omega
              subst this
              obtain ⟨w1, w2⟩ := wof_at e
              refine ⟨?_, w2.symm⟩
              show (if c.set then c.worth else h.worth + c.worth) = _
              rw [w1]
              cases hs : c.set with
              | true => simp
              | false =>
                have hua : (lof (cs.take n) c.key : Int) ≤ h.upto := by
                  by_cases q : h.upto < (lof (cs.take n) c.key : Int)
                  · exact absurd ⟨hs, q⟩ h2
                  · omega
                obtain ⟨v, hv⟩ : ∃ v : Nat, h.upto = v := ⟨h.upto.toNat, by omega⟩
                obtain ⟨w3, _⟩ := wof_const (cs := cs) (k := c.key) (i := v) (j := n) (by omega) (by omega)
                rw [(i.ok v hv).1, w3]
                simp
          obtain ⟨q1, q2⟩ := free_told (u0 := ((n + 1 : Nat) : Int)) hr (by show (0 : Int) ≤ ((n + 1 : Nat) : Int); omega) (Int.le_refl _)
          refine ⟨q1.inv, by show h.upto ≤ (h.done (n + 1) c.set c.worth).free.1.upto; have := q1.up; omega, fun x hx => ?_, List.pairwise_cons.mpr ⟨fun x hx => (q1.num x hx).1, q1.rise⟩⟩
          rcases List.mem_cons.mp hx with hx | hx
          · subst hx
            exact ⟨by omega, q1.up, n, c, rfl, e, rfl⟩
          · obtain ⟨p1, p2, p3⟩ := q1.num x hx
            exact ⟨by omega, p2, p3⟩
    · exact .none i
  | @part n b e hn hbe hek =>
    show Told cs k h.upto (hearK k h (.part n b (partRows cs n b (e - b))))
    simp only [hearK]
    split
    · rename_i hbk
      cases er : (partRows cs n b (e - b))[k - b]? with
      | none => exact .none i
      | some r =>
        have hr : r = (wof (cs.take n) k, lof (cs.take n) k) := by
          have hlt := (List.getElem?_eq_some_iff.mp er).1
          rw [partRows, List.length_map, List.length_range] at hlt
          rw [partRows, List.getElem?_map, List.getElem?_range hlt] at er
          have := Option.some.inj er
          rw [← this]
          show (wof (cs.take n) (b + (k - b)), lof (cs.take n) (b + (k - b))) = _
          rw [show b + (k - b) = k by omega]
        subst hr
        show Told cs k h.upto (h.row n (wof (cs.take n) k) (lof (cs.take n) k))
        unfold HK.row
        split
        · rename_i h1
          have hr : KR cs k { h with worth := wof (cs.take n) k, since := lof (cs.take n) k, upto := n } := by
            refine ⟨by show (-1 : Int) ≤ (n : Int); omega, by show (n : Int) ≤ cs.length; omega, fun u hu => ?_, i.as, i.nd⟩
            have hu : (n : Int) = u := hu
            have : n = u := by omega
            subst this
            exact ⟨rfl, rfl⟩
          exact (free_told hr (by show (0 : Int) ≤ (n : Int); omega) (by show h.upto ≤ (n : Int); omega)).1
        · exact .none i
    · exact .none i
  | @beat n hn =>
    show Told cs k h.upto (hearK k h (.beat n ((List.range nk).map fun k => lof (cs.take n) k)))
    simp only [hearK]
    rw [List.getElem?_map, List.getElem?_range hk]
    show Told cs k h.upto (h.beat n (lof (cs.take n) k), [])
    unfold HK.beat
    split
    · rename_i h1
      obtain ⟨v, hv⟩ : ∃ v : Nat, h.upto = v := ⟨h.upto.toNat, by omega⟩
      obtain ⟨w3, w4⟩ := wof_const (cs := cs) (k := k) (i := v) (j := n) (by omega) (by omega)
      refine ⟨⟨⟨by show (-1 : Int) ≤ (n : Int); omega, by show (n : Int) ≤ cs.length; omega, fun u hu => ?_, i.as, i.nd⟩, fun a ha => ?_⟩, by show h.upto ≤ (n : Int); omega, fun _ q => (nomatch q), List.Pairwise.nil⟩
      · have hu : (n : Int) = u := hu
        have : n = u := by omega
        subst this
        rw [w3, w4]
        exact i.ok v hv
      · show (n : Int) < (a.ahead : Int)
        have h2 := i.ahead a ha
        rcases Nat.lt_or_ge n a.ahead with q | q
        · omega
        · exfalso
          obtain ⟨m, e1, e2, e3⟩ := i.as a ha
          -- the change ahead is one of the key's, at n at the latest
          have h3 : lof (cs.take a.ahead) k = a.ahead := by
            have : lof (cs.take m) k ≤ a.ahead := by omega
            have := wof_const (cs := cs) (k := k) (i := a.ahead) (j := m) (by have := lof_take_le cs m k; omega) this
            omega
          have h4 := lof_mono (cs := cs) (k := k) q
          omega
    · exact .none i
end Cu

namespace Cu
open PySem PySem.Spec PyProof.Rows L2
def wholeD (hs : List HK) : PyData := match wholeM hs with
  | none => .none
  | some (n, ws) => .tuple [.int n, ilst ws]
def standD (hs : List HK) : PyData := .list [.list (hs.map lookM), ilst (hs.map fun h => h.upto), ilst (heldM hs), wholeD hs]
theorem Gd.look {n : Nat} (h : HK) : Gd (n + 2) (lookM h) := by
  unfold lookM
  split
  · exact .none
  · exact .tuple (.all_cons .int (.all_cons .int (.all_cons .int .all_nil)))
theorem Gd.whole {n : Nat} (hs : List HK) : Gd (n + 3) (wholeD hs) := by
  unfold wholeD
  split
  · exact .none
  · exact .tuple (.all_cons .int (.all_cons (.ilst _) .all_nil))
theorem Gd.stand (hs : List HK) : Gd 5 (standD hs) := .list (.all_cons (.list fun d hd => by
  obtain ⟨h, _, rfl⟩ := List.mem_map.mp hd
  exact .look h) (.all_cons (.ilst _) (.all_cons (.ilst _) (.all_cons (.whole _) .all_nil))))
section
variable {K : PySem.W.Frag} {H : Hp} {C : Addr} {σ : L2.St} {Q : VK} {i : Nat} {A : HA} {hs : List HK} {c : Lg} {te : TE}
theorem rd_known (h1 : σ[i]? = some (some (.ref A.p))) (r : HR K C A hs H c) (hc : Has H c) (q : ∀ p H', Grow H H' → FzL K H' p ((hs.map fun h => h.upto).map V.int) → Q (.ref p) H') :
    tFz (tMeth C "known" (spKnown K C) [] E0 (tVar i) tNil) σ H Q :=
  rd_fz ⟨_, h1, A.p, _, _, rfl, r.at_p hc, hFno, rfl, A, hs, c, rfl, r, hc, fun _ _ t => ⟨_, _, rfl, t.own.head, fun _ => q _ _ (t.fz .nil) FzL.frz⟩⟩
theorem rd_held (h1 : σ[i]? = some (some (.ref A.p))) (r : HR K C A hs H c) (hc : Has H c) (hsz : (hs.map fun h => asN h.aside).flatten.length ≤ 1000) (q : ∀ p H', Grow H H' → FzL K H' p ((heldM hs).map V.int) → Q (.ref p) H') :
    tFz (tMeth C "held" (spHeld K C) [] E0 (tVar i) tNil) σ H Q :=
  rd_fz ⟨_, h1, A.p, _, _, rfl, r.at_p hc, hFno, rfl, A, hs, c, rfl, r, hc, hsz, fun _ _ t => ⟨_, _, rfl, t.own.head, fun _ => q _ _ (t.fz .nil) FzL.frz⟩⟩
theorem rd_whole (h1 : σ[i]? = some (some (.ref A.p))) (r : HR K C A hs H c) (hc : Has H c) (hn : 0 < hs.length) (q : ∀ v H', Grow H H' → Rp K H' (wholeD hs) v → Q v H') :
    tFzw (tMeth C "whole" (spWhole K C) [] E0 (tVar i) tNil) σ H Q := by
  refine rd_fzw ⟨_, h1, A.p, _, _, rfl, r.at_p hc, hFno, rfl, A, hs, c, rfl, r, hc, hn, fun hw => .inl (q _ _ (Grow.refl _) ?_), fun n ws hw p t H' t8 ht => .inr ⟨_, _, t8.own.head, fun o => q _ _ (t8.fz (ob := o) .nil) ?_⟩⟩
  · rw [wholeD, hw]
    exact .non
  · rw [wholeD, hw]
    exact .tup (t8.own.mono_put (o' := .frz o (.lst (ws.map V.int))) _ _ ht trivial) (.cons .int (.cons (.il FzL.frz) .nil))
theorem rd_look {k : Nat} {h : HK} {j : Nat} {z : Int} (h1 : σ[i]? = some (some (.ref A.p))) (r : HR K C A hs H c) (hc : Has H c) (h2 : σ[j]? = some (some (.int z))) (ez : z = k) (e : hs[k]? = some h) (q : ∀ v H', Grow H H' → Rp K H' (lookM h) v → Q v H') :
    tMeth C "look" (spLook K C) [] E0 (tVar i) (tCons (tVar j) tNil) σ H Q := by
  subst ez
  exact ⟨_, h1, A.p, _, _, rfl, r.at_p hc, hFno, _, h2, rfl, A, hs, c, k, h, rfl, r, hc, e, q⟩
theorem Rp.look_inv {h : HK} {v : V} (r : Rp K H (lookM h) v) (hu : 0 ≤ h.upto) : ∃ t, v = .ref t ∧ H t = some (.tup [.int h.worth, .int h.since, .int h.upto]) := by
  unfold lookM at r
  rw [if_neg (by omega)] at r
  obtain ⟨a, xs, e, f, r⟩ := r.tup_inv
  obtain ⟨v1, r1, e1, g1, r⟩ := r.cons_inv
  obtain ⟨v2, r2, e2, g2, r⟩ := r.cons_inv
  obtain ⟨v3, r3, e3, g3, r⟩ := r.cons_inv
  have := r.nil_inv
  subst this e3 e2 e1
  have g1 := Rp.int_iff.mp g1
  have g2 := Rp.int_iff.mp g2
  have g3 := Rp.int_iff.mp g3
  subst g1 g2 g3
  exact ⟨a, e, f⟩
theorem Rp.whole_inv {v : V} (r : Rp K H (wholeD hs) v) : (wholeM hs = none ∧ v = .non) ∨ ∃ n ws t p, wholeM hs = some (n, ws) ∧ v = .ref t ∧ H t = some (.tup [.int n, .ref p]) ∧ FzL K H p (ws.map V.int) := by
  unfold wholeD at r
  cases e : wholeM hs with
  | none =>
    rw [e] at r
    exact .inl ⟨rfl, Rp.none_iff.mp r⟩
  | some x =>
    obtain ⟨n, ws⟩ := x
    rw [e] at r
    obtain ⟨a, xs, e1, f, r⟩ := Rp.tup_inv r
    obtain ⟨v1, r1, e2, g1, r⟩ := r.cons_inv
    obtain ⟨v2, r2, e3, g2, r⟩ := r.cons_inv
    have := r.nil_inv
    subst this e3 e2
    have g1 := Rp.int_iff.mp g1
    obtain ⟨p, e4, f4⟩ := g2.il_inv
    subst g1 e4
    exact .inr ⟨n, ws, a, p, rfl, e1, f, f4⟩
end
end Cu

namespace Cu
open PySem PySem.Spec PyProof.Rows L2
/-! all keys of a hearer, by letters of one board -/
theorem IsN.key {cs : List Ch} {k k' : Nat} {n : Int} (h : IsN cs k n) (h' : IsN cs k' n) : k = k' := by
  obtain ⟨m, c, e1, e2, e3⟩ := h
  obtain ⟨m', c', e4, e5, e6⟩ := h'
  have : m = m' := by omega
  subst this
  rw [e2] at e5
  cases e5
  omega
theorem IsN.bd {cs : List Ch} {k : Nat} {n : Int} (h : IsN cs k n) : 0 < n ∧ n ≤ cs.length := by
  obtain ⟨m, c, e1, e2, _⟩ := h
  have := (List.getElem?_eq_some_iff.mp e2).1
  omega
theorem AsIn.isN {cs : List Ch} {k : Nat} {a : As} (h : AsIn cs k a) : IsN cs k a.n := by
  obtain ⟨m, e1, e2, _⟩ := h
  exact ⟨m, _, by omega, e2, rfl⟩
theorem rise_len : ∀ {l : List Int} {a b : Int}, l.Pairwise (· < ·) → (∀ n ∈ l, a < n ∧ n ≤ b) → (l.length : Int) ≤ if a ≤ b then b - a else 0
  | [], a, b, _, _ => by
    show (0 : Int) ≤ _
    split <;> omega
  | n :: l, a, b, h, q => by
    obtain ⟨h1, h2⟩ := List.pairwise_cons.mp h
    have q0 := q n List.mem_cons_self
    have ih := rise_len (a := n) (b := b) h2 fun m hm => ⟨h1 m hm, (q m (List.mem_cons_of_mem _ hm)).2⟩
    rw [if_pos (by omega)] at ih
    rw [if_pos (by omega), List.length_cons]
    omega
theorem nodup_len {l : List Int} {b : Nat} (nd : l.Nodup) (h : ∀ n ∈ l, 0 < n ∧ n ≤ b) : l.length ≤ b := by
  have h1 := rise_len (a := 0) (b := b) (srt_lt nd) fun n hn => h n ((srt_perm l).mem_iff.mp hn)
  rw [(srt_perm l).length_eq, if_pos (by omega)] at h1
  omega
theorem KI.few {cs : List Ch} {k : Nat} {h : HK} (i : KI cs k h) : h.aside.length ≤ cs.length := by
  have := nodup_len (b := cs.length) i.nd fun n hn => by
    obtain ⟨a, ha, e⟩ := List.mem_map.mp hn
    have := (i.as a ha).le
    omega
  rwa [asN, List.length_map] at this
theorem KI.wf {cs : List Ch} {k : Nat} {h : HK} (i : KI cs k h) (hl : cs.length < 122) : Wf h := ⟨i.nd, Nat.lt_of_le_of_lt i.few hl⟩
/-- a letter heard again -/
theorem putA_twice (as : List As) (a : As) : putA (putA as a) a = putA as a := by
  have hany : ((putA as a).any fun x => decide (x.n = a.n)) = true := by
    rw [List.any_eq_true]
    unfold putA
    split
    · rename_i h
      obtain ⟨x, hx, e⟩ := List.any_eq_true.mp h
      have e : x.n = a.n := of_decide_eq_true e
      exact ⟨a, List.mem_map.mpr ⟨x, hx, if_pos e⟩, by simp⟩
    · exact ⟨a, by simp, by simp⟩
  have e : putA (putA as a) a = (putA as a).map fun x => if x.n = a.n then a else x := by
    rw [putA, if_pos hany]
  rw [e]
  unfold putA
  split
  · rw [List.map_map]
    apply List.map_congr_left
    intro x _
    show (if (if x.n = a.n then a else x).n = a.n then a else (if x.n = a.n then a else x)) = if x.n = a.n then a else x
    by_cases h : x.n = a.n
    · rw [if_pos h, if_pos rfl]
    · rw [if_neg h, if_neg h]
  · rename_i h
    rw [List.map_append]
    have : as.map (fun x => if x.n = a.n then a else x) = as := by
      have : as.map (fun x => if x.n = a.n then a else x) = as.map id := by
        apply List.map_congr_left
        intro x hx
        rw [if_neg fun q => h (List.any_eq_true.mpr ⟨x, hx, by simpa using q⟩)]
        rfl
      rw [this, List.map_id]
    rw [this]
    simp
theorem fold_up {l : List Int} {st : HK × List Int} : st.1.upto ≤ (l.foldl HK.fstep st).1.upto := by
  induction l generalizing st with
  | nil => exact Int.le_refl _
  | cons n l ih =>
    rw [List.foldl_cons]
    refine Int.le_trans ?_ ih
    unfold HK.fstep
    cases h : findA st.1.aside n with
    | none => exact Int.le_refl _
    | some a =>
      dsimp only
      split
      · exact Int.le_refl _
      · split
        · have := findA_n h
          show st.1.upto ≤ (a.n : Int)
          omega
        · exact Int.le_refl _
theorem free_up (h : HK) : h.upto ≤ h.free.1.upto := fold_up (st := (h, []))
theorem hearK_twice (k : Nat) (h : HK) (l : Letter) : hearK k (hearK k h l).1 l = ((hearK k h l).1, []) := by
  cases l with
  | change n c ahead =>
    simp only [hearK]
    by_cases hk : c.key = k
    · simp only [if_pos hk]
      by_cases h1 : (n : Int) ≤ h.upto
      · have e : h.chg n c ahead = (h, []) := by rw [HK.chg, if_pos h1]
        rw [e]
        exact e
      · by_cases h2 : c.set = false ∧ h.upto < (ahead : Int)
        · have e : h.chg n c ahead = ({ h with aside := putA h.aside ⟨n, c.worth, ahead⟩ }, []) := by rw [HK.chg, if_neg h1, if_pos h2]
          rw [e]
          show HK.chg { h with aside := putA h.aside ⟨n, c.worth, ahead⟩ } n c ahead = _
          rw [HK.chg, if_neg h1, if_pos h2]
          simp only [putA_twice]
        · have e : h.chg n c ahead = (((h.done n c.set c.worth).free).1, (n : Int) :: ((h.done n c.set c.worth).free).2) := by rw [HK.chg, if_neg h1, if_neg h2]
          rw [e]
          have := free_up (h.done n c.set c.worth)
          have h3 : (n : Int) ≤ ((h.done n c.set c.worth).free).1.upto := this
          show HK.chg ((h.done n c.set c.worth).free).1 n c ahead = _
          rw [HK.chg, if_pos h3]
    · simp only [if_neg hk]
  | part n b rows =>
    simp only [hearK]
    by_cases hk : b ≤ k
    · simp only [if_pos hk]
      cases rows[k - b]? with
      | none => rfl
      | some r =>
        show HK.row (h.row n r.1 r.2).1 n r.1 r.2 = ((h.row n r.1 r.2).1, [])
        by_cases h1 : h.upto < (n : Int)
        · have e : h.row n r.1 r.2 = ({ h with worth := r.1, since := r.2, upto := n } : HK).free := by rw [HK.row, if_pos h1]
          rw [e]
          have h3 : (n : Int) ≤ (({ h with worth := r.1, since := r.2, upto := n } : HK).free).1.upto := free_up { h with worth := r.1, since := r.2, upto := n }
          rw [HK.row, if_neg (by omega)]
        · have e : h.row n r.1 r.2 = (h, []) := by rw [HK.row, if_neg h1]
          rw [e]
          exact e
    · simp only [if_neg hk]
  | beat n lasts =>
    simp only [hearK]
    cases lasts[k]? with
    | none => rfl
    | some x =>
      show ((h.beat n x).beat n x, ([] : List Int)) = (h.beat n x, [])
      congr 1
      unfold HK.beat
      by_cases h1 : (x : Int) ≤ h.upto ∧ h.upto < (n : Int)
      · rw [if_pos h1, if_neg fun q => absurd q.2 (Int.lt_irrefl _)]
      · rw [if_neg h1, if_neg h1]
theorem hear_get {hs : List HK} {l : Letter} {k : Nat} {h : HK} (e : hs[k]? = some h) : (hear hs l)[k]? = some (hearK k h l).1 := by
  rw [hear, List.getElem?_mapIdx, e]
  rfl
theorem hear_inv {hs : List HK} {l : Letter} {k : Nat} {h' : HK} (e : (hear hs l)[k]? = some h') : ∃ h, hs[k]? = some h ∧ h' = (hearK k h l).1 := by
  cases eh : hs[k]? with
  | none =>
    rw [hear, List.getElem?_mapIdx, eh] at e
    cases e
  | some h =>
    rw [hear_get eh] at e
    exact ⟨h, rfl, (Option.some.inj e).symm⟩
theorem heard_mem {hs : List HK} {l : Letter} {n : Int} (h : n ∈ heard hs l) : ∃ k g, hs[k]? = some g ∧ n ∈ (hearK k g l).2 := by
  obtain ⟨x, hx, hn⟩ := List.mem_flatten.mp h
  obtain ⟨k, hk⟩ := List.getElem?_of_mem hx
  rw [List.getElem?_mapIdx] at hk
  cases eh : hs[k]? with
  | none =>
    rw [eh] at hk
    cases hk
  | some g =>
    rw [eh] at hk
    have e : (hearK k g l).2 = x := Option.some.inj hk
    exact ⟨k, g, eh, by rw [e]; exact hn⟩
theorem hear_twice (hs : List HK) (l : Letter) : hear (hear hs l) l = hear hs l ∧ heard (hear hs l) l = [] := by
  constructor
  · apply List.ext_getElem?
    intro k
    cases eh : hs[k]? with
    | none => rw [List.getElem?_eq_none (by rw [hear_len, hear_len]; exact List.getElem?_eq_none_iff.mp eh), List.getElem?_eq_none (by rw [hear_len]; exact List.getElem?_eq_none_iff.mp eh)]
    | some h => rw [hear_get (hear_get eh), hear_get eh, hearK_twice]
  · refine List.eq_nil_iff_forall_not_mem.mpr fun n hn => ?_
    obtain ⟨k, g, e1, e2⟩ := heard_mem hn
    obtain ⟨h, e3, rfl⟩ := hear_inv e1
    rw [hearK_twice] at e2
    cases e2
/-- a hearer, all of whose keys are right -/
def AllI (nk : Nat) (cs : List Ch) (hs : List HK) : Prop := hs.length = nk ∧ ∀ k h, hs[k]? = some h → KI cs k h
theorem AllI.ini (nk : Nat) (cs : List Ch) : AllI nk cs (List.replicate nk HK.ini) := ⟨List.length_replicate, fun k h e => by
  rw [List.getElem?_replicate] at e
  split at e
  · cases e
    exact KI.ini cs k
  · cases e⟩
theorem AllI.told {nk : Nat} {cs : List Ch} {hs : List HK} {l : Letter} {k : Nat} {h : HK} (i : AllI nk cs hs) (hl : IsLet nk cs l) (e : hs[k]? = some h) : Told cs k h.upto (hearK k h l) :=
  hearK_told (i.2 k h e) (by have := (List.getElem?_eq_some_iff.mp e).1; have := i.1; omega) hl
theorem AllI.hear {nk : Nat} {cs : List Ch} {hs : List HK} {l : Letter} (i : AllI nk cs hs) (hl : IsLet nk cs l) : AllI nk cs (hear hs l) := ⟨by rw [hear_len]; exact i.1, fun k h e => by
  obtain ⟨g, eg, rfl⟩ := hear_inv e
  exact (i.told hl eg).inv⟩
theorem AllI.wf {nk : Nat} {cs : List Ch} {hs : List HK} (i : AllI nk cs hs) (hl : cs.length < 122) : ∀ h ∈ hs, Wf h := fun h hm => by
  obtain ⟨k, e⟩ := List.getElem?_of_mem hm
  exact (i.2 k h e).wf hl
theorem flat_le {α β : Type} {f : α → List β} {b : Nat} : ∀ {xs : List α}, (∀ x ∈ xs, (f x).length ≤ b) → ((xs.map f).flatten).length ≤ xs.length * b
  | [], _ => by simp
  | x :: xs, h => by
    have h1 := h x List.mem_cons_self
    have ih := flat_le (xs := xs) fun y hy => h y (List.mem_cons_of_mem _ hy)
    rw [List.map_cons, List.flatten_cons, List.length_append, List.length_cons, Nat.succ_mul]
    omega
theorem AllI.held {nk : Nat} {cs : List Ch} {hs : List HK} (i : AllI nk cs hs) (hl : cs.length ≤ 122) (hn : nk ≤ 8) : (hs.map fun h => asN h.aside).flatten.length ≤ 1000 := by
  have h1 := flat_le (f := fun h : HK => asN h.aside) (b := 122) (xs := hs) fun h hm => by
    obtain ⟨k, e⟩ := List.getElem?_of_mem hm
    have := (i.2 k h e).few
    rw [asN, List.length_map]
    omega
  have := i.1
  have h2 : hs.length * 122 ≤ 8 * 122 := Nat.mul_le_mul_right _ (by omega)
  omega
/-- the number's change is done -/
def Dn (cs : List Ch) (hs : List HK) (n : Int) : Prop := ∃ k h, hs[k]? = some h ∧ n ≤ h.upto ∧ IsN cs k n
section
variable {nk : Nat} {cs : List Ch} {hs : List HK} {l : Letter} {n : Int}
theorem Dn.hear (i : AllI nk cs hs) (hl : IsLet nk cs l) (h : Dn cs hs n) : Dn cs (hear hs l) n := by
  obtain ⟨k, g, e, h1, h2⟩ := h
  exact ⟨k, _, hear_get e, Int.le_trans h1 (i.told hl e).up, h2⟩
theorem heard_dn (i : AllI nk cs hs) (hl : IsLet nk cs l) (h : n ∈ heard hs l) : Dn cs (hear hs l) n ∧ ¬ Dn cs hs n := by
  obtain ⟨k, g, e1, e2⟩ := heard_mem h
  obtain ⟨q1, q2, q3⟩ := (i.told hl e1).num n e2
  refine ⟨⟨k, _, hear_get e1, q2, q3⟩, fun ⟨k', g', e3, q4, q5⟩ => ?_⟩
  have := q3.key q5
  subst this
  rw [e1] at e3
  cases e3
  omega
theorem flat_nodup : ∀ {xs : List (List Int)}, (∀ x ∈ xs, x.Nodup) → (∀ (i j : Nat) x y, xs[i]? = some x → xs[j]? = some y → i < j → ∀ n ∈ x, n ∉ y) → xs.flatten.Nodup
  | [], _, _ => by simp
  | x :: xs, h, q => by
    rw [List.flatten_cons]
    refine List.nodup_append.mpr ⟨h x List.mem_cons_self, flat_nodup (fun y hy => h y (List.mem_cons_of_mem _ hy)) fun i j y z ei ej hij => q (i + 1) (j + 1) y z (by simpa using ei) (by simpa using ej) (by omega), fun a ha b hb e => ?_⟩
    obtain ⟨y, hy, hby⟩ := List.mem_flatten.mp hb
    obtain ⟨j, hj⟩ := List.getElem?_of_mem hy
    subst e
    exact q 0 (j + 1) x y rfl (by simpa using hj) (by omega) a ha hby
theorem heard_nodup (i : AllI nk cs hs) (hl : IsLet nk cs l) : (heard hs l).Nodup := by
  have at_ : ∀ (j : Nat) (x : List Int), (hs.mapIdx fun k h => (hearK k h l).2)[j]? = some x → ∃ g, hs[j]? = some g ∧ x = (hearK j g l).2 := fun j x hx => by
    rw [List.getElem?_mapIdx] at hx
    cases eh : hs[j]? with
    | none =>
      rw [eh] at hx
      cases hx
    | some g =>
      rw [eh] at hx
      exact ⟨g, rfl, (Option.some.inj hx).symm⟩
  refine flat_nodup (fun x hx => ?_) fun a b x y ha hb hab m hm hm' => ?_
  · obtain ⟨j, hj⟩ := List.getElem?_of_mem hx
    obtain ⟨g, eg, rfl⟩ := at_ j x hj
    exact (i.told hl eg).rise.imp fun h => Int.ne_of_lt h
  · obtain ⟨g, eg, rfl⟩ := at_ a x ha
    obtain ⟨g', eg', rfl⟩ := at_ b y hb
    have := ((i.told hl eg).num m hm).2.2.key ((i.told hl eg').num m hm').2.2
    omega
theorem heard_bd (i : AllI nk cs hs) (hl : IsLet nk cs l) (h : n ∈ heard hs l) : 0 < n ∧ n ≤ cs.length := by
  obtain ⟨k, g, e1, e2⟩ := heard_mem h
  exact ((i.told hl e1).num n e2).2.2.bd
theorem heard_few (i : AllI nk cs hs) (hl : IsLet nk cs l) : (heard hs l).length ≤ cs.length := nodup_len (heard_nodup i hl) fun _ h => heard_bd i hl h
theorem held_not (i : AllI nk cs hs) (h : n ∈ heldM hs) : ¬ Dn cs hs n := by
  have h := (srt_perm _).mem_iff.mp h
  obtain ⟨x, hx, hn⟩ := List.mem_flatten.mp h
  obtain ⟨g, hg, rfl⟩ := List.mem_map.mp hx
  obtain ⟨k, ek⟩ := List.getElem?_of_mem hg
  obtain ⟨a, ha, rfl⟩ := List.mem_map.mp hn
  rintro ⟨k', g', e1, q1, q2⟩
  have hin := (i.2 k g ek).as a ha
  have := hin.isN.key q2
  subst this
  rw [ek] at e1
  cases e1
  have h1 := (i.2 k g ek).ahead a ha
  have h2 := hin.lt
  omega
theorem let_ok (hc : ∀ c ∈ cs, c.key < nk) (h : hs.length = nk) : IsLet nk cs l →
    match l with | .change _ ch _ => ch.key < hs.length | .part _ b rows => b + rows.length ≤ hs.length | .beat _ lasts => lasts.length = hs.length := by
  intro hl
  cases hl with
  | change e =>
    show _ < hs.length
    rw [h]
    exact hc _ (List.mem_of_getElem? e)
  | @part n b e hn hbe hek =>
    show b + (partRows cs n b (e - b)).length ≤ hs.length
    rw [partRows, List.length_map, List.length_range]
    omega
  | beat hn =>
    show ((List.range nk).map _).length = hs.length
    rw [List.length_map, List.length_range]
    omega
end
theorem set_srt {ns ms : List Int} (nd : ns.Nodup) (h1 : ms.Pairwise (· < ·)) (h2 : ∀ k : Int, k ∈ ms ↔ decide (k ∈ ns) = true) : ms = srt ns := by
  refine srt_eq ?_ (h1.imp fun h => Int.le_of_lt h)
  exact (List.perm_ext_iff_of_nodup (h1.imp fun h => Int.ne_of_lt h) nd).mpr fun a => by rw [h2 a, decide_eq_true_eq]
end Cu

namespace Cu
open PySem PySem.Spec PyProof.Rows L2
theorem mk_tr {H : Hp} {x dx C : Addr} (h1 : H x = none) (h2 : H dx = none) (n : dx ≠ x) : Tr H [] (upd (upd H dx (.own x)) x (.ins C dx [])) [(x, .ins C dx [])] :=
  ((Tr.refl H []).old h2).new (by rw [upd_ne n.symm]; exact h1) nins
theorem inV_ints (n : Int) (ns : List Int) : inV (.int n) (ns.map V.int) = decide (n ∈ ns) := by
  induction ns with
  | nil => rfl
  | cons m ns ih =>
    have e : inV (.int n) ((m :: ns).map V.int) = (eqV (.int m) (.int n) || inV (.int n) (ns.map V.int)) := rfl
    rw [e, ih]
    have e2 : eqV (.int m) (.int n) = decide (m = n) := by
      by_cases h : m = n <;> simp [eqV, h]
    rw [e2]
    by_cases h : m = n
    · simp [h]
    · simp [h, Ne.symm h]
theorem flat_ints (ns : List Int) : (ns.map V.int).all flatV = true := by
  rw [List.all_eq_true]
  intro x hx
  obtain ⟨n, _, rfl⟩ := List.mem_map.mp hx
  rfl
theorem int_get {ns : List Int} {i : Nat} {x : V} (h : (ns.map V.int)[i]? = some x) : ∃ n, ns[i]? = some n ∧ x = .int n := by
  rw [List.getElem?_map] at h
  cases e : ns[i]? with
  | none =>
    rw [e] at h
    cases h
  | some n =>
    rw [e] at h
    exact ⟨n, rfl, (Option.some.inj h).symm⟩
theorem Dp.ints' {K : PySem.W.Frag} {H : Hp} {a : Addr} {ns : List Int} (h : H a = some (.lst (ns.map V.int))) : Dp K H (.ref a) (ilst ns) := Dp.ints (SqL.of h)
theorem Dp.il {K : PySem.W.Frag} {H : Hp} {a : Addr} {ns : List Int} (h : SqL K H a (ns.map V.int)) : Dp K H (.ref a) (ilst ns) := Dp.ints h
def spLaw (K : PySem.W.Frag) : Sp := fun vs H Q _ => vs.length = 1 ∧ ∃ (c : Addr) (ns : List Int), vs = [.ref c] ∧ ns.length ≤ 63 ∧ FzL K H c (ns.map V.int) ∧ ∀ H', Q (.bl true) H'
end Cu

namespace Cu
open PySem PySem.Spec PyProof.Rows L2
/-! two hearers of a key, of which the one has heard more -/
def Closed (as : List As) (U : Int) : Prop := ∀ a ∈ as, (a.ahead : Int) ≤ U → (a.n : Int) ≤ U
theorem fstep_cases (st : HK × List Int) (n : Int) : HK.fstep st n = st ∨ (∃ a, findA st.1.aside n = some a ∧ n ≤ st.1.upto ∧ HK.fstep st n = ({ st.1 with aside := dropA st.1.aside n }, st.2)) ∨
    (∃ a, findA st.1.aside n = some a ∧ st.1.upto < n ∧ (a.ahead : Int) ≤ st.1.upto ∧ HK.fstep st n = (({ st.1 with aside := dropA st.1.aside n } : HK).done a.n false a.worth, st.2 ++ [n])) := by
  unfold HK.fstep
  cases h : findA st.1.aside n with
  | none => exact .inl rfl
  | some a =>
    dsimp only
    by_cases h1 : n ≤ st.1.upto
    · exact .inr (.inl ⟨a, rfl, h1, by rw [if_pos h1]⟩)
    · by_cases h2 : (a.ahead : Int) ≤ st.1.upto
      · exact .inr (.inr ⟨a, rfl, by omega, h2, by rw [if_neg h1, if_pos h2]⟩)
      · exact .inl (by rw [if_neg h1, if_neg h2])
theorem fold_le {U : Int} : ∀ {L : List Int} {st : HK × List Int}, st.1.upto ≤ U → Closed st.1.aside U → (L.foldl HK.fstep st).1.upto ≤ U
  | [], st, h, _ => h
  | n :: L, st, h, c => by
    rw [List.foldl_cons]
    rcases fstep_cases st n with e | ⟨a, ha, h1, e⟩ | ⟨a, ha, h1, h2, e⟩
    · rw [e]
      exact fold_le h c
    · rw [e]
      exact fold_le (st := ({ st.1 with aside := dropA st.1.aside n }, st.2)) h fun b hb => c b (dropA_mem.mp hb).1
    · rw [e]
      exact fold_le (st := (({ st.1 with aside := dropA st.1.aside n } : HK).done a.n false a.worth, st.2 ++ [n])) (c a (findA_mem ha) (Int.le_trans h2 h)) fun b hb => c b (dropA_mem.mp hb).1
theorem fold_keep : ∀ {L : List Int} {st : HK × List Int} {b : As}, b ∈ st.1.aside → b ∈ (L.foldl HK.fstep st).1.aside ∨ (b.n : Int) ≤ (L.foldl HK.fstep st).1.upto
  | [], _, _, h => .inl h
  | n :: L, st, b, h => by
    rw [List.foldl_cons]
    rcases fstep_cases st n with e | ⟨a, ha, h1, e⟩ | ⟨a, ha, h1, h2, e⟩
    · rw [e]
      exact fold_keep h
    · rw [e]
      by_cases hb : (b.n : Int) = n
      · exact .inr (Int.le_trans (by show (b.n : Int) ≤ st.1.upto; omega) fold_up)
      · exact fold_keep (st := ({ st.1 with aside := dropA st.1.aside n }, st.2)) (dropA_mem.mpr ⟨h, hb⟩)
    · rw [e]
      by_cases hb : (b.n : Int) = n
      · have := findA_n ha
        exact .inr (Int.le_trans (by show (b.n : Int) ≤ (a.n : Int); omega) fold_up)
      · exact fold_keep (st := (({ st.1 with aside := dropA st.1.aside n } : HK).done a.n false a.worth, st.2 ++ [n])) (dropA_mem.mpr ⟨h, hb⟩)
theorem fold_sub : ∀ {L : List Int} {st : HK × List Int} {b : As}, b ∈ (L.foldl HK.fstep st).1.aside → b ∈ st.1.aside
  | [], _, _, h => h
  | n :: L, st, b, h => by
    rw [List.foldl_cons] at h
    have h := fold_sub h
    rcases fstep_cases st n with e | ⟨a, ha, h1, e⟩ | ⟨a, ha, h1, h2, e⟩
    · rwa [e] at h
    · rw [e] at h
      exact (dropA_mem.mp h).1
    · rw [e] at h
      exact (dropA_mem.mp h).1
theorem putA_new (as : List As) (a : As) : a ∈ putA as a := by
  unfold putA
  split
  · rename_i h
    obtain ⟨x, hx, e⟩ := List.any_eq_true.mp h
    exact List.mem_map.mpr ⟨x, hx, if_pos (of_decide_eq_true e)⟩
  · simp
theorem putA_old {as : List As} {a b : As} (h : b ∈ as) : b ∈ putA as a ∨ b.n = a.n := by
  by_cases e : b.n = a.n
  · exact .inr e
  · left
    unfold putA
    split
    · exact List.mem_map.mpr ⟨b, h, if_neg e⟩
    · exact List.mem_append_left _ h
theorem AsIn.same {cs : List Ch} {k : Nat} {a b : As} (ha : AsIn cs k a) (hb : AsIn cs k b) (e : a.n = b.n) : a = b := by
  obtain ⟨m, e1, e2, e3⟩ := ha
  obtain ⟨m', e4, e5, e6⟩ := hb
  have : m = m' := by omega
  subst this
  rw [e2] at e5
  cases a
  cases b
  simp only at e e3 e6 e5
  cases e5
  simp_all
structure Rel (h1 h2 : HK) : Prop where
  up : h2.upto ≤ h1.upto
  as : ∀ a ∈ h2.aside, a ∈ h1.aside ∨ (a.n : Int) ≤ h1.upto
theorem Rel.refl (h : HK) : Rel h h := ⟨Int.le_refl _, fun _ h => .inl h⟩
section
variable {nk : Nat} {cs : List Ch} {k : Nat} {h h1 h2 : HK} {l : Letter}
theorem hearK_keep (i : KI cs k h) (hl : IsLet nk cs l) {b : As} (hb : b ∈ h.aside) : b ∈ (hearK k h l).1.aside ∨ (b.n : Int) ≤ (hearK k h l).1.upto := by
  cases hl with
  | @change n c e =>
    simp only [hearK]
    split
    · rename_i hck
      subst hck
      unfold HK.chg
      split
      · exact .inl hb
      · split
        · rename_i h1 h2
          rcases putA_old (a := ⟨n + 1, c.worth, lof (cs.take n) c.key⟩) hb with q | q
          · exact .inl q
          · have hin : AsIn cs c.key ⟨n + 1, c.worth, lof (cs.take n) c.key⟩ := by
              refine ⟨n, rfl, ?_, rfl⟩
              rw [e]
              cases c
              cases h2.1
              rfl
            rw [(i.as b hb).same hin q]
            exact .inl (putA_new _ _)
        · exact fold_keep (st := (h.done (n + 1) c.set c.worth, [])) hb
    · exact .inl hb
  | @part n b e hn hbe hek =>
    unfold partL
    simp only [hearK]
    split
    · split
      · unfold HK.row
        split
        · rename_i r _ _
          exact fold_keep (st := ({ h with worth := r.1, since := r.2, upto := n }, [])) hb
        · exact .inl hb
      · exact .inl hb
    · exact .inl hb
  | @beat n hn =>
    unfold beatL
    simp only [hearK]
    split
    · unfold HK.beat
      split
      · exact .inl hb
      · exact .inl hb
    · exact .inl hb
theorem Rel.lost (i : KI cs k h1) (hk : k < nk) (hl : IsLet nk cs l) (r : Rel h1 h2) : Rel (hearK k h1 l).1 h2 := by
  have up := (hearK_told i hk hl).up
  refine ⟨Int.le_trans r.up up, fun a ha => ?_⟩
  rcases r.as a ha with q | q
  · exact hearK_keep i hl q
  · exact .inr (Int.le_trans q up)
theorem Rel.closed (i : KI cs k h1) (hk : k < nk) (hl : IsLet nk cs l) (r : Rel h1 h2) : Closed h2.aside (hearK k h1 l).1.upto := fun a ha hah => by
  have t := hearK_told i hk hl
  rcases (r.lost i hk hl).as a ha with q | q
  · have := t.inv.ahead a q
    omega
  · exact q
theorem Rel.both (i1 : KI cs k h1) (i2 : KI cs k h2) (hk : k < nk) (hl : IsLet nk cs l) (r : Rel h1 h2) : Rel (hearK k h1 l).1 (hearK k h2 l).1 := by
  have rl := r.lost i1 hk hl
  have rc := r.closed i1 hk hl
  have t1 := hearK_told i1 hk hl
  cases hl with
  | @change n c e =>
    by_cases hck : c.key = k
    · by_cases q1 : ((n + 1 : Nat) : Int) ≤ h2.upto
      · have e2 : (hearK k h2 (.change (n + 1) c (lof (cs.take n) c.key))).1 = h2 := by
          simp only [hearK, if_pos hck, HK.chg, if_pos q1]
        rw [e2]
        exact rl
      · by_cases q2 : c.set = false ∧ h2.upto < (lof (cs.take n) c.key : Int)
        · have e2 : (hearK k h2 (.change (n + 1) c (lof (cs.take n) c.key))).1 = { h2 with aside := putA h2.aside ⟨n + 1, c.worth, lof (cs.take n) c.key⟩ } := by
            simp only [hearK, if_pos hck, HK.chg, if_neg q1, if_pos q2]
          rw [e2]
          refine ⟨rl.up, fun a ha => ?_⟩
          rcases putA_mem ha with q | q
          · subst q
            simp only [hearK, if_pos hck, HK.chg]
            split
            · exact .inr (by assumption)
            · split
              · exact .inl (putA_new _ _)
              · exact .inr (free_up (h1.done (n + 1) c.set c.worth))
          · exact rl.as a q
        · have e2 : (hearK k h2 (.change (n + 1) c (lof (cs.take n) c.key))).1 = ((h2.done (n + 1) c.set c.worth).free).1 := by
            simp only [hearK, if_pos hck, HK.chg, if_neg q1, if_neg q2]
          have hbase : ((n + 1 : Nat) : Int) ≤ (hearK k h1 (.change (n + 1) c (lof (cs.take n) c.key))).1.upto := by
            simp only [hearK, if_pos hck, HK.chg]
            split
            · assumption
            · split
              · rename_i q3 q4
                refine absurd ⟨q4.1, ?_⟩ q2
                have := r.up
                omega
              · exact free_up (h1.done (n + 1) c.set c.worth)
          rw [e2]
          exact ⟨fold_le (st := (h2.done (n + 1) c.set c.worth, [])) hbase rc, fun a ha => rl.as a (fold_sub (st := (h2.done (n + 1) c.set c.worth, [])) ha)⟩
    · have e2 : (hearK k h2 (.change (n + 1) c (lof (cs.take n) c.key))).1 = h2 := by
        simp only [hearK, if_neg hck]
      rw [e2]
      exact rl
  | @part n b e hn hbe hek =>
    unfold partL at rl rc t1 ⊢
    by_cases hbk : b ≤ k
    · cases er : (partRows cs n b (e - b))[k - b]? with
      | none =>
        have e2 : (hearK k h2 (.part n b (partRows cs n b (e - b)))).1 = h2 := by simp only [hearK, if_pos hbk, er]
        rw [e2]
        exact rl
      | some x =>
        by_cases q1 : h2.upto < (n : Int)
        · have e2 : (hearK k h2 (.part n b (partRows cs n b (e - b)))).1 = (({ h2 with worth := x.1, since := x.2, upto := n } : HK).free).1 := by simp only [hearK, if_pos hbk, er, HK.row, if_pos q1]
          have hbase : (n : Int) ≤ (hearK k h1 (.part n b (partRows cs n b (e - b)))).1.upto := by
            simp only [hearK, if_pos hbk, er, HK.row]
            split
            · exact free_up { h1 with worth := x.1, since := x.2, upto := n }
            · show (n : Int) ≤ h1.upto
              omega
          rw [e2]
          exact ⟨fold_le (st := ({ h2 with worth := x.1, since := x.2, upto := n }, [])) hbase rc, fun a ha => rl.as a (fold_sub (st := ({ h2 with worth := x.1, since := x.2, upto := n }, [])) ha)⟩
        · have e2 : (hearK k h2 (.part n b (partRows cs n b (e - b)))).1 = h2 := by simp only [hearK, if_pos hbk, er, HK.row, if_neg q1]
          rw [e2]
          exact rl
    · have e2 : (hearK k h2 (.part n b (partRows cs n b (e - b)))).1 = h2 := by simp only [hearK, if_neg hbk]
      rw [e2]
      exact rl
  | @beat n hn =>
    unfold beatL at rl rc t1 ⊢
    cases er : ((List.range nk).map fun k => lof (cs.take n) k)[k]? with
    | none =>
      have e2 : (hearK k h2 (.beat n ((List.range nk).map fun k => lof (cs.take n) k))).1 = h2 := by simp only [hearK, er]
      rw [e2]
      exact rl
    | some x =>
      have e2 : ∀ h : HK, (hearK k h (.beat n ((List.range nk).map fun k => lof (cs.take n) k))).1 = h.beat n x := fun h => by simp only [hearK, er]
      rw [e2, e2] at *
      by_cases q1 : (x : Int) ≤ h2.upto ∧ h2.upto < (n : Int)
      · have e3 : h2.beat n x = { h2 with upto := n } := by rw [HK.beat, if_pos q1]
        rw [e3]
        refine ⟨?_, rl.as⟩
        show (n : Int) ≤ (h1.beat n x).upto
        unfold HK.beat
        have := r.up
        split
        · exact Int.le_refl _
        · rename_i q2
          by_cases q3 : h1.upto < (n : Int)
          · exact absurd ⟨by omega, q3⟩ q2
          · show (n : Int) ≤ h1.upto
            omega
      · have e3 : h2.beat n x = h2 := by rw [HK.beat, if_neg q1]
        rw [e3]
        exact rl
/-- what is known up to the same number is the same -/
theorem look_same (i1 : KI cs k h1) (i2 : KI cs k h2) (e : h2.upto = h1.upto) : lookM h1 = lookM h2 := by
  unfold lookM
  rw [e]
  split
  · rfl
  · obtain ⟨u, hu⟩ : ∃ u : Nat, h1.upto = u := ⟨h1.upto.toNat, by omega⟩
    rw [(i1.ok u hu).1, (i1.ok u hu).2, (i2.ok u (e.trans hu)).1, (i2.ok u (e.trans hu)).2]
end
theorem min_le {hs : List HK} {m : Int} {k : Nat} {h : HK} (e : minU hs = m) (hk : hs[k]? = some h) : m ≤ h.upto := by
  unfold minU at e
  cases q : (hs.map fun h => h.upto).min? with
  | none =>
    rw [List.min?_eq_none_iff, List.map_eq_nil_iff] at q
    rw [q] at hk
    cases hk
  | some x =>
    rw [q] at e
    have e : x = m := e
    subst e
    exact (List.min?_eq_some_iff.mp q).2 _ (List.mem_map.mpr ⟨h, List.mem_of_getElem? hk, rfl⟩)
theorem le_max {hs : List HK} {k : Nat} {h : HK} (hk : hs[k]? = some h) : (h.since : Int) ≤ maxS hs := by
  unfold maxS
  cases q : (hs.map fun h => (h.since : Int)).max? with
  | none =>
    rw [List.max?_eq_none_iff, List.map_eq_nil_iff] at q
    rw [q] at hk
    cases hk
  | some x => exact (List.max?_eq_some_iff.mp q).2 _ (List.mem_map.mpr ⟨h, List.mem_of_getElem? hk, rfl⟩)
/-- whole is the board, at its number -/
theorem whole_row {nk : Nat} {cs : List Ch} {hs : List HK} {n : Int} {ws : List Int} (i : AllI nk cs hs) (hne : 0 < nk) (h : wholeM hs = some (n, ws)) : ∃ m : Nat, n = m ∧ m ≤ cs.length ∧ ws = wrow nk (cs.take m) := by
  unfold wholeM at h
  split at h
  · cases h
  · rename_i h1
    split at h
    · rename_i h2
      cases h
      obtain ⟨m, em⟩ : ∃ m : Nat, minU hs = m := ⟨(minU hs).toNat, by omega⟩
      have hm : m ≤ cs.length := by
        obtain ⟨g, eg⟩ : ∃ g, hs[0]? = some g := ⟨hs[0]'(by rw [i.1]; exact hne), List.getElem?_eq_getElem _⟩
        have := min_le em eg
        have := (i.2 0 g eg).hi
        omega
      refine ⟨m, em, hm, ?_⟩
      apply List.ext_getElem?
      intro k
      rw [List.getElem?_map]
      cases ek : hs[k]? with
      | none =>
        have := List.getElem?_eq_none_iff.mp ek
        rw [List.getElem?_eq_none (by rw [wrow_len]; have := i.1; omega)]
        rfl
      | some g =>
        have hk : k < nk := by
          have := (List.getElem?_eq_some_iff.mp ek).1
          have := i.1
          omega
        rw [wrow_get hk]
        have q1 := min_le em ek
        have q2 := le_max ek
        have ki := i.2 k g ek
        obtain ⟨u, hu⟩ : ∃ u : Nat, g.upto = u := ⟨g.upto.toNat, by omega⟩
        obtain ⟨w1, w2⟩ := ki.ok u hu
        have w3 := (wof_const (cs := cs) (k := k) (i := m) (j := u) (by omega) (by omega)).1
        show some g.worth = some (wof (cs.take m) k)
        rw [w1, w3]
    · cases h
end Cu

namespace Cu
open PySem PySem.Spec PyProof.Rows L2
/-! what has been heard of is known, or put aside -/
theorem fold_told : ∀ {L : List Int} {st : HK × List Int} {n : Int}, n ∈ (L.foldl HK.fstep st).2 → n ∈ st.2 ∨ n ∈ asN st.1.aside
  | [], _, _, h => .inl h
  | m :: L, st, n, h => by
    rw [List.foldl_cons] at h
    have h := fold_told h
    rcases fstep_cases st m with e | ⟨a, ha, h1, e⟩ | ⟨a, ha, h1, h2, e⟩
    · rwa [e] at h
    · rw [e] at h
      rcases h with h | h
      · exact .inl h
      · exact .inr ((asN_drop _ _).subset h)
    · rw [e] at h
      rcases h with h | h
      · rcases List.mem_append.mp h with h | h
        · exact .inl h
        · rw [List.mem_singleton] at h
          have := findA_n ha
          exact .inr (by rw [h, ← this]; exact asN_of (findA_mem ha))
      · exact .inr ((asN_drop _ _).subset h)
/-- a letter of changes behind n0 alone -/
def Fresh (n0 : Nat) : Letter → Prop
  | .change n _ _ => n0 < n
  | .part n _ _ => n0 ≤ n
  | .beat _ _ => True
def Lo (n0 : Nat) (h : HK) : Prop := ∀ a ∈ h.aside, n0 < a.n
theorem hearK_lo {n0 k : Nat} {h : HK} {l : Letter} (lo : Lo n0 h) (fr : Fresh n0 l) : Lo n0 (hearK k h l).1 ∧ ∀ n ∈ (hearK k h l).2, (n0 : Int) < n := by
  have fre : ∀ g : HK, g.aside = h.aside → Lo n0 g.free.1 ∧ ∀ n ∈ g.free.2, (n0 : Int) < n := fun g eg => by
    refine ⟨fun a ha => lo a (by rw [← eg]; exact fold_sub (st := (g, [])) ha), fun n hn => ?_⟩
    rcases fold_told (st := (g, [])) hn with q | q
    · cases q
    · obtain ⟨a, ha, e⟩ := List.mem_map.mp q
      have := lo a (by rw [← eg]; exact ha)
      omega
  have no : Lo n0 h ∧ ∀ n ∈ ([] : List Int), (n0 : Int) < n := ⟨lo, fun _ q => (nomatch q)⟩
  cases l with
  | change n c ahead =>
    simp only [hearK]
    split
    · unfold HK.chg
      split
      · exact no
      · split
        · refine ⟨fun a ha => ?_, fun _ q => (nomatch q)⟩
          rcases putA_mem ha with q | q
          · rw [q]
            exact fr
          · exact lo a q
        · obtain ⟨q1, q2⟩ := fre (h.done n c.set c.worth) rfl
          refine ⟨q1, fun m hm => ?_⟩
          rcases List.mem_cons.mp hm with q | q
          · have : n0 < n := fr
            omega
          · exact q2 m q
    · exact no
  | part n b rows =>
    simp only [hearK]
    split
    · split
      · unfold HK.row
        split
        · rename_i r _ _
          exact fre { h with worth := r.1, since := r.2, upto := n } rfl
        · exact no
      · exact no
    · exact no
  | beat n lasts =>
    simp only [hearK]
    split
    · unfold HK.beat
      split
      · exact no
      · exact no
    · exact no
def Got (k : Nat) (l : Letter) (h : HK) : Prop := match l with
  | .change n c _ => c.key = k → (n : Int) ≤ h.upto ∨ (c.set = false ∧ (n : Int) ∈ asN h.aside)
  | .part n b rows => b ≤ k → k < b + rows.length → (n : Int) ≤ h.upto
  | .beat _ _ => True
theorem got_self (k : Nat) (h : HK) (l : Letter) : Got k l (hearK k h l).1 := by
  cases l with
  | change n c ahead =>
    intro hk
    simp only [hearK, if_pos hk]
    unfold HK.chg
    split
    · exact .inl (by assumption)
    · split
      · rename_i q
        exact .inr ⟨q.1, asN_of (putA_new h.aside ⟨n, c.worth, ahead⟩)⟩
      · exact .inl (free_up (h.done n c.set c.worth))
  | part n b rows =>
    intro h1 h2
    simp only [hearK, if_pos h1]
    obtain ⟨r, er⟩ : ∃ r, rows[k - b]? = some r := ⟨rows[k - b], List.getElem?_eq_getElem (by omega)⟩
    rw [er]
    show (n : Int) ≤ (h.row n r.1 r.2).1.upto
    unfold HK.row
    split
    · exact free_up { h with worth := r.1, since := r.2, upto := n }
    · show (n : Int) ≤ h.upto
      omega
  | beat n lasts => trivial
theorem got_keep {nk : Nat} {cs : List Ch} {k : Nat} {h : HK} {l l' : Letter} (i : KI cs k h) (hk : k < nk) (hl : IsLet nk cs l') (g : Got k l h) : Got k l (hearK k h l').1 := by
  have up := (hearK_told i hk hl).up
  cases l with
  | change n c ahead =>
    intro q
    rcases g q with g | ⟨gs, g⟩
    · exact .inl (Int.le_trans g up)
    · obtain ⟨a, ha, e⟩ := List.mem_map.mp g
      rcases hearK_keep i hl ha with z | z
      · exact .inr ⟨gs, by rw [← e]; exact asN_of z⟩
      · exact .inl (by rw [← e]; exact z)
  | part n b rows => exact fun q1 q2 => Int.le_trans (g q1 q2) up
  | beat n lasts => trivial
theorem lof_is (cs : List Ch) (k : Nat) : lof cs k = 0 ∨ ∃ j c, cs[j]? = some c ∧ c.key = k ∧ lof cs k = j + 1 := by
  induction cs using snoc_ind with
  | h0 => exact .inl rfl
  | h1 cs c ih =>
    rw [lof_snoc]
    by_cases h : c.key = k
    · rw [if_pos h]
      exact .inr ⟨cs.length, c, by simp, h, rfl⟩
    · rw [if_neg h]
      rcases ih with q | ⟨j, d, q1, q2, q3⟩
      · exact .inl q
      · exact .inr ⟨j, d, by rw [List.getElem?_append_left (List.getElem?_eq_some_iff.mp q1).1]; exact q1, q2, q3⟩
theorem take_get {cs : List Ch} {m j : Nat} {c : Ch} (h : (cs.take m)[j]? = some c) : cs[j]? = some c ∧ j < m := by
  have hj : j < m := by
    have := (List.getElem?_eq_some_iff.mp h).1
    rw [List.length_take] at this
    omega
  rw [List.getElem?_take_of_lt hj] at h
  exact ⟨h, hj⟩
/-- all changes behind n0 have been heard of, and n0 is known: nothing is put aside, all is known -/
theorem got_end {cs : List Ch} {k n0 : Nat} {h : HK} (i : KI cs k h) (h0 : (n0 : Int) ≤ h.upto) (g : ∀ m c, cs[m]? = some c → c.key = k → n0 < m + 1 → ((m + 1 : Nat) : Int) ≤ h.upto ∨ ((m + 1 : Nat) : Int) ∈ asN h.aside) :
    h.aside = [] ∧ (lof cs k : Int) ≤ h.upto := by
  have ind : ∀ N, ∀ a ∈ h.aside, a.n ≤ N → False := fun N => by
    induction N with
    | zero =>
      intro a ha hn
      have := (i.as a ha).le
      omega
    | succ N ih =>
      intro a ha hn
      have q1 := i.ahead a ha
      obtain ⟨m, e1, e2, e3⟩ := i.as a ha
      rcases lof_is (cs.take m) k with q | ⟨j, c, e4, e5, e6⟩
      · omega
      · obtain ⟨e7, e8⟩ := take_get e4
        rcases g j c e7 e5 (by omega) with z | z
        · omega
        · obtain ⟨b, hb, eb⟩ := List.mem_map.mp z
          exact ih b hb (by omega)
  have e : h.aside = [] := by
    cases ha : h.aside with
    | nil => rfl
    | cons a as => exact (ind a.n a (by rw [ha]; exact List.mem_cons_self) (Nat.le_refl _)).elim
  refine ⟨e, ?_⟩
  rcases lof_is cs k with q | ⟨j, c, e4, e5, e6⟩
  · omega
  · by_cases hj : n0 < j + 1
    · rcases g j c e4 e5 hj with z | z
      · omega
      · rw [e] at z
        cases z
    · omega
theorem full_look {cs : List Ch} {k : Nat} {h : HK} (i : KI cs k h) (hl : (lof cs k : Int) ≤ h.upto) : h.worth = wof cs k ∧ h.since = lof cs k := by
  obtain ⟨u, hu⟩ : ∃ u : Nat, h.upto = u := ⟨h.upto.toNat, by omega⟩
  have hi := i.hi
  obtain ⟨w1, w2⟩ := i.ok u hu
  have := wof_const (cs := cs) (k := k) (i := u) (j := cs.length) (by omega) (by rw [List.take_length]; omega)
  rw [List.take_length] at this
  exact ⟨w1.trans this.1.symm, w2.trans this.2.symm⟩
/-- behind a beat all keys are known up to it -/
theorem beat_whole {nk : Nat} {cs : List Ch} {hs : List HK} (i : AllI nk cs hs) (hne : 0 < nk) (hl : ∀ (k : Nat) (h : HK), hs[k]? = some h → (lof cs k : Int) ≤ h.upto) :
    wholeM (hear hs (beatL nk cs cs.length)) = some ((cs.length : Int), wrow nk cs) ∧ ∀ (k : Nat) (h : HK), (hear hs (beatL nk cs cs.length))[k]? = some h → h.upto = cs.length := by
  have il : IsLet nk cs (beatL nk cs cs.length) := .beat (Nat.le_refl _)
  have i' := i.hear il
  have hup : ∀ (k : Nat) (h : HK), (hear hs (beatL nk cs cs.length))[k]? = some h → h.upto = cs.length := fun k h e => by
    obtain ⟨g, eg, rfl⟩ := hear_inv e
    have hk : k < nk := by
      have := (List.getElem?_eq_some_iff.mp eg).1
      have := i.1
      omega
    have hi := (i.2 k g eg).hi
    have := hl k g eg
    unfold beatL
    simp only [hearK]
    rw [List.getElem?_map, List.getElem?_range hk]
    show (g.beat cs.length (lof (cs.take cs.length) k)).upto = _
    rw [List.take_length]
    unfold HK.beat
    split
    · rfl
    · rename_i q
      by_cases z : g.upto < (cs.length : Int)
      · exact absurd ⟨this, z⟩ q
      · show g.upto = _
        omega
  refine ⟨?_, hup⟩
  have hlen := i'.1
  obtain ⟨g0, e0⟩ : ∃ g, (hear hs (beatL nk cs cs.length))[0]? = some g := ⟨(hear hs (beatL nk cs cs.length))[0]'(by omega), List.getElem?_eq_getElem _⟩
  have em : minU (hear hs (beatL nk cs cs.length)) = cs.length := by
    unfold minU
    rw [List.min?_eq_some_iff.mpr ⟨List.mem_map.mpr ⟨g0, List.mem_of_getElem? e0, hup 0 g0 e0⟩, fun b hb => ?_⟩]
    · rfl
    · obtain ⟨g, hg, rfl⟩ := List.mem_map.mp hb
      obtain ⟨k, ek⟩ := List.getElem?_of_mem hg
      rw [hup k g ek]
      exact Int.le_refl _
  have es : maxS (hear hs (beatL nk cs cs.length)) ≤ cs.length := by
    unfold maxS
    cases q : ((hear hs (beatL nk cs cs.length)).map fun h => (h.since : Int)).max? with
    | none => show (0 : Int) ≤ _; omega
    | some x =>
      obtain ⟨g, hg, e⟩ := List.mem_map.mp (List.max?_eq_some_iff.mp q).1
      obtain ⟨k, ek⟩ := List.getElem?_of_mem hg
      have := ((i'.2 k g ek).ok cs.length (hup k g ek)).2
      have := lof_take_le cs cs.length k
      show x ≤ _
      omega
  unfold wholeM
  rw [em, if_neg (by omega), if_pos (by omega)]
  congr 2
  apply List.ext_getElem?
  intro k
  rw [List.getElem?_map]
  cases ek : (hear hs (beatL nk cs cs.length))[k]? with
  | none =>
    have := List.getElem?_eq_none_iff.mp ek
    rw [List.getElem?_eq_none (by rw [wrow_len]; omega)]
    rfl
  | some g =>
    have hk : k < nk := by
      have := (List.getElem?_eq_some_iff.mp ek).1
      omega
    rw [wrow_get hk]
    show some g.worth = some (wof cs k)
    rw [((i'.2 k g ek).ok cs.length (hup k g ek)).1, List.take_length]
/-! a story that goes on -/
theorem IsLet.on {nk : Nat} {cs ds : List Ch} {l : Letter} (h : IsLet nk cs l) : IsLet nk (cs ++ ds) l := by
  have tk : ∀ {n : Nat}, n ≤ cs.length → (cs ++ ds).take n = cs.take n := fun hn => List.take_append_of_le_length hn
  cases h with
  | @change n c e =>
    have hn := (List.getElem?_eq_some_iff.mp e).1
    rw [← tk (Nat.le_of_lt hn)]
    exact .change (by rw [List.getElem?_append_left hn]; exact e)
  | @part n b e hn hbe hek =>
    have : partL cs n b e = partL (cs ++ ds) n b e := by
      unfold partL partRows
      rw [tk hn]
    rw [this]
    exact .part (by rw [List.length_append]; omega) hbe hek
  | @beat n hn =>
    have : beatL nk cs n = beatL nk (cs ++ ds) n := by
      unfold beatL
      rw [tk hn]
    rw [this]
    exact .beat (by rw [List.length_append]; omega)
theorem partL_on {cs ds : List Ch} {n b e : Nat} (hn : n ≤ cs.length) : partL (cs ++ ds) n b e = partL cs n b e := by
  unfold partL partRows
  rw [List.take_append_of_le_length hn]
theorem few_from {cs : List Ch} {k n0 : Nat} {h : HK} (i : KI cs k h) (lo : Lo n0 h) (hn : n0 ≤ cs.length) : h.aside.length + n0 ≤ cs.length := by
  have h1 := rise_len (a := n0) (b := cs.length) (srt_lt i.nd) fun n hn => by
    obtain ⟨a, ha, e⟩ := List.mem_map.mp ((srt_perm _).mem_iff.mp hn)
    have := lo a ha
    have := (i.as a ha).le
    omega
  rw [(srt_perm _).length_eq, asN, List.length_map, if_pos (by omega)] at h1
  omega
theorem nodup_from {l : List Int} {a b : Nat} (nd : l.Nodup) (h : ∀ n ∈ l, (a : Int) < n ∧ n ≤ b) (hab : a ≤ b) : l.length + a ≤ b := by
  have h1 := rise_len (a := a) (b := b) (srt_lt nd) fun n hn => h n ((srt_perm l).mem_iff.mp hn)
  rw [(srt_perm l).length_eq, if_pos (by omega)] at h1
  omega
end Cu

namespace Cu
open PySem PySem.Spec PyProof.Rows L2
/-! a board: where it lies -/
structure BA where
  p : Addr
  dx : Addr
  l1 : Addr
  l2 : Addr
  l3 : Addr
def bF (B : BA) (keep many : Int) : List (Str × V) := [("now", .ref B.l1), ("keep", .int keep), ("rows", .ref B.l2), ("many", .int many), ("last", .ref B.l3)]
/-- the letters that a board keeps -/
def tailL (keep : Nat) (cs : List Ch) : List Letter := (lets cs).drop (cs.length - keep)
structure BR (K : PySem.W.Frag) (C : Addr) (B : BA) (nk keep : Nat) (cs : List Ch) (H : Hp) (c : Lg) : Prop where
  ex : ∃ xs, c = [(B.p, HO.ins C B.dx (bF B keep cs.length)), (B.l1, HO.lst ((wrow nk cs).map V.int)), (B.l2, HO.lst xs), (B.l3, HO.lst ((lrow nk cs).map V.int))] ∧ RpL K H ((tailL keep cs).map Letter.enc) xs
section
variable {K : PySem.W.Frag} {C : Addr} {B : BA} {nk keep : Nat} {cs : List Ch} {H H' : Hp} {c : Lg}
theorem BR.mono (r : BR K C B nk keep cs H c) (m : Mono H H') : BR K C B nk keep cs H' c :=
  let ⟨xs, e, q⟩ := r.ex
  ⟨xs, e, q.mono m⟩
theorem BR.at_p (r : BR K C B nk keep cs H c) (h : Has H c) : H B.p = some (.ins C B.dx (bF B keep cs.length)) := by
  obtain ⟨xs, rfl, _⟩ := r.ex
  exact h.head
theorem BR.at1 (r : BR K C B nk keep cs H c) (h : Has H c) : H B.l1 = some (.lst ((wrow nk cs).map V.int)) := by
  obtain ⟨xs, rfl, _⟩ := r.ex
  exact h.tail.head
theorem BR.at3 (r : BR K C B nk keep cs H c) (h : Has H c) : H B.l3 = some (.lst ((lrow nk cs).map V.int)) := by
  obtain ⟨xs, rfl, _⟩ := r.ex
  exact h.tail.tail.tail.head
theorem BR.at2 (r : BR K C B nk keep cs H c) (h : Has H c) : ∃ xs, H B.l2 = some (.lst xs) ∧ RpL K H ((tailL keep cs).map Letter.enc) xs := by
  obtain ⟨xs, rfl, q⟩ := r.ex
  exact ⟨xs, h.tail.tail.head, q⟩
end
/-- what a class of boards is -/
structure CBo (K : PySem.W.Frag) (C : Addr) : Prop where
  cl : Cls K C
  n1 : NoAttr K C "now"
  n2 : NoAttr K C "keep"
  n3 : NoAttr K C "rows"
  n4 : NoAttr K C "many"
  n5 : NoAttr K C "last"
theorem bF1 (B : BA) (a b : Int) : (bF B a b).lookup ("now" : Str) = some (.ref B.l1) := by rfl
theorem bF2 (B : BA) (a b : Int) : (bF B a b).lookup ("keep" : Str) = some (.int a) := by rfl
theorem bF3 (B : BA) (a b : Int) : (bF B a b).lookup ("rows" : Str) = some (.ref B.l2) := by rfl
theorem bF4 (B : BA) (a b : Int) : (bF B a b).lookup ("many" : Str) = some (.int b) := by rfl
theorem bF5 (B : BA) (a b : Int) : (bF B a b).lookup ("last" : Str) = some (.ref B.l3) := by rfl
theorem tailL_len (keep : Nat) (cs : List Ch) : (tailL keep cs).length = min cs.length keep := by
  unfold tailL
  rw [List.length_drop, lets_length]
  omega
theorem tailL_snoc (keep : Nat) (cs : List Ch) (ch : Ch) : tailL keep (cs ++ [ch]) = if cs.length + 1 ≤ keep then tailL keep cs ++ [Letter.change (cs.length + 1) ch (lof cs ch.key)] else (tailL keep cs ++ [Letter.change (cs.length + 1) ch (lof cs ch.key)]).drop 1 := by
  unfold tailL
  rw [lets_snoc, List.length_append]
  show List.drop (cs.length + 1 - keep) _ = _
  split
  · rw [show cs.length + 1 - keep = 0 by omega, show cs.length - keep = 0 by omega]
    rfl
  · rw [List.drop_append, List.drop_append, List.drop_drop, List.length_drop, lets_length]
    rw [show cs.length - keep + 1 = cs.length + 1 - keep by omega, show cs.length + 1 - keep - cs.length = 1 - (cs.length - (cs.length - keep)) by omega]
theorem wdS (b : Bool) : decide (V.str (wd b) = V.str "set") = b := by cases b <;> decide +kernel
/-! promises -/
def spBinit (K : PySem.W.Frag) (C : Addr) : Sp := fun vs H Q _ => vs.length = 3 ∧ ∃ (p dx : Addr) (nk keep : Nat), vs = [.ref p, .int nk, .int keep] ∧ 0 < nk ∧ nk ≤ 8 ∧ keep ≤ 20 ∧ H p = some (.ins C dx []) ∧
  ∀ (B : BA) (c : Lg) (H' : Hp), B.p = p → BR K C B nk keep [] H' c → Tr H [(p, .ins C dx [])] H' c → Q .non H'
def spBnumber (K : PySem.W.Frag) (C : Addr) : Sp := fun vs H Q _ => vs.length = 1 ∧ ∃ (B : BA) (nk keep : Nat) (cs : List Ch) (c : Lg), vs = [.ref B.p] ∧ BR K C B nk keep cs H c ∧ Has H c ∧ Q (.int cs.length) H
def spBworths (K : PySem.W.Frag) (C : Addr) : Sp := fun vs H Q _ => vs.length = 1 ∧ ∃ (B : BA) (nk keep : Nat) (cs : List Ch) (c : Lg), vs = [.ref B.p] ∧ BR K C B nk keep cs H c ∧ Has H c ∧ ∀ (r : Addr) (H' : Hp), Tr H [] H' [(r, .lst ((wrow nk cs).map V.int))] → Q (.ref r) H'
def spBlasts (K : PySem.W.Frag) (C : Addr) : Sp := fun vs H Q _ => vs.length = 1 ∧ ∃ (B : BA) (nk keep : Nat) (cs : List Ch) (c : Lg), vs = [.ref B.p] ∧ BR K C B nk keep cs H c ∧ Has H c ∧ ∀ (r : Addr) (H' : Hp), Tr H [] H' [(r, .lst ((lrow nk cs).map V.int))] → Q (.ref r) H'
def spBtail (K : PySem.W.Frag) (C : Addr) : Sp := fun vs H Q _ => vs.length = 1 ∧ ∃ (B : BA) (nk keep : Nat) (cs : List Ch) (c : Lg), vs = [.ref B.p] ∧ BR K C B nk keep cs H c ∧ Has H c ∧
  ∀ (r : Addr) (xs : List V) (H' : Hp), Tr H [] H' [(r, .lst xs)] → RpL K H' ((tailL keep cs).map Letter.enc) xs → Q (.ref r) H'
def spBchange (K : PySem.W.Frag) (C : Addr) : Sp := fun vs H Q _ => vs.length = 4 ∧ ∃ (B : BA) (nk keep : Nat) (cs : List Ch) (c : Lg) (ch : Ch), vs = [.ref B.p, .int ch.key, .str (wd ch.set), .int ch.worth] ∧ BR K C B nk keep cs H c ∧ Has H c ∧ ch.key < nk ∧ nk ≤ 8 ∧ keep ≤ 20 ∧
  ∀ (v : V) (c' : Lg) (H' : Hp), BR K C B nk keep (cs ++ [ch]) H' c' → Tr H c H' c' → Rp K H' (Letter.change (cs.length + 1) ch (lof cs ch.key)).enc v → Q v H'
def spBpart (K : PySem.W.Frag) (C : Addr) : Sp := fun vs H Q _ => vs.length = 3 ∧ ∃ (B : BA) (nk keep : Nat) (cs : List Ch) (c : Lg) (b e : Nat), vs = [.ref B.p, .int b, .int e] ∧ BR K C B nk keep cs H c ∧ Has H c ∧ b < e ∧ e ≤ nk ∧ nk ≤ 8 ∧
  ∀ (v : V) (H' : Hp), Grow H H' → Rp K H' (partL cs cs.length b e).enc v → Q v H'
def spBbeat (K : PySem.W.Frag) (C : Addr) : Sp := fun vs H Q _ => vs.length = 1 ∧ ∃ (B : BA) (nk keep : Nat) (cs : List Ch) (c : Lg), vs = [.ref B.p] ∧ BR K C B nk keep cs H c ∧ Has H c ∧
  ∀ (v : V) (H' : Hp), Grow H H' → Rp K H' (beatL nk cs cs.length).enc v → Q v H'
abbrev s_Board_init : Stmt := (inClass (top 16) 0)
theorem sc_Board_init : FnScope ["self", "keys", "keep", "key"] ["self", "keys", "keep"] (defScope s_Board_init) := ⟨rfl, rfl, rfl, by decide +kernel, rfl, by decide +kernel, by decide +kernel⟩

abbrev s_Board_number : Stmt := (inClass (top 16) 2)
theorem sc_Board_number : FnScope ["self"] ["self"] (defScope s_Board_number) := ⟨rfl, rfl, rfl, by decide +kernel, rfl, by decide +kernel, by decide +kernel⟩

abbrev s_Board_worths : Stmt := (inClass (top 16) 3)
theorem sc_Board_worths : FnScope ["self"] ["self"] (defScope s_Board_worths) := ⟨rfl, rfl, rfl, by decide +kernel, rfl, by decide +kernel, by decide +kernel⟩

abbrev s_Board_lasts : Stmt := (inClass (top 16) 4)
theorem sc_Board_lasts : FnScope ["self"] ["self"] (defScope s_Board_lasts) := ⟨rfl, rfl, rfl, by decide +kernel, rfl, by decide +kernel, by decide +kernel⟩

abbrev s_Board_tail : Stmt := (inClass (top 16) 5)
theorem sc_Board_tail : FnScope ["self"] ["self"] (defScope s_Board_tail) := ⟨rfl, rfl, rfl, by decide +kernel, rfl, by decide +kernel, by decide +kernel⟩

abbrev s_Board_change : Stmt := (inClass (top 16) 6)
theorem sc_Board_change : FnScope ["self", "key", "word", "worth", "letter"] ["self", "key", "word", "worth"] (defScope s_Board_change) := ⟨rfl, rfl, rfl, by decide +kernel, rfl, by decide +kernel, by decide +kernel⟩

abbrev s_Board_part : Stmt := (inClass (top 16) 7)
theorem sc_Board_part : FnScope ["self", "begin", "end", "rows", "key"] ["self", "begin", "end"] (defScope s_Board_part) := ⟨rfl, rfl, rfl, by decide +kernel, rfl, by decide +kernel, by decide +kernel⟩

abbrev s_Board_beat : Stmt := (inClass (top 16) 8)
theorem sc_Board_beat : FnScope ["self"] ["self"] (defScope s_Board_beat) := ⟨rfl, rfl, rfl, by decide +kernel, rfl, by decide +kernel, by decide +kernel⟩

end Cu

namespace Cu
open PySem PySem.Spec PyProof.Rows L2
section
variable {P : Program} {w : World} {K : PySem.W.Frag} {mg : Str → Option Value} {base : Heap} {C : Addr}
theorem ok_Binit {tk tk2 : Tok} (F : Kd K mg "Board" C "Board.__init__" s_Board_init) (Bm : Blt mg) (CBoard : CBo K C) (km_MOST_KEYS : mg "MOST_KEYS" = some (.int 8 tk)) (km_MOST_TAIL : mg "MOST_TAIL" = some (.int 20 tk2)) : Kf P w K mg base 1 "Board" C ["self", "keys", "keep"] (spBinit K C) := by
  refine F.ok sc_Board_init (fun _ _ _ _ _ _ us hl => match us, hl with | [_, _, _], _ => rfl) len_of fun qual f cdv A0 outer s H vs Q E hr h => ?_
  obtain ⟨_, p, dx, nk, keep, rfl, hk, hk8, hkp, hp, go⟩ := h
  refine ⟨_, (pss_cons (ps_if (PW.pt (pw_or (pt_not (pt_chain op_le op_le pe_int (pv 1) (pe_glob (v := .int 8) rfl km_MOST_KEYS ⟨_, rfl⟩))) (pw_or1 (pt_not (pt_chain op_le op_le pe_int (pv 2) (pe_glob (v := .int 20) rfl km_MOST_TAIL ⟨_, rfl⟩))))))
        (pss_one ps_never)
        pss_nil)
      (pss_cons (ps_fld (pv 0) (pe_I (pe_lc (own := [("key", 3)]) (g := (gName 3)) (tt := tYes) rfl sc_Board_init.nd (pi_range1 rfl Bm.range (pa_cons (pv 1) pa_nil)) (blkOk_by (N := ["self", "keys", "keep", "key"]) (sc := defScope s_Board_init) (by decide +kernel)) (fun _ _ _ _ _ => (pg_name (i := 3) sc_Board_init.nd rfl (Or.inl rfl))) (fun _ _ _ _ _ => pts_nil) (fun _ _ _ _ _ => pe_int))) rfl)
      (pss_cons (ps_fld (pv 0) (pv 2) rfl)
      (pss_cons (ps_fld (pv 0) (pe_lst pa_nil) rfl)
      (pss_cons (ps_fld (pv 0) pe_int rfl)
      (pss_one (ps_fld (pv 0) (pe_I (pe_lc (own := [("key", 3)]) (g := (gName 3)) (tt := tYes) rfl sc_Board_init.nd (pi_range1 rfl Bm.range (pa_cons (pv 1) pa_nil)) (blkOk_by (N := ["self", "keys", "keep", "key"]) (sc := defScope s_Board_init) (by decide +kernel)) (fun _ _ _ _ _ => (pg_name (i := 3) sc_Board_init.nd rfl (Or.inl rfl))) (fun _ _ _ _ _ => pts_nil) (fun _ _ _ _ _ => pe_int))) rfl))))))), ?_⟩
  have h0 := Has.one hp nins
  refine ⟨_, rfl, _, _, rfl, rfl, _, rfl, iteP (decide_eq_true (by omega)) ⟨_, _, rfl, rfl, _, rfl, iteM (by simp; omega) ?_⟩⟩
  refine ⟨_, rfl, _, _, rfl, rfl, _, rfl, iteP (decide_eq_true (by omega)) ⟨_, _, rfl, rfl, _, rfl, iteM (by simp; omega) ?_⟩⟩
  refine rd_const (v := .int 0) (by rfl) hk8 (fun _ => rfl) (fun _ _ _ q => q) fun p1 H1 t1 => ?_
  have s1 := (show Tr H [(p, .ins C dx [])] H1 [(p1, .lst (List.replicate nk (.int 0))), (p, .ins C dx [])] from t1.right (D := [(p, .ins C dx [])])).swap2
  refine ⟨_, rfl, p, C, dx, [], rfl, (s1.now h0).head, CBoard.cl, CBoard.n1, (by show 0 < 1000; decide), ?_⟩
  have s2 := s1.put (o' := .ins C dx [("now", .ref p1)]) h0 nins
  refine ⟨_, rfl, _, rfl, p, C, dx, [("now", .ref p1)], rfl, (s2.now h0).head, CBoard.cl, CBoard.n2, (by show 1 < 1000; decide), ?_⟩
  have s3 := s2.put (o' := .ins C dx [("now", .ref p1), ("keep", .int keep)]) h0 nins
  refine ⟨(by show 0 ≤ sizeLine; decide), fun p2 hp2 => ?_⟩
  have s4 := (s3.new (o := .lst []) hp2 nl).swap2
  refine ⟨_, rfl, p, C, dx, [("now", .ref p1), ("keep", .int keep)], rfl, (s4.now h0).head, CBoard.cl, CBoard.n3, (by show 2 < 1000; decide), ?_⟩
  have s5 := s4.put (o' := .ins C dx [("now", .ref p1), ("keep", .int keep), ("rows", .ref p2)]) h0 nins
  refine ⟨_, rfl, p, C, dx, [("now", .ref p1), ("keep", .int keep), ("rows", .ref p2)], rfl, (s5.now h0).head, CBoard.cl, CBoard.n4, (by show 3 < 1000; decide), ?_⟩
  have s6 := s5.put (o' := .ins C dx [("now", .ref p1), ("keep", .int keep), ("rows", .ref p2), ("many", .int 0)]) h0 nins
  refine rd_const (v := .int 0) (by rfl) hk8 (fun _ => rfl) (fun _ _ _ q => q) fun p3 H3 t3 => ?_
  have s7 := (s6.trans (t3.right (D := [(p, .ins C dx [("now", .ref p1), ("keep", .int keep), ("rows", .ref p2), ("many", .int 0)]), (p2, .lst []), (p1, .lst (List.replicate nk (.int 0)))]))).swap2
  refine ⟨_, rfl, p, C, dx, [("now", .ref p1), ("keep", .int keep), ("rows", .ref p2), ("many", .int 0)], rfl, (s7.now h0).head, CBoard.cl, CBoard.n5, (by show 4 < 1000; decide), ?_⟩
  have s8 := s7.put (o' := .ins C dx [("now", .ref p1), ("keep", .int keep), ("rows", .ref p2), ("many", .int 0), ("last", .ref p3)]) h0 nins
  have e0 : ∀ n : Nat, (List.replicate n (0 : Int)).map V.int = List.replicate n (V.int 0) := fun n => List.map_replicate
  refine go ⟨p, dx, p1, p2, p3⟩ _ _ rfl ⟨[], ?_, by unfold tailL; rw [lets_nil, List.drop_nil]; exact .nil⟩ (s8.perm (List.Perm.cons _ (List.reverse_perm [(p1, HO.lst (List.replicate nk (V.int 0))), (p2, HO.lst []), (p3, HO.lst (List.replicate nk (V.int 0)))])))
  rw [wrow_nil, lrow_nil, e0]
  rfl
end
end Cu

namespace Cu
open PySem PySem.Spec PyProof.Rows L2
section
variable {P : Program} {w : World} {K : PySem.W.Frag} {mg : Str → Option Value} {base : Heap} {C : Addr}
theorem ok_Bnumber (F : Md K C "number" "Board.number" s_Board_number) (Bm : Blt mg) (CBoard : CBo K C) : Mf P w K mg base 1 C "number" ["self"] (spBnumber K C) := by
  refine F.ok sc_Board_number (fun _ _ _ _ _ _ us hl => match us, hl with | [_], _ => rfl) len_of fun qual f cdv A0 outer s H vs Q E hr h => ?_
  obtain ⟨_, B, nk, keep, cs, c, rfl, r, hc, go⟩ := h
  refine ⟨_, (pss_one (ps_ret (pe_fld (pv 0) rfl))), ?_⟩
  exact ⟨_, rfl, _, C, _, _, _, rfl, r.at_p hc, CBoard.cl, CBoard.n4, bF4 B _ _, go⟩
end
end Cu

namespace Cu
open PySem PySem.Spec PyProof.Rows L2
section
variable {P : Program} {w : World} {K : PySem.W.Frag} {mg : Str → Option Value} {base : Heap} {C : Addr}
theorem ok_Bworths (F : Md K C "worths" "Board.worths" s_Board_worths) (Bm : Blt mg) (CBoard : CBo K C) : Mf P w K mg base 1 C "worths" ["self"] (spBworths K C) := by
  refine F.ok sc_Board_worths (fun _ _ _ _ _ _ us hl => match us, hl with | [_], _ => rfl) len_of fun qual f cdv A0 outer s H vs Q E hr h => ?_
  obtain ⟨_, B, nk, keep, cs, c, rfl, r, hc, go⟩ := h
  refine ⟨_, (pss_one (ps_ret (pe_callTy call_list_of rfl Bm.list (by decide +kernel) (pa_cons (pe_fld (pv 0) rfl) pa_nil)))), ?_⟩
  exact ⟨_, rfl, _, C, _, _, _, rfl, r.at_p hc, CBoard.cl, CBoard.n1, bF1 B _ _, _, _, rfl, .inl (SqL.of (r.at1 hc)), fun l hl => go l _ ((Tr.refl H []).new hl nl)⟩
end
end Cu

namespace Cu
open PySem PySem.Spec PyProof.Rows L2
section
variable {P : Program} {w : World} {K : PySem.W.Frag} {mg : Str → Option Value} {base : Heap} {C : Addr}
theorem ok_Blasts (F : Md K C "lasts" "Board.lasts" s_Board_lasts) (Bm : Blt mg) (CBoard : CBo K C) : Mf P w K mg base 1 C "lasts" ["self"] (spBlasts K C) := by
  refine F.ok sc_Board_lasts (fun _ _ _ _ _ _ us hl => match us, hl with | [_], _ => rfl) len_of fun qual f cdv A0 outer s H vs Q E hr h => ?_
  obtain ⟨_, B, nk, keep, cs, c, rfl, r, hc, go⟩ := h
  refine ⟨_, (pss_one (ps_ret (pe_callTy call_list_of rfl Bm.list (by decide +kernel) (pa_cons (pe_fld (pv 0) rfl) pa_nil)))), ?_⟩
  exact ⟨_, rfl, _, C, _, _, _, rfl, r.at_p hc, CBoard.cl, CBoard.n5, bF5 B _ _, _, _, rfl, .inl (SqL.of (r.at3 hc)), fun l hl => go l _ ((Tr.refl H []).new hl nl)⟩
end
end Cu

namespace Cu
open PySem PySem.Spec PyProof.Rows L2
section
variable {P : Program} {w : World} {K : PySem.W.Frag} {mg : Str → Option Value} {base : Heap} {C : Addr}
theorem ok_Btail (F : Md K C "tail" "Board.tail" s_Board_tail) (Bm : Blt mg) (CBoard : CBo K C) : Mf P w K mg base 1 C "tail" ["self"] (spBtail K C) := by
  refine F.ok sc_Board_tail (fun _ _ _ _ _ _ us hl => match us, hl with | [_], _ => rfl) len_of fun qual f cdv A0 outer s H vs Q E hr h => ?_
  obtain ⟨_, B, nk, keep, cs, c, rfl, r, hc, go⟩ := h
  refine ⟨_, (pss_one (ps_ret (pe_callTy call_list_of rfl Bm.list (by decide +kernel) (pa_cons (pe_fld (pv 0) rfl) pa_nil)))), ?_⟩
  obtain ⟨xs, e2, q2⟩ := r.at2 hc
  exact ⟨_, rfl, _, C, _, _, _, rfl, r.at_p hc, CBoard.cl, CBoard.n3, bF3 B _ _, _, _, rfl, .inl (SqL.of e2), fun l hl => go l xs _ ((Tr.refl H []).new hl nl) (q2.mono (Mono.new hl))⟩
end
end Cu

namespace Cu
open PySem PySem.Spec PyProof.Rows L2
section
variable {P : Program} {w : World} {K : PySem.W.Frag} {mg : Str → Option Value} {base : Heap} {C : Addr}
theorem ok_Bbeat (F : Md K C "beat" "Board.beat" s_Board_beat) (Bm : Blt mg) (CBoard : CBo K C) : Mf P w K mg base 1 C "beat" ["self"] (spBbeat K C) := by
  refine F.ok sc_Board_beat (fun _ _ _ _ _ _ us hl => match us, hl with | [_], _ => rfl) len_of fun qual f cdv A0 outer s H vs Q E hr h => ?_
  obtain ⟨_, B, nk, keep, cs, c, rfl, r, hc, go⟩ := h
  refine ⟨_, (pss_one (ps_ret (pe_tup (pa_cons pe_str (pa_cons (pe_fld (pv 0) rfl) (pa_cons (pe_callTy call_tuple_of rfl Bm.tuple (by decide +kernel) (pa_cons (pe_fld (pv 0) rfl) pa_nil)) pa_nil)))))), ?_⟩
  refine ⟨_, rfl, _, C, _, _, _, rfl, r.at_p hc, CBoard.cl, CBoard.n4, bF4 B _ _, _, rfl, _, C, _, _, _, rfl, r.at_p hc, CBoard.cl, CBoard.n5, bF5 B _ _, B.l3, _, rfl, .inl ⟨SqL.of (r.at3 hc), fun l hl => ⟨(by show 3 ≤ sizeLine; decide), fun t ht => ?_⟩⟩⟩
  refine go _ _ (((Grow.refl H).old hl).old ht) (.tup upd_same (.cons .str (.cons .int (.cons (.tup ((Mono.new ht) _ _ upd_same trivial) ?_) .nil))))
  have : ((List.range nk).map fun k => lof (cs.take cs.length) k).map (fun k : Nat => PyData.int k) = (lrow nk cs).map PyData.int := by
    rw [lrow, List.map_map, List.map_map, List.take_length]
    rfl
  rw [this]
  exact RpL.of_ints _
end
end Cu

namespace Cu
open PySem PySem.Spec PyProof.Rows L2
section
variable {P : Program} {w : World} {K : PySem.W.Frag} {mg : Str → Option Value} {base : Heap} {C : Addr}
theorem ok_Bpart (F : Md K C "part" "Board.part" s_Board_part) (Bm : Blt mg) (CBoard : CBo K C) : Mf P w K mg base 1 C "part" ["self", "begin", "end"] (spBpart K C) := by
  refine F.ok sc_Board_part (fun _ _ _ _ _ _ us hl => match us, hl with | [_, _, _], _ => rfl) len_of fun qual f cdv A0 outer s H vs Q E hr h => ?_
  obtain ⟨_, B, nk, keep, cs, c, b, e, rfl, r, hc, hbe, hek, hk8, go⟩ := h
  refine ⟨_, (pss_cons (ps_if (pt_not (pt_chain3 op_le op_lt op_le pe_int (pv 1) (pv 2) (pe_callB call_len_seq rfl Bm.len (by decide +kernel) (pa_cons (pe_fld (pv 0) rfl) pa_nil))))
        (pss_one ps_never)
        pss_nil)
      (pss_cons (ps_setLc (i := 3) (own := [("key", 4)]) (g := (gName 4)) (tt := tYes) rfl sc_Board_part.nd rfl rfl (sw_true rfl rfl rfl (by decide +kernel)) (pi_range2 rfl Bm.range (pa_cons (pv 1) (pa_cons (pv 2) pa_nil))) (blkOk_by (N := ["self", "begin", "end", "rows", "key"]) (sc := defScope s_Board_part) (by decide +kernel)) (fun _ _ _ _ _ => (pg_name (i := 4) sc_Board_part.nd rfl (Or.inl rfl))) (fun _ _ _ _ _ => pts_nil) (fun _ _ _ _ _ => (pe_tup (pa_cons (pe_ix (ix_listK K rfl) (pe_fldK K rfl (pv 0) rfl) (pv 4) (fun _ _ => rfl)) (pa_cons (pe_ix (ix_listK K rfl) (pe_fldK K rfl (pv 0) rfl) (pv 4) (fun _ _ => rfl)) pa_nil)))))
      (pss_one (ps_ret (pe_tup (pa_cons pe_str (pa_cons (pe_fld (pv 0) rfl) (pa_cons (pv 1) (pa_cons (pe_callTy call_tuple_of rfl Bm.tuple (by decide +kernel) (pa_cons (pv 3) pa_nil)) pa_nil))))))))), ?_⟩
  refine ⟨_, rfl, _, _, rfl, rfl, _, rfl, iteP (decide_eq_true (by omega)) ⟨_, rfl, _, _, rfl, rfl, _, rfl, iteP (decide_eq_true (by omega)) ⟨_, rfl, _, C, _, _, _, rfl, r.at_p hc, CBoard.cl, CBoard.n1, bF1 B _ _, _, _, rfl, .inl (SqL.of (r.at1 hc)), _, _, rfl, rfl, _, rfl, iteM (by rw [List.length_map, wrow_len]; simp; omega) ?_⟩⟩⟩
  have up : ∀ {H2 : Hp} {O : Lg}, Tr H [] H2 O → Has H2 c ∧ BR K C B nk keep cs H2 c := fun t => ⟨(t.has c hc).right, r.mono t.mono⟩
  refine ⟨_, rfl, _, rfl, _, _, rfl, ⟨by omega, by omega, by omega, by omega⟩, fun D hD => ?_⟩
  refine lc_range (lo := b) (n := ((e : Int) - b).toNat) (fun i H2 => ∃ xs, Tr H [] H2 [(D, .lst xs)] ∧ RpL K H2 ((partRows cs cs.length b i).map fun r => .tuple [.int r.1, .int r.2]) xs)
    ⟨[], (Tr.refl H []).new hD nl, .nil⟩ ?_ ?_
  · rintro i H2 hi ⟨xs, t2, rx⟩
    have hbi : b + i < nk := by omega
    have e1 : ((b : Int) + i) = ((b + i : Nat) : Int) := by omega
    have u := up t2
    refine ⟨rfl, ?_⟩
    refine ⟨_, rfl, _, C, _, _, _, rfl, u.2.at_p u.1, CBoard.cl, CBoard.n1, bF1 B _ _, _, rfl, _, _, _, _, rfl, rfl, SqL.of (u.2.at1 u.1), at_of (j := b + i) e1 (by rw [List.getElem?_map, wrow_get hbi]; rfl),
      _, rfl, _, C, _, _, _, rfl, u.2.at_p u.1, CBoard.cl, CBoard.n5, bF5 B _ _, _, rfl, _, _, _, _, rfl, rfl, SqL.of (u.2.at3 u.1), at_of (j := b + i) e1 (by rw [List.getElem?_map, lrow_get hbi]; rfl), ⟨(by show 2 ≤ sizeLine; decide), fun t ht => ?_⟩⟩
    obtain ⟨s3, r3⟩ := snoc_tup (K := K) (ds := [.int (wof cs (b + i)), .int (lof cs (b + i))]) t2.own ht (.cons .int (.cons .int .nil))
    have hx : xs.length = i := by rw [rx.length, List.length_map, partRows, List.length_map, List.length_range]
    refine ⟨xs, by rw [upd_ne (ne_of_none t2.own.head ht)]; exact t2.own.head, by rw [hx]; exact small1000 (by omega), xs ++ [.ref t], t2.trans s3, ?_⟩
    unfold partRows at rx ⊢
    rw [List.take_length] at rx ⊢
    rw [List.range_succ, List.map_append, List.map_append]
    exact (rx.mono s3.mono).snoc r3
  · rintro H2 ⟨xs, t2, rx⟩
    have e2 : ((e : Int) - b).toNat = e - b := by omega
    rw [e2] at rx
    have u := up t2
    refine ⟨_, rfl, _, C, _, _, _, rfl, u.2.at_p u.1, CBoard.cl, CBoard.n4, bF4 B _ _, _, rfl, _, rfl, D, xs, rfl, .inl ⟨SqL.of t2.own.head, fun l hl => ⟨(by show 4 ≤ sizeLine; decide), fun t ht => ?_⟩⟩⟩
    have g := ((t2.old (o := .tup xs) hl).old (o := .tup [.str "part", .int cs.length, .int b, .ref l]) ht).tail
    refine go _ _ g (.tup upd_same (.cons .str (.cons .int (.cons .int (.cons (.tup ((Mono.new ht) _ _ upd_same trivial) (rx.mono ((Mono.new hl).trans (Mono.new ht)))) .nil)))))
end
end Cu

namespace Cu
open PySem PySem.Spec PyProof.Rows L2
section
variable {P : Program} {w : World} {K : PySem.W.Frag} {mg : Str → Option Value} {base : Heap} {C : Addr}
theorem ok_Bchange (F : Md K C "change" "Board.change" s_Board_change) (Bm : Blt mg) (CBoard : CBo K C) : Mf P w K mg base 1 C "change" ["self", "key", "word", "worth"] (spBchange K C) := by
  refine F.ok sc_Board_change (fun _ _ _ _ _ _ us hl => match us, hl with | [_, _, _, _], _ => rfl) len_of fun qual f cdv A0 outer s H vs Q E hr h => ?_
  obtain ⟨_, B, nk, keep, cs, c, ch, rfl, r, hc, hk, hk8, hkp, go⟩ := h
  refine ⟨_, (pss_cons (ps_if (pt_not (pt_chain op_le op_lt pe_int (pv 1) (pe_callB call_len_seq rfl Bm.len (by decide +kernel) (pa_cons (pe_fld (pv 0) rfl) pa_nil))))
        (pss_one ps_never)
        pss_nil)
      (pss_cons (ps_if (pt_cmpR op_notIn_seq (pv 2) (pe_tup (pa_cons pe_str (pa_cons pe_str pa_nil))) (by rfl))
        (pss_one ps_never)
        pss_nil)
      (pss_cons (ps_fld (pv 0) (pe_op op_add (pe_fld (pv 0) rfl) pe_int) rfl)
      (pss_cons (ps_set (i := 4) sc_Board_change.nd rfl (Or.inl rfl) (pe_tup (pa_cons pe_str (pa_cons (pe_fld (pv 0) rfl) (pa_cons (pv 1) (pa_cons (pv 2) (pa_cons (pv 3) (pa_cons (pe_ix ix_list (pe_fld (pv 0) rfl) (pv 1) (fun _ _ => rfl)) pa_nil))))))))
      (pss_cons (ps_mid (ps_asg (pe_ifExp (pt_cmpR op_eq (pv 2) pe_str (nomark _)) (pv 3) (pe_op op_add (pe_ix ix_list (pe_fld (pv 0) rfl) (pv 1) (fun _ _ => rfl)) (pv 3))) (pg_sub (pe_fld (pv 0) rfl) (pv 1) set_list)))
      (pss_cons (ps_asg (pe_fld (pv 0) rfl) (pg_sub (pe_fld (pv 0) rfl) (pv 1) set_list))
      (pss_cons (ps_expr (pe_bm PySem.F.plainAttrs_list PySem.F.slot_list_append PySem.F.type_list_append mt_append (pe_fld (pv 0) rfl) (pa_cons (pv 4) pa_nil)))
      (pss_cons (ps_mid (ps_if (pt_cmpR op_gt (pe_callB call_len_seq rfl Bm.len (by decide +kernel) (pa_cons (pe_fld (pv 0) rfl) pa_nil)) (pe_fld (pv 0) rfl) (nomark _))
        (pss_one (ps_expr (pe_bm PySem.F.plainAttrs_list PySem.F.slot_list_pop PySem.F.type_list_pop mt_popAt (pe_fld (pv 0) rfl) (pa_cons pe_int pa_nil))))
        pss_nil))
      (pss_one (ps_ret (pv 4))))))))))), ?_⟩
  refine ⟨_, rfl, _, _, rfl, rfl, _, rfl, iteP (decide_eq_true (by omega)) ⟨_, rfl, _, C, _, _, _, rfl, r.at_p hc, CBoard.cl, CBoard.n1, bF1 B _ _, _, _, rfl, .inl (SqL.of (r.at1 hc)), _, _, rfl, rfl, _, rfl, iteM (by rw [List.length_map, wrow_len]; simp; omega) ?_⟩⟩
  refine ⟨_, rfl, ⟨(by show 2 ≤ sizeLine; decide), fun t1 ht1 => ⟨t1, _, rfl, .inr (SqT.of upd_same), rfl, rfl, _, rfl, iteM (by cases ch.set <;> decide +kernel) ?_⟩⟩⟩
  obtain ⟨xs, ec, rxs⟩ := r.ex
  subst ec
  have u0 := (Tr.refl H [(B.p, HO.ins C B.dx (bF B keep cs.length)), (B.l1, HO.lst ((wrow nk cs).map V.int)), (B.l2, HO.lst xs), (B.l3, HO.lst ((lrow nk cs).map V.int))]).old (o := .tup [V.str "set", .str "add"]) ht1
  have h0 := u0.now hc
  have n1 : ((cs.length : Int) + 1) = ((cs.length + 1 : Nat) : Int) := by omega
  refine ⟨_, rfl, _, C, _, _, _, rfl, h0.head, CBoard.cl, CBoard.n4, bF4 B _ _, _, _, rfl, rfl, _, rfl, B.p, C, B.dx, _, rfl, h0.head, CBoard.cl, CBoard.n4, (by show 5 < 1000; decide), ?_⟩
  have u1 := u0.put (o' := .ins C B.dx (bF B keep ((cs.length : Int) + 1))) hc nins
  have h1 := u1.now hc
  have gl : (lrow nk cs)[ch.key]? = some (lof cs ch.key : Int) := lrow_get hk
  have gw : (wrow nk cs)[ch.key]? = some (wof cs ch.key) := wrow_get hk
  -- letter
  refine ⟨_, rfl, _, C, _, _, _, rfl, h1.head, CBoard.cl, CBoard.n4, bF4 B _ _, _, rfl, _, rfl, _, rfl, _, rfl, _, C, _, _, _, rfl, h1.head, CBoard.cl, CBoard.n5, bF5 B _ _, _, rfl, _, _, _, _, rfl, rfl, SqL.of h1.tail.tail.tail.head, at_of (j := ch.key) rfl (by rw [List.getElem?_map, gl]; rfl), ⟨(by show 6 ≤ sizeLine; decide), fun tl htl => ?_⟩⟩
  have u2 := u1.old (o := .tup [V.str "change", .int ((cs.length : Int) + 1), .int ch.key, .str (wd ch.set), .int ch.worth, .int (lof cs ch.key)]) htl
  have h2 := u2.now hc
  have htl2 : (upd (upd (upd H t1 (.tup [V.str "set", .str "add"])) B.p (.ins C B.dx (bF B keep ((cs.length : Int) + 1)))) tl (.tup [V.str "change", .int ((cs.length : Int) + 1), .int ch.key, .str (wd ch.set), .int ch.worth, .int (lof cs ch.key)])) tl = some (HO.tup [V.str "change", .int ((cs.length : Int) + 1), .int ch.key, .str (wd ch.set), .int ch.worth, .int (lof cs ch.key)]) := upd_same
  -- self.now[key] = ..
  have ix1 : ∀ (g : List Int), g.length = nk → ixN (g.map V.int).length (ch.key : Int) = some ch.key := fun g e => ixN_nat (by rw [List.length_map, e]; exact hk)
  have ew : (wrow nk (cs ++ [ch])).map V.int = ((wrow nk cs).map V.int).set ch.key (.int (wst ch.key (wof cs ch.key) ch)) := by rw [wrow_snoc, List.map_set]
  have el : (lrow nk (cs ++ [ch])).map V.int = ((lrow nk cs).map V.int).set ch.key (.int ((cs.length + 1 : Nat) : Int)) := by rw [lrow_snoc, List.map_set]
  refine rd_mid (fun σ' H' => σ' = [some (.ref B.p), some (.int ch.key), some (.str (wd ch.set)), some (.int ch.worth), some (.ref tl)] ∧ H' = upd (upd (upd (upd H t1 (.tup [V.str "set", .str "add"])) B.p (.ins C B.dx (bF B keep ((cs.length : Int) + 1)))) tl (.tup [V.str "change", .int ((cs.length : Int) + 1), .int ch.key, .str (wd ch.set), .int ch.worth, .int (lof cs ch.key)])) B.l1 (.lst ((wrow nk (cs ++ [ch])).map V.int))) ?_ ?_
  · refine ⟨_, rfl, rfl, _, rfl, ite2 (fun hs => ?_) fun hs => ?_⟩
    · rw [wdS] at hs
      refine ⟨_, rfl, _, rfl, _, C, _, _, _, rfl, h2.head, CBoard.cl, CBoard.n1, bF1 B _ _, _, rfl, _, _, _, _, rfl, rfl, h2.tail.head, ix1 _ (wrow_len nk cs), rfl, ?_⟩
      exact congrArg (fun z => upd _ _ (HO.lst z)) (by rw [ew, wst, if_pos rfl, if_pos hs, Int.zero_add])
    · rw [wdS] at hs
      refine ⟨_, rfl, _, C, _, _, _, rfl, h2.head, CBoard.cl, CBoard.n1, bF1 B _ _, _, rfl, _, _, _, _, rfl, rfl, SqL.of h2.tail.head, at_of (j := ch.key) rfl (by rw [List.getElem?_map, gw]; rfl), _, rfl, _, _, rfl, rfl, ?_⟩
      refine ⟨_, rfl, _, C, _, _, _, rfl, h2.head, CBoard.cl, CBoard.n1, bF1 B _ _, _, rfl, _, _, _, _, rfl, rfl, h2.tail.head, ix1 _ (wrow_len nk cs), rfl, ?_⟩
      exact congrArg (fun z => upd _ _ (HO.lst z)) (by rw [ew, wst, if_pos rfl, if_neg hs])
  rintro _ _ ⟨rfl, rfl⟩
  have u3 := (u2.swap2.put (o' := .lst ((wrow nk (cs ++ [ch])).map V.int)) hc nl).swap2
  have h3 := u3.now hc
  -- self.last[key] = self.many
  refine ⟨_, rfl, _, C, _, _, _, rfl, h3.head, CBoard.cl, CBoard.n4, bF4 B _ _, _, rfl, _, C, _, _, _, rfl, h3.head, CBoard.cl, CBoard.n5, bF5 B _ _, _, rfl, _, _, _, _, rfl, rfl, h3.tail.tail.tail.head, ix1 _ (lrow_len nk cs), ?_⟩
  have u4 := ((u3.perm (List.reverse_perm _).symm).put (o' := .lst (((lrow nk cs).map V.int).set ch.key (.int ((cs.length : Int) + 1)))) hc nl).perm (List.reverse_perm _).symm
  have h4 := u4.now hc
  -- self.rows.append(letter)
  have hxs : xs.length ≤ 20 := by
    rw [rxs.length, List.length_map, tailL_len]
    omega
  refine ⟨_, rfl, _, C, _, _, _, rfl, h4.head, CBoard.cl, CBoard.n3, bF3 B _ _, .inl ⟨rfl, _, SqL.of h4.tail.tail.head⟩, _, rfl, _, _, _, rfl, rfl, h4.tail.tail.head, small1000 (by omega), ?_⟩
  have u5 := ((((u4.perm (List.reverse_perm _).symm).swap2.put (o' := .lst (xs ++ [.ref tl])) hc nl).swap2).perm (List.reverse_perm _).symm)
  have h5 := u5.now hc
  have m25 := ((h2.swap2.mono_put (o' := .lst ((wrow nk (cs ++ [ch])).map V.int))).trans ((h3.perm (List.reverse_perm _).symm).mono_put (o' := .lst (((lrow nk cs).map V.int).set ch.key (.int ((cs.length : Int) + 1)))))).trans ((h4.perm (List.reverse_perm _).symm).swap2.mono_put (o' := .lst (xs ++ [.ref tl])))
  have htl5 := m25 tl _ htl2 trivial
  have rl := Rp.tup (K := K) (ds := [.str "change", .int ((cs.length + 1 : Nat) : Int), .int ch.key, .str (wd ch.set), .int ch.worth, .int (lof cs ch.key)]) htl5 (by
    rw [← n1]
    exact .cons .str (.cons .int (.cons .int (.cons .str (.cons .int (.cons .int .nil))))))
  have rxs5 := (rxs.mono u5.mono).snoc rl
  have e5 : (tailL keep cs).map Letter.enc ++ [PyData.tuple [.str "change", .int ((cs.length + 1 : Nat) : Int), .int ch.key, .str (wd ch.set), .int ch.worth, .int (lof cs ch.key)]] = (tailL keep cs ++ [Letter.change (cs.length + 1) ch (lof cs ch.key)]).map Letter.enc := by
    rw [List.map_append]
    rfl
  rw [e5] at rxs5
  have hx5 : xs.length = min cs.length keep := by rw [rxs.length, List.length_map, tailL_len]
  have efin : ∀ (ys : List V) (H' : Hp), Tr H [(B.p, HO.ins C B.dx (bF B keep cs.length)), (B.l1, HO.lst ((wrow nk cs).map V.int)), (B.l2, HO.lst xs), (B.l3, HO.lst ((lrow nk cs).map V.int))] H'
      [(B.p, HO.ins C B.dx (bF B keep ((cs.length : Int) + 1))), (B.l1, HO.lst ((wrow nk (cs ++ [ch])).map V.int)), (B.l2, HO.lst ys), (B.l3, HO.lst (((lrow nk cs).map V.int).set ch.key (.int ((cs.length : Int) + 1))))] →
      RpL K H' ((tailL keep (cs ++ [ch])).map Letter.enc) ys → Rp K H' (Letter.change (cs.length + 1) ch (lof cs ch.key)).enc (.ref tl) → Q (.ref tl) H' := fun ys H' u q ql => by
    refine go _ _ H' ⟨ys, ?_, q⟩ u ql
    rw [n1, ← el, List.length_append]
    rfl
  refine rd_mid (fun σ' H' => σ' = [some (.ref B.p), some (.int ch.key), some (.str (wd ch.set)), some (.int ch.worth), some (.ref tl)] ∧ Q (.ref tl) H') ?_ ?_
  · refine ⟨_, rfl, _, C, _, _, _, rfl, h5.head, CBoard.cl, CBoard.n3, bF3 B _ _, _, _, rfl, .inl (SqL.of h5.tail.tail.head), _, rfl, _, C, _, _, _, rfl, h5.head, CBoard.cl, CBoard.n2, bF2 B _ _, _, _, rfl, rfl, _, rfl, ite2 (fun h0 => ?_) fun h0 => ?_⟩
    · have hgt := of_decide_eq_true h0
      rw [List.length_append, List.length_singleton] at hgt
      obtain ⟨y, ys, ey⟩ : ∃ y ys, xs ++ [V.ref tl] = y :: ys := by
        cases xs with
        | nil => exact ⟨_, _, rfl⟩
        | cons a b => exact ⟨_, _, rfl⟩
      refine ⟨_, rfl, _, C, _, _, _, rfl, h5.head, CBoard.cl, CBoard.n3, bF3 B _ _, .inl ⟨rfl, _, SqL.of h5.tail.tail.head⟩, B.l2, _, 0, 0, y, rfl, rfl, h5.tail.tail.head, by decide, by decide, (by rw [List.length_append, List.length_singleton]; simp [seqIndex?]), (by rw [ey]; rfl), rfl, ?_⟩
      have u6 := ((((u5.perm (List.reverse_perm _).symm).swap2.put (o' := .lst ((xs ++ [V.ref tl]).eraseIdx 0)) hc nl).swap2).perm (List.reverse_perm _).symm)
      have m6 := (h5.perm (List.reverse_perm _).symm).swap2.mono_put (o' := .lst ((xs ++ [V.ref tl]).eraseIdx 0))
      refine efin _ _ u6 ?_ (rl.mono m6)
      have ed : (xs ++ [V.ref tl]).drop 1 = (xs ++ [V.ref tl]).eraseIdx 0 := by rw [List.eraseIdx_zero, List.drop_one]
      have q := (rxs5.drop 1).mono m6
      rw [ed] at q
      rw [tailL_snoc, if_neg (by omega), List.map_drop]
      exact q
    · have hle : ¬ ((keep : Int) < ((xs ++ [V.ref tl]).length : Nat)) := fun q => h0 (decide_eq_true q)
      rw [List.length_append, List.length_singleton] at hle
      refine ⟨rfl, efin _ _ u5 ?_ rl⟩
      rw [tailL_snoc, if_pos (by omega)]
      exact rxs5
  rintro _ H9 ⟨rfl, q⟩
  exact ⟨_, rfl, q⟩
end
end Cu

namespace Cu
open PySem PySem.Spec PyProof.Rows L2
theorem bFno {B : BA} {a b : Int} {m : Str} (h : ((bF B a b).lookup m) = none := by rfl) : (bF B a b).lookup m = none := h
section
variable {K : PySem.W.Frag} {H : Hp} {C : Addr} {σ : L2.St} {Q : VK} {i : Nat} {B : BA} {nk keep : Nat} {cs : List Ch} {c : Lg}
theorem rd_bnumber (h1 : σ[i]? = some (some (.ref B.p))) (r : BR K C B nk keep cs H c) (hc : Has H c) (q : Q (.int cs.length) H) :
    tMeth C "number" (spBnumber K C) [] E0 (tVar i) tNil σ H Q := ⟨_, h1, B.p, _, _, rfl, r.at_p hc, bFno, rfl, B, nk, keep, cs, c, rfl, r, hc, q⟩
theorem rd_bworths (h1 : σ[i]? = some (some (.ref B.p))) (r : BR K C B nk keep cs H c) (hc : Has H c) (q : ∀ p H', Grow H H' → FzL K H' p ((wrow nk cs).map V.int) → Q (.ref p) H') :
    tFz (tMeth C "worths" (spBworths K C) [] E0 (tVar i) tNil) σ H Q :=
  rd_fz ⟨_, h1, B.p, _, _, rfl, r.at_p hc, bFno, rfl, B, nk, keep, cs, c, rfl, r, hc, fun _ _ t => ⟨_, _, rfl, t.own.head, fun _ => q _ _ (t.fz .nil) FzL.frz⟩⟩
theorem rd_blasts (h1 : σ[i]? = some (some (.ref B.p))) (r : BR K C B nk keep cs H c) (hc : Has H c) (q : ∀ p H', Grow H H' → FzL K H' p ((lrow nk cs).map V.int) → Q (.ref p) H') :
    tFz (tMeth C "lasts" (spBlasts K C) [] E0 (tVar i) tNil) σ H Q :=
  rd_fz ⟨_, h1, B.p, _, _, rfl, r.at_p hc, bFno, rfl, B, nk, keep, cs, c, rfl, r, hc, fun _ _ t => ⟨_, _, rfl, t.own.head, fun _ => q _ _ (t.fz .nil) FzL.frz⟩⟩
theorem rd_bbeat (h1 : σ[i]? = some (some (.ref B.p))) (r : BR K C B nk keep cs H c) (hc : Has H c) (q : ∀ v H', Grow H H' → Rp K H' (beatL nk cs cs.length).enc v → Q v H') :
    tMeth C "beat" (spBbeat K C) [] E0 (tVar i) tNil σ H Q := ⟨_, h1, B.p, _, _, rfl, r.at_p hc, bFno, rfl, B, nk, keep, cs, c, rfl, r, hc, q⟩
theorem rd_btail (h1 : σ[i]? = some (some (.ref B.p))) (r : BR K C B nk keep cs H c) (hc : Has H c) (q : ∀ p xs H', Grow H H' → FzL K H' p xs → RpL K H' ((tailL keep cs).map Letter.enc) xs → Q (.ref p) H') :
    tFz (tMeth C "tail" (spBtail K C) [] E0 (tVar i) tNil) σ H Q :=
  rd_fz ⟨_, h1, B.p, _, _, rfl, r.at_p hc, bFno, rfl, B, nk, keep, cs, c, rfl, r, hc, fun _ xs _ t rx => ⟨_, _, rfl, t.own.head, fun _ => q _ xs _ (t.fz .nil) FzL.frz (rx.mono t.own.mono_put)⟩⟩
end
end Cu

namespace Cu
open PySem PySem.Spec PyProof.Rows L2
abbrev s_counts : Stmt := (top 23)
theorem sc_counts : FnScope ["_law_d", "_law_keys"] ["_law_d"] (defScope s_counts) := ⟨rfl, rfl, rfl, by decide +kernel, rfl, by decide +kernel, by decide +kernel⟩

def spCounts (K : PySem.W.Frag) : Sp := fun vs H Q _ => vs.length = 1 ∧ ∃ (a : Addr) (R : Lg), vs = [.ref a] ∧ Dice K H a R ∧
  ∀ (nk keep : Nat) (t : Addr) (H' : Hp), 0 < nk → nk ≤ 8 → keep ≤ 20 → Mono H H' → Dice K H' a R → H' t = some (.tup [.int nk, .int keep]) → Q (.ref t) H'
section
variable {P : Program} {w : World} {K : PySem.W.Frag} {mg : Str → Option Value} {base : Heap}
theorem ok_counts (F : Fd K mg "_law_counts" s_counts) (Bm : Blt mg) (g_next : Gf P w K mg base 1 "_law_next" ["_law_dice_here", "_law_many"] (spNext K)) : Gf P w K mg base 2 "_law_counts" ["_law_d"] (spCounts K) := by
  refine F.ok sc_counts (fun _ _ _ _ _ _ us hl => match us, hl with | [_], _ => rfl) len_of fun qual f cdv A outer s H vs Q E hr h => ?_
  obtain ⟨_, a, R, rfl, d, go⟩ := h
  refine ⟨_, (pss_cons (ps_set (i := 1) sc_counts.nd rfl (Or.inl rfl) (pe_ix ix_list (pe_lst (pa_cons (pe_op op_add pe_int (pc g_next hr (pa_cons (pv 0) (pa_cons pe_int pa_nil)))) (pa_cons (pe_op op_add pe_int (pc g_next hr (pa_cons (pv 0) (pa_cons pe_int pa_nil)))) pa_nil))) (pc g_next hr (pa_cons (pv 0) (pa_cons pe_int pa_nil))) (fun _ _ => rfl)))
      (pss_one (ps_ret (pe_tup (pa_cons (pv 1) (pa_cons (pe_ix ix_list (pe_lst (pa_cons (pc g_next hr (pa_cons (pv 0) (pa_cons pe_int pa_nil))) (pa_cons (pc g_next hr (pa_cons (pv 0) (pa_cons pe_int pa_nil))) pa_nil))) (pc g_next hr (pa_cons (pv 0) (pa_cons pe_int pa_nil))) (fun _ _ => rfl)) pa_nil)))))), ?_⟩
  refine ⟨_, rfl, rfl, a, 3, R, rfl, by decide, by decide, d, fun r1 H1 p1 q1 m1 d1 => ⟨_, _, rfl, rfl, ?_⟩⟩
  refine ⟨_, rfl, rfl, a, 8, R, rfl, by decide, by decide, d1, fun r2 H2 p2 q2 m2 d2 => ⟨_, _, rfl, rfl, ?_⟩⟩
  refine ⟨(by show 2 ≤ sizeLine; decide), fun l hl => ?_⟩
  refine ⟨_, rfl, rfl, a, 2, _, rfl, by decide, by decide, d2.new (o := .lst [.int (1 + r1), .int (1 + r2)]) hl nl, fun r3 H3 p3 q3 m3 d3 => ?_⟩
  obtain ⟨v, hv, hm⟩ := at_some (xs := [.int (1 + r1), .int (1 + r2)]) p3 q3
  obtain ⟨nk, rfl, hk, hk8⟩ : ∃ nk : Nat, v = V.int nk ∧ 0 < nk ∧ nk ≤ 8 := by
    simp only [List.mem_cons, List.not_mem_nil, or_false] at hm
    rcases hm with e | e
    · exact ⟨(1 + r1).toNat, by rw [e]; congr 1; omega, by omega, by omega⟩
    · exact ⟨(1 + r2).toNat, by rw [e]; congr 1; omega, by omega, by omega⟩
  refine ⟨l, _, _, _, rfl, rfl, SqL.of d3.at_, hv, ?_⟩
  have d4 := d3.tail
  refine ⟨_, rfl, _, rfl, rfl, a, 7, R, rfl, by decide, by decide, d4, fun r5 H5 p5 q5 m5 d5 => ?_⟩
  refine ⟨_, rfl, rfl, a, 21, R, rfl, by decide, by decide, d5, fun r6 H6 p6 q6 m6 d6 => ⟨(by show 2 ≤ sizeLine; decide), fun l2 hl2 => ?_⟩⟩
  refine ⟨_, rfl, rfl, a, 2, _, rfl, by decide, by decide, d6.new (o := .lst [.int r5, .int r6]) hl2 nl, fun r7 H7 p7 q7 m7 d7 => ?_⟩
  obtain ⟨v, hv, hm⟩ := at_some (xs := [.int r5, .int r6]) p7 q7
  obtain ⟨keep, rfl, hkp⟩ : ∃ keep : Nat, v = V.int keep ∧ keep ≤ 20 := by
    simp only [List.mem_cons, List.not_mem_nil, or_false] at hm
    rcases hm with e | e
    · exact ⟨r5.toNat, by rw [e]; congr 1; omega, by omega⟩
    · exact ⟨r6.toNat, by rw [e]; congr 1; omega, by omega⟩
  refine ⟨l2, _, _, _, rfl, rfl, SqL.of d7.at_, hv, ⟨(by show 2 ≤ sizeLine; decide), fun t ht => ?_⟩⟩
  exact go nk keep t _ hk hk8 hkp (((((((m1.trans m2).trans (Mono.new hl)).trans m3).trans m5).trans m6).trans (Mono.new hl2)).trans (m7.trans (Mono.new ht))) (d7.tail.old ht) upd_same
end
end Cu

namespace Cu
open PySem PySem.Spec PyProof.Rows L2
/-! min(t, u) of two tuples of ints -/
theorem tup_keeps {h h' : Heap} {p : Addr} {its : Array Value} (t : IsTup h p its) (k : ∀ b o, h.get? b = some o → h'.get? b = some o) : IsTup h' p its := by
  obtain ⟨o, ho, q⟩ := t
  exact ⟨o, k _ _ ho, q⟩
theorem min_pair {prog : Program} {w : World} {A : Around} {E : Value → Shared → Prop} {s : Shared} {p q : Addr} {i1 i2 : Array Value} {ns ms : List Int} {Q : Value → Shared → Prop} (hh : A.handled = none) (hp : IsTup s.heap p i1) (hq : IsTup s.heap q i2) (n1 : IntsAre i1.toList ns) (n2 : IntsAre i2.toList ms) (hu : A.units + 1 < cLine)
    (h : ∀ h' tk, (∀ c o, s.heap.get? c = some o → h'.get? c = some o) → Q (if HT.lexLt ms ns = true then .ref q else .ref p) { s with heap := h', toks := tk }) : wpAny (model prog w) A (call (.builtin "min") [.ref p, .ref q]) Q E s := by
  have nm : (toString "min" ++ toString ".loop" : String) = "min.loop" := by decide
  refine call_function_tree F.kind_min F.plain_min F.entry_min (F.args_min2 _ _) ?_; show wpAny _ A.in1 (Builtin.Builtins.bindParams "min" ["key", "default"] 0 ⟨[], []⟩ >>= _) _ _ s
  refine wpAny_bind (wpAny_of_eq (show Builtin.Builtins.bindParams "min" ["key", "default"] 0 ⟨[], []⟩ = pure [none, none] from rfl) ?_); show wpAny _ A.in1 (newTuple [.ref p, .ref q] >>= _) _ _ s
  refine wpAny_bind (wpAny_newObj_type (wpAny_bind (PySem.W.iter_tupleW (A := A.in1) (vs := #[.ref p, .ref q]) hh ⟨_, Heap.get?_push_size _ rfl, rfl, 0, rfl⟩ fun s2 e W st hfp hw hk => wpAny_bind (wpAny_newObj_type ?_))))
  have fr : s2.heap.objs.size ∉ [(s.heap.push { cls := .type "tuple", data := .seq #[.ref p, .ref q] }).objs.size, s.heap.objs.size] := fun hm => Nat.lt_irrefl _ (hfp _ hm)
  have k1 : ∀ b o, s.heap.get? b = some o → (s.heap.push { cls := .type "tuple", data := .seq #[.ref p, .ref q] }).get? b = some o := fun b o e => Heap.get?_push_of_some _ e
  have cmp : CmpIn prog w A.in1 .Lt (s.heap.push { cls := .type "tuple", data := .seq #[.ref p, .ref q] }) (fun i v => #[Value.ref p, .ref q][i]? = some v) (fun i j => HT.lexLt (if i = 0 then ns else ms) (if j = 0 then ns else ms)) := fun i j vi vj s' Q' E' hk' hi hj hq' => by
    have two : ∀ {i : Nat} {v : Value}, #[Value.ref p, .ref q][i]? = some v → ∃ r its, v = .ref r ∧ IsTup s'.heap r its ∧ IntsAre its.toList (if i = 0 then ns else ms) := fun {i v} hv => by
      match i, hv with
      | 0, hv => exact ⟨p, i1, by simpa using hv.symm, tup_keeps (tup_keeps hp k1) hk', n1⟩
      | 1, hv => exact ⟨q, i2, by simpa using hv.symm, tup_keeps (tup_keeps hq k1) hk', n2⟩
      | k + 2, hv => simp at hv
    obtain ⟨r, its, rfl, t1, t2⟩ := two hi
    obtain ⟨r', its', rfl, t3, t4⟩ := two hj
    exact HT.lt_tupInts t1 t3 t2 t4 (by show A.units + 1 < cLine; exact hu) hq'
  rw [nm]; refine wpAny_pure ⟨plainId_quiet F.plain_min_loop _, codeAny_min_loop_firstH W (s.heap.push { cls := .type "tuple", data := .seq #[.ref p, .ref q] }) hw _ cmp s2.heap.objs.size fr (fresh_in hk) _ (by show 0 < 2; decide) (fun b o e => Heap.get?_push_of_some _ (hk b o e)) (W.frame 0 s2 _ s2.toks st (Nat.le_refl _) fun b _ o e => Heap.get?_push_of_some _ e) (Heap.get?_push_size _ rfl) fun v s' hP hm => ?_⟩
  obtain ⟨h', tk, rfl, hk'⟩ := PySem.W.moved_old e rfl (Moved.drop_new (tk := s2.toks) hm (Nat.le_refl _))
  have hv : v = if HT.lexLt ms ns = true then Value.ref q else Value.ref p := by
    cases hc : HT.lexLt ms ns <;> simp [argBest, hc] at hP <;> simp [hP]
  rw [hv]
  exact h h' tk fun c o e => hk' c o (k1 c o e)
def rMin2T (K : PySem.W.Frag) : List V → Hp → VK → Prop := fun vs H Q => ∃ (p q : Addr) (i j i' j' : Int), vs = [.ref p, .ref q] ∧ SqT K H p [.int i, .int j] ∧ SqT K H q [.int i', .int j'] ∧ Q (if i' < i ∨ (i' = i ∧ j' < j) then .ref q else .ref p) H
theorem lex2 (i j i' j' : Int) : HT.lexLt [i', j'] [i, j] = decide (i' < i ∨ (i' = i ∧ j' < j)) := by
  rw [HT.lexLt_cons, HT.lexLt_cons, HT.lexLt_nil_nil]
  by_cases h1 : i' = i
  · by_cases h2 : j' = j
    · subst h1 h2
      simp
    · rw [if_pos h1, if_neg h2]
      subst h1
      simp
  · rw [if_neg h1]
    simp [h1]
theorem call_min2T {X : Cx} (hc : X.calm = true) (hu : X.A.units + 64 < cLine) : CallR X (.builtin "min") (rMin2T X.K) := by
  intro pins s σ H vs us Q I r h
  obtain ⟨p, q, i, j, i', j', rfl, hp, hq, go⟩ := h
  obtain ⟨u, w', rfl, r1, r2⟩ := vals2 r
  cases r1
  cases r2
  obtain ⟨t1, v1, p1, _⟩ := I.tuple hp
  obtain ⟨t2, v2, p2, _⟩ := I.tuple hq
  refine min_pair (I.ok.hd hc) p1 p2 (intsAre_of (ns := [i, j]) v1) (intsAre_of (ns := [i', j']) v2) (by omega) fun h' tk k => ⟨_, H, I.kept k, ?_, go⟩
  rw [lex2]
  by_cases z : i' < i ∨ (i' = i ∧ j' < j)
  · rw [if_pos z, if_pos (decide_eq_true z)]
    rfl
  · rw [if_neg z, if_neg (by rw [decide_eq_false z]; decide)]
    rfl
end Cu

namespace Cu
open PySem PySem.Spec PyProof.Rows L2
/-! what brings a key up; the least weights -/
def Letter.keyOf : Letter → Nat
  | .change _ c _ => c.key
  | _ => 0
def Letter.numOf : Letter → Nat
  | .change n _ _ => n
  | .part n _ _ => n
  | .beat n _ => n
def Letter.isSet : Letter → Bool
  | .change _ c _ => c.set
  | _ => false
def Letter.ahd : Letter → Nat
  | .change _ _ a => a
  | _ => 0
def Letter.wt : Letter → Nat
  | .part _ _ rows => 2 + rows.length
  | _ => 1
def wtL (ls : List Letter) : Nat := (ls.map Letter.wt).sum
theorem wtL_app (a b : List Letter) : wtL (a ++ b) = wtL a + wtL b := by simp [wtL]
def someL (keep : Nat) (cs : List Ch) (u : Int) (k : Nat) : List Letter := (tailL keep cs).filter fun l => decide (l.keyOf = k) && decide (u < (l.numOf : Int))
def setsL (ls : List Letter) : List Nat := (List.range ls.length).filter fun i => (ls[i]?.map Letter.isSet) == some true
def firstOk (sm : List Letter) (u : Int) : Bool := match sm with
  | [] => false
  | l :: _ => decide ((l.ahd : Int) ≤ u)
def wantS (sm : List Letter) (u : Int) : Option (List Letter) := match (setsL sm).getLast? with
  | some i => some (sm.drop i)
  | none => if firstOk sm u = true then some sm else none
theorem wantS_set {sm : List Letter} {u : Int} {ini : List Nat} {i : Nat} (e : setsL sm = ini ++ [i]) : wantS sm u = some (sm.drop i) := by
  unfold wantS
  rw [e]
  simp
theorem wantS_no {sm : List Letter} {u : Int} (e : setsL sm = []) : wantS sm u = if firstOk sm u = true then some sm else none := by
  unfold wantS
  rw [e]
  rfl
def wantL (keep : Nat) (cs : List Ch) (u : Int) (k : Nat) : Option (List Letter) := if (lof cs k : Int) ≤ u then some [] else wantS (someL keep cs u k) u
def costL (keep : Nat) (cs : List Ch) (ns : List Int) (k : Nat) : Option Nat := (wantL keep cs (ns.getD k 0) k).map List.length
def mn (p q : Int × Int) : Int × Int := if q.1 < p.1 ∨ (q.1 = p.1 ∧ q.2 < p.2) then q else p
def up1 (b : Option (Int × Int)) (q : Int × Int) : Int × Int := match b with
  | none => q
  | some p => mn p q
def moreK (F : List Int) (key b : Nat) : Int × Int := (F.getD b 0 + 2 + key + 1 - b, b)
def bestU (F : List Int) (key : Nat) (c : Option Nat) : Nat → Option (Int × Int)
  | 0 => c.map fun n => (F.getD key 0 + n, (0 : Int) - key - 1)
  | b + 1 => some (up1 (bestU F key c b) (moreK F key b))
def bestK (F : List Int) (key : Nat) (c : Option Nat) : Int × Int := up1 (bestU F key c key) (moreK F key key)
theorem bestU_all (F : List Int) (key : Nat) (c : Option Nat) : bestU F key c (key + 1) = some (bestK F key c) := rfl
def lev (cost : Nat → Option Nat) : Nat → List Int × List Int
  | 0 => ([0], [0])
  | k + 1 => ((lev cost k).1 ++ [(bestK (lev cost k).1 k (cost k)).1], (lev cost k).2 ++ [(bestK (lev cost k).1 k (cost k)).2])
theorem lev_len (cost : Nat → Option Nat) (n : Nat) : (lev cost n).1.length = n + 1 ∧ (lev cost n).2.length = n + 1 := by
  induction n with
  | zero => exact ⟨rfl, rfl⟩
  | succ n ih =>
    refine ⟨?_, ?_⟩
    · show ((lev cost n).1 ++ [_]).length = _
      rw [List.length_append, ih.1]
      rfl
    · show ((lev cost n).2 ++ [_]).length = _
      rw [List.length_append, ih.2]
      rfl
/-- the least weight for the keys ahead of e -/
def lwt (cost : Nat → Option Nat) (e : Nat) : Int := (lev cost e).1.getD e 0
def lbg (cost : Nat → Option Nat) (e : Nat) : Int := (lev cost e).2.getD e 0
theorem getD_last {xs : List Int} {x : Int} {n : Nat} (h : xs.length = n) : (xs ++ [x]).getD n 0 = x := by
  subst h
  simp
theorem getD_left {xs ys : List Int} {n : Nat} (h : n < xs.length) : (xs ++ ys).getD n 0 = xs.getD n 0 := by
  simp [List.getD_eq_getElem?_getD, List.getElem?_append_left h]
theorem lev_get (cost : Nat → Option Nat) {e n : Nat} (h : e ≤ n) : (lev cost n).1.getD e 0 = lwt cost e ∧ (lev cost n).2.getD e 0 = lbg cost e := by
  induction n with
  | zero =>
    have : e = 0 := by omega
    subst this
    exact ⟨rfl, rfl⟩
  | succ n ih =>
    by_cases q : e = n + 1
    · subst q
      exact ⟨rfl, rfl⟩
    · have hl := lev_len cost n
      obtain ⟨i1, i2⟩ := ih (by omega)
      refine ⟨?_, ?_⟩
      · show ((lev cost n).1 ++ [_]).getD e 0 = _
        rw [getD_left (by omega), i1]
      · show ((lev cost n).2 ++ [_]).getD e 0 = _
        rw [getD_left (by omega), i2]
theorem lwt_succ (cost : Nat → Option Nat) (k : Nat) : lwt cost (k + 1) = (bestK (lev cost k).1 k (cost k)).1 ∧ lbg cost (k + 1) = (bestK (lev cost k).1 k (cost k)).2 :=
  ⟨getD_last (lev_len cost k).1, getD_last (lev_len cost k).2⟩
theorem mn_le (p q : Int × Int) : (mn p q).1 ≤ p.1 ∧ (mn p q).1 ≤ q.1 ∧ (mn p q = p ∨ mn p q = q) := by
  unfold mn
  split
  · rename_i h
    exact ⟨by omega, Int.le_refl _, .inr rfl⟩
  · rename_i h
    exact ⟨Int.le_refl _, by omega, .inl rfl⟩
/-- what may be the best -/
def Cand (cost : Nat → Option Nat) (k b : Nat) (p : Int × Int) : Prop := (∃ n, cost k = some n ∧ p = (lwt cost k + n, (0 : Int) - k - 1)) ∨ ∃ j, j < b ∧ p = (lwt cost j + 2 + k + 1 - j, (j : Int))
theorem bestU_ok (cost : Nat → Option Nat) (k : Nat) : ∀ b, b ≤ k + 1 → match bestU (lev cost k).1 k (cost k) b with
    | none => b = 0 ∧ cost k = none
    | some p => Cand cost k b p ∧ (∀ n, cost k = some n → p.1 ≤ lwt cost k + n) ∧ ∀ j, j < b → p.1 ≤ lwt cost j + 2 + k + 1 - j := fun b => by
  induction b with
  | zero =>
    intro _
    cases hc : cost k with
    | none => exact ⟨rfl, rfl⟩
    | some n =>
      show Cand cost k 0 ((lev cost k).1.getD k 0 + n, (0 : Int) - k - 1) ∧ _
      rw [(lev_get cost (Nat.le_refl k)).1]
      refine ⟨.inl ⟨n, hc, rfl⟩, fun m hm => ?_, fun j h => absurd h (Nat.not_lt_zero j)⟩
      cases hm
      exact Int.le_refl _
  | succ b ih =>
    intro hb
    have ih := ih (by omega)
    have em : moreK (lev cost k).1 k b = (lwt cost b + 2 + k + 1 - b, (b : Int)) := by
      unfold moreK
      rw [(lev_get cost (show b ≤ k by omega)).1]
    have lift : ∀ {p}, Cand cost k b p → Cand cost k (b + 1) p := fun h => by
      rcases h with h | ⟨j, h1, h2⟩
      · exact .inl h
      · exact .inr ⟨j, by omega, h2⟩
    cases hu : bestU (lev cost k).1 k (cost k) b with
    | none =>
      rw [hu] at ih
      have e : bestU (lev cost k).1 k (cost k) (b + 1) = some (moreK (lev cost k).1 k b) := by
        show some (up1 (bestU (lev cost k).1 k (cost k) b) _) = _
        rw [hu]
        rfl
      rw [e, em]
      refine ⟨.inr ⟨b, Nat.lt_succ_self b, rfl⟩, fun n hn => ?_, fun j hj => ?_⟩
      · rw [ih.2] at hn
        cases hn
      · have : j = b := by omega
        subst this
        exact Int.le_refl _
    | some p =>
      rw [hu] at ih
      have e : bestU (lev cost k).1 k (cost k) (b + 1) = some (mn p (moreK (lev cost k).1 k b)) := by
        show some (up1 (bestU (lev cost k).1 k (cost k) b) _) = _
        rw [hu]
        rfl
      rw [e]
      obtain ⟨m1, m2, m3⟩ := mn_le p (moreK (lev cost k).1 k b)
      rw [em] at m1 m2 m3 ⊢
      obtain ⟨c1, c2, c3⟩ := ih
      refine ⟨?_, fun n hn => Int.le_trans m1 (c2 n hn), fun j hj => ?_⟩
      · rcases m3 with m3 | m3
        · rw [m3]
          exact lift c1
        · rw [m3]
          exact .inr ⟨b, Nat.lt_succ_self b, rfl⟩
      · by_cases q : j = b
        · subst q
          exact m2
        · exact Int.le_trans m1 (c3 j (by omega))
theorem lev_ok (cost : Nat → Option Nat) (k : Nat) : Cand cost k (k + 1) (lwt cost (k + 1), lbg cost (k + 1)) ∧ (∀ n, cost k = some n → lwt cost (k + 1) ≤ lwt cost k + n) ∧ ∀ j, j ≤ k → lwt cost (k + 1) ≤ lwt cost j + 2 + k + 1 - j := by
  have h := bestU_ok cost k (k + 1) (Nat.le_refl _)
  rw [bestU_all] at h
  obtain ⟨h1, h2, h3⟩ := h
  rw [(lwt_succ cost k).1, (lwt_succ cost k).2]
  exact ⟨h1, h2, fun j hj => h3 j (by omega)⟩
theorem lwt_zero (cost : Nat → Option Nat) : lwt cost 0 = 0 := rfl
theorem lwt_nonneg (cost : Nat → Option Nat) : ∀ e, 0 ≤ lwt cost e := fun e => by
  have : ∀ n e, e ≤ n → 0 ≤ lwt cost e := fun n => by
    induction n with
    | zero =>
      intro e he
      have : e = 0 := by omega
      subst this
      exact Int.le_refl _
    | succ n ih =>
      intro e he
      cases e with
      | zero => exact Int.le_refl _
      | succ k =>
        rcases (lev_ok cost k).1 with ⟨m, _, h⟩ | ⟨j, hj, h⟩
        · have h1 : lwt cost (k + 1) = lwt cost k + m := congrArg Prod.fst h
          have := ih k (by omega)
          omega
        · have h1 : lwt cost (k + 1) = lwt cost j + 2 + k + 1 - j := congrArg Prod.fst h
          have := ih j (by omega)
          omega
  exact this e e (Nat.le_refl _)
/-- letters that bring up the keys ahead of e -/
inductive Brings (keep : Nat) (cs : List Ch) (ns : List Int) : Nat → List Letter → Prop
  | nil : Brings keep cs ns 0 []
  | want {e : Nat} {ls w : List Letter} : Brings keep cs ns e ls → wantL keep cs (ns.getD e 0) e = some w → Brings keep cs ns (e + 1) (ls ++ w)
  | part {b e : Nat} {ls : List Letter} : Brings keep cs ns b ls → b < e → Brings keep cs ns e (ls ++ [partL cs cs.length b e])
theorem filter_sub_mem {α : Type} {p : α → Bool} {xs : List α} {x : α} (h : x ∈ xs.filter p) : x ∈ xs := (List.mem_filter.mp h).1
theorem lets_mem {cs : List Ch} {l : Letter} (h : l ∈ lets cs) : ∃ m c, cs[m]? = some c ∧ l = .change (m + 1) c (lof (cs.take m) c.key) := by
  obtain ⟨m, hm⟩ := List.getElem?_of_mem h
  have hl := (List.getElem?_eq_some_iff.mp hm).1
  rw [lets_length] at hl
  refine ⟨m, cs[m], List.getElem?_eq_getElem hl, ?_⟩
  rw [lets_get (List.getElem?_eq_getElem hl)] at hm
  exact (Option.some.inj hm).symm
theorem tailL_mem {keep : Nat} {cs : List Ch} {l : Letter} (h : l ∈ tailL keep cs) : ∃ m c, cs[m]? = some c ∧ l = .change (m + 1) c (lof (cs.take m) c.key) := lets_mem (List.mem_of_mem_drop h)
theorem wantS_mem {sm : List Letter} {u : Int} {w : List Letter} (h : wantS sm u = some w) : ∀ l ∈ w, l ∈ sm := by
  rcases List.eq_nil_or_concat (setsL sm) with es | ⟨ini, i, es⟩
  · rw [wantS_no es] at h
    split at h
    · cases h
      exact fun _ q => q
    · cases h
  · rw [List.concat_eq_append] at es
    rw [wantS_set es] at h
    cases h
    exact fun l hl => List.mem_of_mem_drop hl
theorem wantL_mem {keep : Nat} {cs : List Ch} {u : Int} {k : Nat} {w : List Letter} (h : wantL keep cs u k = some w) : ∀ l ∈ w, l ∈ someL keep cs u k := by
  unfold wantL at h
  split at h
  · cases h
    exact fun _ q => (nomatch q)
  · exact wantS_mem h
theorem wantS_len {sm : List Letter} {u : Int} {w : List Letter} (h : wantS sm u = some w) : w.length ≤ sm.length := by
  rcases List.eq_nil_or_concat (setsL sm) with es | ⟨ini, i, es⟩
  · rw [wantS_no es] at h
    split at h
    · cases h
      exact Nat.le_refl _
    · cases h
  · rw [List.concat_eq_append] at es
    rw [wantS_set es] at h
    cases h
    rw [List.length_drop]
    omega
theorem wtL_chg : ∀ {w : List Letter}, (∀ l ∈ w, l.wt = 1) → wtL w = w.length
  | [], _ => rfl
  | l :: w, h => by
    have ih := wtL_chg (w := w) fun x hx => h x (List.mem_cons_of_mem _ hx)
    have h1 := h l List.mem_cons_self
    show (l.wt :: w.map Letter.wt).sum = _
    rw [List.sum_cons, h1, show (w.map Letter.wt).sum = w.length from ih, List.length_cons]
    omega
theorem wantL_wt {keep : Nat} {cs : List Ch} {u : Int} {k : Nat} {w : List Letter} (h : wantL keep cs u k = some w) : wtL w = w.length := wtL_chg fun l hl => by
  obtain ⟨m, c, _, rfl⟩ := tailL_mem (filter_sub_mem (wantL_mem h l hl))
  rfl
theorem partL_wt (cs : List Ch) (n b e : Nat) : (partL cs n b e).wt = 2 + (e - b) := by
  show 2 + (partRows cs n b (e - b)).length = _
  rw [partRows, List.length_map, List.length_range]
theorem Brings.least {keep : Nat} {cs : List Ch} {ns : List Int} {e : Nat} {ls : List Letter} (h : Brings keep cs ns e ls) : lwt (costL keep cs ns) e ≤ wtL ls := by
  induction h with
  | nil => exact Int.le_refl _
  | @want e ls w _ hw ih =>
    rw [wtL_app, wantL_wt hw]
    have := (lev_ok (costL keep cs ns) e).2.1 w.length (by rw [costL, hw]; rfl)
    omega
  | @part b e ls _ hbe ih =>
    rw [wtL_app]
    have h1 : wtL [partL cs cs.length b e] = 2 + (e - b) := by
      show (partL cs cs.length b e).wt + 0 = _
      rw [partL_wt]
      rfl
    rw [h1]
    obtain ⟨k, rfl⟩ : ∃ k, e = k + 1 := ⟨e - 1, by omega⟩
    have := (lev_ok (costL keep cs ns) k).2.2 b (by omega)
    omega
/-- numbers that may be known of a board -/
structure Kn (nk : Nat) (cs : List Ch) (ns : List Int) : Prop where
  len : ns.length = nk
  bd : ∀ n ∈ ns, -1 ≤ n ∧ n ≤ cs.length
end Cu

namespace Cu
open PySem PySem.Spec PyProof.Rows L2
abbrev s_wanted : Stmt := (top 10)
theorem sc_wanted : FnScope ["board", "known", "key", "some", "sets", "letter", "at"] ["board", "known", "key"] (defScope s_wanted) := ⟨rfl, rfl, rfl, by decide +kernel, rfl, by decide +kernel, by decide +kernel⟩

/-- a list that stays as long as nothing that is owned is written -/
def StL (K : PySem.W.Frag) (H : Hp) (a : Addr) (xs : List V) : Prop := ∀ (H' : Hp) (O : Lg), Tr H [] H' O → SqL K H' a xs
section
variable {K : PySem.W.Frag} {H H' : Hp} {a : Addr} {xs : List V} {O c : Lg}
theorem StL.tr (s : StL K H a xs) (t : Tr H [] H' O) : StL K H' a xs := fun H2 O2 t2 => s H2 (O2 ++ O) (t.trans (by simpa using t2.right (D := O)))
theorem StL.sq (s : StL K H a xs) : SqL K H a xs := s H [] (Tr.refl H [])
theorem StL.fz (f : FzL K H a xs) : StL K H a xs := fun _ _ t => (f.mono t.mono).sq
theorem StL.has (h : Has H c) (m : (a, HO.lst xs) ∈ c) : StL K H a xs := fun _ _ t => SqL.of ((t.has c h).right.mem m)
end
theorem getD_at {ns : List Int} {k : Nat} (h : k < ns.length) : atI (ns.map V.int) (k : Int) = some (V.int (ns.getD k 0)) :=
  at_of (j := k) rfl (by rw [List.getElem?_map, List.getElem?_eq_getElem h, List.getD_eq_getElem?_getD, List.getElem?_eq_getElem h]; rfl)
def spWanted (K : PySem.W.Frag) (CB : Addr) : Sp := fun vs H Q _ => vs.length = 3 ∧ ∃ (B : BA) (nk keep : Nat) (cs : List Ch) (c : Lg) (kn : Addr) (ns : List Int) (k : Nat), vs = [.ref B.p, .ref kn, .int k] ∧ BR K CB B nk keep cs H c ∧ Has H c ∧ StL K H kn (ns.map V.int) ∧ ns.length = nk ∧ k < nk ∧ keep ≤ 20 ∧
  (wantL keep cs (ns.getD k 0) k = none → ∀ H', Grow H H' → Q .non H') ∧
  (∀ w, wantL keep cs (ns.getD k 0) k = some w → ∀ (r : Addr) (xs : List V) (H' : Hp), Tr H [] H' [(r, .lst xs)] → RpL K H' (w.map Letter.enc) xs → Q (.ref r) H')
theorem someL_len (keep : Nat) (cs : List Ch) (u : Int) (k : Nat) : (someL keep cs u k).length ≤ keep := by
  have h1 : (someL keep cs u k).length ≤ (tailL keep cs).length := List.length_filter_le _ _
  rw [tailL_len] at h1
  omega
section
variable {P : Program} {w : World} {K : PySem.W.Frag} {mg : Str → Option Value} {base : Heap} {CB : Addr}
theorem ok_wanted (F : Fd K mg "wanted" s_wanted) (Bm : Blt mg) (CBoard : CBo K CB) (m_Board_lasts : Mf P w K mg base 1 CB "lasts" ["self"] (spBlasts K CB)) (m_Board_tail : Mf P w K mg base 1 CB "tail" ["self"] (spBtail K CB)) :
    Gf P w K mg base 2 "wanted" ["board", "known", "key"] (spWanted K CB) := by
  refine F.ok sc_wanted (fun _ _ _ _ _ _ us hl => match us, hl with | [_, _, _], _ => rfl) len_of fun qual f cdv A0 outer s H vs Q E hr h => ?_
  obtain ⟨_, B, nk, keep, cs, c, kn, ns, k, rfl, r, hc, st, hlen, hk, hkp, gN, gS⟩ := h
  refine ⟨_, (pss_cons (ps_if (pt_cmpR op_le (pe_ix ix_list (pe_fz (pm0 (pv 0) CBoard.cl m_Board_lasts hr)) (pv 2) (fun _ _ => rfl)) (pe_ix ix_list (pv 1) (pv 2) (fun _ _ => rfl)) (nomark _))
        (pss_one (ps_ret (pe_lst pa_nil)))
        pss_nil)
      (pss_cons (ps_set (i := 3) sc_wanted.nd rfl (Or.inr rfl) (pe_lc (own := [("letter", 5)]) (g := (gName 5)) rfl sc_wanted.nd (pi_list (pe_fz (pm0 (pv 0) CBoard.cl m_Board_tail hr))) (blkOk_by (N := ["board", "known", "key", "some", "sets", "letter", "at"]) (sc := defScope s_wanted) (by decide +kernel)) (fun _ _ _ _ _ => (pg_name (i := 5) sc_wanted.nd rfl (Or.inl rfl))) (fun _ _ _ _ _ => (pts_one (PW.pt (pw_and (pt_cmpR op_eq (pe_ix (ix_tupK K rfl) (pv 5) pe_int (fun _ _ => rfl)) (pv 2) (nomark _)) (pw_and1 (pt_cmpR op_gt (pe_ix (ix_tupK K rfl) (pv 5) pe_int (fun _ _ => rfl)) (pe_ix (ix_listK K rfl) (pv 1) (pv 2) (fun _ _ => rfl)) (nomark _))))))) (fun _ _ _ _ _ => (pv 5))))
      (pss_cons (ps_setLc (i := 4) (own := [("at", 6)]) (g := (gName 6)) rfl sc_wanted.nd rfl rfl (sw_true rfl rfl rfl (by decide +kernel)) (pi_range1 rfl Bm.range (pa_cons (pe_callB call_len_seq rfl Bm.len (by decide +kernel) (pa_cons (pv 3) pa_nil)) pa_nil)) (blkOk_by (N := ["board", "known", "key", "some", "sets", "letter", "at"]) (sc := defScope s_wanted) (by decide +kernel)) (fun _ _ _ _ _ => (pg_name (i := 6) sc_wanted.nd rfl (Or.inl rfl))) (fun _ _ _ _ _ => (pts_one (pt_cmpR op_eq (pe_ix (ix_tupK K rfl) (pe_ix (ix_listK K rfl) (pv 3) (pv 6) (fun _ _ => rfl)) pe_int (fun _ _ => rfl)) pe_str (nomark _)))) (fun _ _ _ _ _ => (pv 6)))
      (pss_cons (ps_if (pt_cmpR (op_neD hr.units) (pv 4) (pe_lst pa_nil) (nomark _))
        (pss_one (ps_ret (pe_slice sl_list (pv 3) (po_some (pe_ix ix_list (pv 4) (pe_un un_neg pe_int) (fun _ _ => rfl))) po_none)))
        pss_nil)
      (pss_one (ps_ret (pe_ifExp (PW.pt (pw_and (pt_cmpR (op_neD hr.units) (pv 3) (pe_lst pa_nil) (nomark _)) (pw_and1 (pt_cmpR op_le (pe_ix ix_tup (pe_ix ix_list (pv 3) pe_int (fun _ _ => rfl)) pe_int (fun _ _ => rfl)) (pe_ix ix_list (pv 1) (pv 2) (fun _ _ => rfl)) (nomark _))))) (pv 3) pe_non))))))), ?_⟩
  have hat := getD_at (ns := ns) (k := k) (by omega)
  generalize eu : ns.getD k 0 = u at hat gN gS
  have z0 : 0 ≤ sizeLine := by decide
  have up : ∀ {H2 : Hp} {O : Lg}, Tr H [] H2 O → Has H2 c ∧ BR K CB B nk keep cs H2 c ∧ SqL K H2 kn (ns.map V.int) := fun t => ⟨(t.has c hc).right, r.mono t.mono, (st.tr t).sq⟩
  refine rd_blasts (by rfl) r hc fun p1 H1 g1 f1 => ?_
  refine ⟨_, rfl, p1, _, _, _, rfl, rfl, f1.sq, at_of (j := k) rfl (by rw [List.getElem?_map, lrow_get hk]; rfl), _, rfl, _, rfl, kn, _, _, _, rfl, rfl, (up g1).2.2, hat, _, _, rfl, rfl, _, rfl, ite2 (fun h0 => ?_) fun h0 => ?_⟩
  · refine ⟨z0, fun l hl => gS [] ?_ l [] _ (Tr.new g1 hl nl) .nil⟩
    unfold wantL
    rw [if_pos (of_decide_eq_true h0)]
  have h0' := ndec h0
  refine rd_btail (by rfl) (up g1).2.1 (up g1).1 fun p2 xs2 H2 g2 f2 rx2 => ?_
  have g12 := g1.trans g2
  have hx2 : xs2.length = (tailL keep cs).length := by rw [rx2.length, List.length_map]
  refine ⟨p2, rfl, ⟨_, f2.sq⟩, fun D hD => ?_⟩
  refine lc_list (K := K) (a := p2) (xs := xs2) (fun i H3 => ∃ ys, Tr H [] H3 [(D, .lst ys)] ∧ Mono H2 H3 ∧ RpL K H3 ((((tailL keep cs).take i).filter fun l => decide (l.keyOf = k) && decide (u < (l.numOf : Int))).map Letter.enc) ys)
    ⟨[], g12.new hD nl, Mono.new hD, .nil⟩ (fun i H3 _ ⟨_, _, m, _⟩ => (f2.mono m).sq) ?_ ?_
  · rintro i x H3 hi ⟨ys, t3, m3, ry⟩
    have hi' : i < (tailL keep cs).length := by
      have := (List.getElem?_eq_some_iff.mp hi).1
      omega
    obtain ⟨l, el⟩ : ∃ l, (tailL keep cs)[i]? = some l := ⟨(tailL keep cs)[i], List.getElem?_eq_getElem hi'⟩
    obtain ⟨x', ex, rx⟩ := (rx2.mono m3).get (i := i) (d := l.enc) (by rw [List.getElem?_map, el]; rfl)
    rw [hi] at ex
    cases ex
    obtain ⟨m, ch, _, rfl⟩ := tailL_mem (List.mem_of_getElem? el)
    obtain ⟨a, rfl, ha⟩ := rx.chg_inv
    have hy : ys.length ≤ 20 := by
      rw [ry.length, List.length_map]
      refine Nat.le_trans (List.length_filter_le _ _) ?_
      have := tailL_len keep cs
      rw [List.length_take]
      omega
    have no : (decide ((Letter.change (m + 1) ch (lof (cs.take m) ch.key)).keyOf = k) && decide (u < ((Letter.change (m + 1) ch (lof (cs.take m) ch.key)).numOf : Int))) = false → ∃ ys, Tr H [] H3 [(D, .lst ys)] ∧ Mono H2 H3 ∧ RpL K H3 ((((tailL keep cs).take (i + 1)).filter fun l => decide (l.keyOf = k) && decide (u < (l.numOf : Int))).map Letter.enc) ys := fun q => by
      refine ⟨ys, t3, m3, ?_⟩
      rw [take_snoc el, List.filter_append, List.filter_cons_of_neg (by rw [q]; decide), List.filter_nil, List.append_nil]
      exact ry
    have hu3 := (up t3).2.2
    refine ⟨rfl, _, rfl, a, _, _, _, rfl, rfl, SqT.of ha, rfl, _, rfl, rfl, _, rfl, ite2 (fun h1 => ?_) fun h1 => ?_⟩
    · have h1' : ch.key = k := by
        have := of_decide_eq_true h1
        injection this with q
        omega
      refine ⟨_, rfl, a, _, _, _, rfl, rfl, SqT.of ha, rfl, _, rfl, _, rfl, kn, _, _, _, rfl, rfl, hu3, hat, _, _, rfl, rfl, _, rfl, ite2 (fun h2 => ?_) fun h2 => ?_⟩
      · have h2' := of_decide_eq_true h2
        refine ⟨_, rfl, ys, t3.own.head, small1000 (by omega), ys ++ [.ref a], t3.put .nil nl, m3.trans t3.own.mono_put, ?_⟩
        have q : (decide ((Letter.change (m + 1) ch (lof (cs.take m) ch.key)).keyOf = k) && decide (u < ((Letter.change (m + 1) ch (lof (cs.take m) ch.key)).numOf : Int))) = true := by
          rw [Bool.and_eq_true]
          exact ⟨decide_eq_true h1', decide_eq_true h2'⟩
        have e1 : List.filter (fun l => decide (l.keyOf = k) && decide (u < (l.numOf : Int))) [Letter.change (m + 1) ch (lof (cs.take m) ch.key)] = [Letter.change (m + 1) ch (lof (cs.take m) ch.key)] := List.filter_cons_of_pos (l := []) q
        rw [take_snoc el, List.filter_append, e1, List.map_append]
        exact (ry.snoc rx).mono t3.own.mono_put
      · refine no ?_
        rw [Bool.and_eq_false_iff]
        exact .inr (decide_eq_false (ndec h2))
    · refine iteM (by decide) (no ?_)
      rw [Bool.and_eq_false_iff]
      exact .inl (decide_eq_false fun q => h1 (decide_eq_true (by show V.int (ch.key : Int) = V.int (k : Int); rw [show ch.key = k from q])))
  rintro H3 ⟨ys, t3, m3, ry⟩
  rw [List.take_of_length_le (by omega)] at ry
  change RpL K H3 ((someL keep cs u k).map Letter.enc) ys at ry
  have hsl := someL_len keep cs u k
  have hall : ∀ l ∈ someL keep cs u k, ∃ m c, cs[m]? = some c ∧ l = .change (m + 1) c (lof (cs.take m) c.key) := fun l hl => tailL_mem (filter_sub_mem hl)
  have hw : wantL keep cs u k = wantS (someL keep cs u k) u := by
    unfold wantL
    rw [if_neg h0']
  generalize someL keep cs u k = sm at *
  have hy : ys.length = sm.length := by rw [ry.length, List.length_map]
  -- sets
  refine ⟨_, rfl, D, ys, rfl, .inl (SqL.of t3.own.head), _, rfl, by omega, by omega, fun D2 hD2 => ?_⟩
  refine lc_range (lo := 0) (n := (ys.length : Int).toNat) (fun i H4 => Tr H [] H4 [(D2, .lst ((((List.range i).filter fun i => (sm[i]?.map Letter.isSet) == some true).map fun (i : Nat) => (i : Int)).map V.int)), (D, .lst ys)] ∧ Mono H3 H4)
    ⟨t3.new hD2 nl, Mono.new hD2⟩ ?_ ?_
  · rintro i H4 hi ⟨t4, m4⟩
    have hi' : i < sm.length := by omega
    obtain ⟨l, el⟩ : ∃ l, sm[i]? = some l := ⟨sm[i], List.getElem?_eq_getElem hi'⟩
    obtain ⟨y, ey, rl⟩ := (ry.mono m4).get (i := i) (d := l.enc) (by rw [List.getElem?_map, el]; rfl)
    obtain ⟨m, ch, _, rfl⟩ := hall l (List.mem_of_getElem? el)
    obtain ⟨a, rfl, ha⟩ := rl.chg_inv
    have ez : ((0 : Int) + i) = (i : Int) := by omega
    refine ⟨rfl, _, rfl, _, rfl, D, _, _, _, rfl, rfl, SqL.of t4.own.tail.head, at_of (j := i) ez ey, a, _, _, _, rfl, rfl, SqT.of ha, rfl, rfl, _, rfl, ?_⟩
    rw [wdS]
    have es : ((sm[i]?.map Letter.isSet) == some true) = ch.set := by
      rw [el]
      show (some ch.set == some true) = ch.set
      cases ch.set <;> rfl
    refine ite2 (fun h1 => ?_) fun h1 => ?_
    · refine ⟨_, rfl, _, t4.own.head, ?_, ?_, m4.trans t4.own.mono_put⟩
      · rw [List.length_map, List.length_map]
        refine Nat.lt_of_le_of_lt (List.length_filter_le _ _) ?_
        rw [List.length_range]
        exact small1000 (by omega)
      · have := t4.put (o' := .lst (((((List.range i).filter fun i => (sm[i]?.map Letter.isSet) == some true).map fun (i : Nat) => (i : Int)).map V.int) ++ [V.int ((0 : Int) + i)])) .nil nl
        rw [List.range_succ, List.filter_append, List.filter_cons_of_pos (by rw [es]; exact h1), List.filter_nil, List.map_append, List.map_append]
        rw [ez] at this ⊢
        exact this
    · refine ⟨?_, m4⟩
      rw [List.range_succ, List.filter_append, List.filter_cons_of_neg (by rw [es]; exact h1), List.filter_nil, List.append_nil]
      exact t4
  rintro H4 ⟨t4, m4⟩
  have e4 : ((List.range (ys.length : Int).toNat).filter fun i => (sm[i]?.map Letter.isSet) == some true) = setsL sm := by
    rw [Int.toNat_natCast, hy]
    rfl
  rw [e4] at t4
  have ry4 := ry.mono m4
  refine ⟨_, rfl, z0, fun e0 he0 => ?_⟩
  have t5 := t4.old (o := .lst []) he0
  have me := Mono.new (o := .lst []) he0
  refine ⟨ilst ((setsL sm).map fun (i : Nat) => (i : Int)), .list [], Dp.ints' t5.own.head, Dp.nil upd_same, (Gd.ilst (n := 0) _).shaped, (Gd.nil (n := 0)).shaped, _, rfl, ?_⟩
  rw [ilst, eqv_nil]
  have ry5 := ry4.mono me
  generalize hH5 : upd H4 e0 (.lst []) = H5 at t5 ry5
  rcases List.eq_nil_or_concat (setsL sm) with es | ⟨ini, i, es⟩
  · rw [wantS_no es] at hw
    rw [es]
    refine iteM (by decide) ?_
    -- some if some != [] and ..
    refine ⟨_, rfl, z0, fun e1 he1 => ?_⟩
    have t6 := t5.old (o := .lst []) he1
    have ry6 := ry5.mono (Mono.new (o := .lst []) he1)
    refine ⟨.list (sm.map Letter.enc), .list [], .lst (SqL.of t6.own.tail.head) ry6.dp, Dp.nil upd_same, (Gd.letters sm).shaped, (Gd.nil (n := 0)).shaped, _, rfl, ?_⟩
    rw [eqv_nil]
    cases sm with
    | nil =>
      have hw : wantL keep cs u k = none := hw
      refine iteM (by decide) ?_
      exact iteM (by decide) (gN hw _ (t6.sub (List.nil_sublist _)))
    | cons l ls =>
      refine iteP (by rfl) ?_
      obtain ⟨y, ey, rl⟩ := ry6.get (i := 0) (d := l.enc) rfl
      obtain ⟨m, ch, _, rfl⟩ := hall l List.mem_cons_self
      obtain ⟨a, rfl, ha⟩ := rl.chg_inv
      refine ⟨_, rfl, D, _, _, _, rfl, rfl, SqL.of t6.own.tail.head, at_of (j := 0) rfl ey, a, _, _, _, rfl, rfl, SqT.of ha, rfl, _, rfl, _, rfl, kn, _, _, _, rfl, rfl, (up t6).2.2, hat, _, _, rfl, rfl, _, rfl, ite2 (fun h1 => ?_) fun h1 => ?_⟩
      · have h1' := of_decide_eq_true h1
        rw [if_pos (show firstOk (Letter.change (m + 1) ch (lof (cs.take m) ch.key) :: ls) u = true from decide_eq_true h1')] at hw
        exact ⟨_, rfl, gS _ hw D ys _ t6.tail ry6⟩
      · have h1' := ndec h1
        rw [if_neg (show ¬ firstOk (Letter.change (m + 1) ch (lof (cs.take m) ch.key) :: ls) u = true from fun q => h1' (of_decide_eq_true q))] at hw
        exact gN hw _ (t6.sub (List.nil_sublist _))
  · have es : setsL sm = ini ++ [i] := by rw [es, List.concat_eq_append]
    rw [wantS_set es] at hw
    rw [es] at t5 ⊢
    have hil : i < sm.length := by
      have : i ∈ setsL sm := by rw [es]; simp
      have := (List.mem_filter.mp this).1
      exact List.mem_range.mp this
    refine iteP (by simp) ?_
    refine ⟨_, rfl, _, rfl, _, rfl, D2, _, _, _, rfl, rfl, SqL.of t5.own.head, (by rw [List.map_append, List.map_append]; exact atI_last _ _), _, rfl, D, ys, rfl, SqL.of t5.own.tail.head, fun p6 hp6 => ?_⟩
    rw [cutV_from (by omega)]
    refine gS _ hw p6 _ _ ((t5.new hp6 nl).sub (List.Sublist.cons_cons _ (List.nil_sublist _))) ?_
    rw [List.map_drop]
    exact (ry5.drop i).mono (Mono.new hp6)
end
end Cu

namespace Cu
open PySem PySem.Spec PyProof.Rows L2
abbrev s_Board_size : Stmt := (inClass (top 16) 1)
theorem sc_Board_size : FnScope ["self"] ["self"] (defScope s_Board_size) := ⟨rfl, rfl, rfl, by decide +kernel, rfl, by decide +kernel, by decide +kernel⟩

def spBsize (K : PySem.W.Frag) (C : Addr) : Sp := fun vs H Q _ => vs.length = 1 ∧ ∃ (B : BA) (nk keep : Nat) (cs : List Ch) (c : Lg), vs = [.ref B.p] ∧ BR K C B nk keep cs H c ∧ Has H c ∧ Q (.int nk) H
theorem rd_bsize {K : PySem.W.Frag} {H : Hp} {C : Addr} {σ : L2.St} {Q : VK} {i : Nat} {B : BA} {nk keep : Nat} {cs : List Ch} {c : Lg} (h1 : σ[i]? = some (some (.ref B.p))) (r : BR K C B nk keep cs H c) (hc : Has H c) (q : Q (.int nk) H) :
    tMeth C "size" (spBsize K C) [] E0 (tVar i) tNil σ H Q := ⟨_, h1, B.p, _, _, rfl, r.at_p hc, bFno, rfl, B, nk, keep, cs, c, rfl, r, hc, q⟩
section
variable {P : Program} {w : World} {K : PySem.W.Frag} {mg : Str → Option Value} {base : Heap} {C : Addr}
theorem ok_Bsize (F : Md K C "size" "Board.size" s_Board_size) (Bm : Blt mg) (CBoard : CBo K C) : Mf P w K mg base 1 C "size" ["self"] (spBsize K C) := by
  refine F.ok sc_Board_size (fun _ _ _ _ _ _ us hl => match us, hl with | [_], _ => rfl) len_of fun qual f cdv A0 outer s H vs Q E hr h => ?_
  obtain ⟨_, B, nk, keep, cs, c, rfl, r, hc, go⟩ := h
  refine ⟨_, (pss_one (ps_ret (pe_callB call_len_seq rfl Bm.len (by decide +kernel) (pa_cons (pe_fld (pv 0) rfl) pa_nil)))), ?_⟩
  have e : (((wrow nk cs).map V.int).length : Int) = (nk : Int) := by rw [List.length_map, wrow_len]
  refine ⟨_, rfl, _, C, _, _, _, rfl, r.at_p hc, CBoard.cl, CBoard.n1, bF1 B _ _, _, _, rfl, .inl (SqL.of (r.at1 hc)), ?_⟩
  rw [e]
  exact go
end
end Cu

namespace Cu
open PySem PySem.Spec PyProof.Rows L2
abbrev s_need_known : Stmt := (top 9)
theorem sc_need_known : FnScope ["board", "known", "key"] ["board", "known"] (defScope s_need_known) := ⟨rfl, rfl, rfl, by decide +kernel, rfl, by decide +kernel, by decide +kernel⟩

def spNeed (K : PySem.W.Frag) (CB : Addr) : Sp := fun vs H Q _ => vs.length = 2 ∧ ∃ (B : BA) (nk keep : Nat) (cs : List Ch) (c : Lg) (kn : Addr) (ns : List Int), vs = [.ref B.p, .ref kn] ∧ BR K CB B nk keep cs H c ∧ Has H c ∧ SqL K H kn (ns.map V.int) ∧ Kn nk cs ns ∧ nk ≤ 8 ∧ Q .non H
theorem getD_mem {ns : List Int} {k : Nat} (h : k < ns.length) : ns.getD k 0 ∈ ns := by
  rw [List.getD_eq_getElem?_getD, List.getElem?_eq_getElem h]
  exact List.getElem_mem h
section
variable {P : Program} {w : World} {K : PySem.W.Frag} {mg : Str → Option Value} {base : Heap} {CB : Addr}
theorem ok_need_known (F : Fd K mg "need_known" s_need_known) (Bm : Blt mg) (CBoard : CBo K CB) (m_Board_size : Mf P w K mg base 1 CB "size" ["self"] (spBsize K CB)) (m_Board_number : Mf P w K mg base 1 CB "number" ["self"] (spBnumber K CB)) :
    Gf P w K mg base 2 "need_known" ["board", "known"] (spNeed K CB) := by
  refine F.ok sc_need_known (fun _ _ _ _ _ _ us hl => match us, hl with | [_, _], _ => rfl) len_of fun qual f cdv A0 outer s H vs Q E hr h => ?_
  obtain ⟨_, B, nk, keep, cs, c, kn, ns, rfl, r, hc, hs, ⟨hlen, hb⟩, h8, go⟩ := h
  refine ⟨_, (pss_cons (ps_for PassesOwn.never rfl (pi_range1 rfl Bm.range (pa_cons (pm0 (pv 0) CBoard.cl m_Board_size hr) pa_nil)) (pg_name (i := 2) sc_need_known.nd rfl (Or.inl rfl))
        (pss_one (ps_if (PW.pt (pw_or (pt_cmpR op_ge (pv 2) (pe_callB call_len_seq rfl Bm.len (by decide +kernel) (pa_cons (pv 1) pa_nil)) (nomark _)) (pw_or1 (pt_not (pt_chain op_le op_le (pe_un un_neg pe_int) (pe_ix ix_list (pv 1) (pv 2) (fun _ _ => rfl)) (pm0 (pv 0) CBoard.cl m_Board_number hr))))))
          (pss_one ps_never)
          pss_nil)))
      (pss_one (ps_if (pt_cmpR op_gt (pe_callB call_len_seq rfl Bm.len (by decide +kernel) (pa_cons (pv 1) pa_nil)) (pm0 (pv 0) CBoard.cl m_Board_size hr) (nomark _))
        (pss_one ps_never)
        pss_nil))), ?_⟩
  refine rd_bsize (by rfl) r hc ⟨_, rfl, by omega, by omega, for_range (lo := 0) (n := (nk : Int).toNat) (fun i σ H' => ∃ v, σ = [some (.ref B.p), some (.ref kn), v] ∧ H' = H) ⟨none, rfl, rfl⟩ ?_ ?_⟩
  · rintro i σ H' hi ⟨v, rfl, rfl⟩
    have hi' : i < ns.length := by omega
    have ez : ((0 : Int) + i) = (i : Int) := by omega
    have hat := getD_at hi'
    have hbd := hb _ (getD_mem hi')
    refine ⟨_, rfl, _, rfl, kn, _, rfl, .inl hs, _, _, rfl, rfl, _, rfl, iteM (by rw [List.length_map]; simp; omega) ?_⟩
    refine ⟨_, rfl, _, rfl, _, rfl, kn, _, _, _, rfl, rfl, hs, (by rw [← ez] at hat; exact hat), _, _, rfl, rfl, _, rfl, iteP (decide_eq_true hbd.1) ?_⟩
    refine rd_bnumber (by rfl) r hc ⟨_, _, rfl, rfl, _, rfl, ?_⟩
    exact iteM (by simp; exact hbd.2) ⟨_, rfl, rfl⟩
  · rintro σ H' ⟨v, rfl, rfl⟩
    refine ⟨_, rfl, kn, _, rfl, .inl hs, ?_⟩
    refine rd_bsize (by rfl) r hc ⟨_, _, rfl, rfl, _, rfl, ?_⟩
    exact iteM (by rw [List.length_map]; simp; omega) go
end
end Cu

namespace Cu
open PySem PySem.Spec PyProof.Rows L2
abbrev s_levels : Stmt := (top 11)
theorem sc_levels : FnScope ["board", "known", "found", "begins", "key", "some", "best", "begin", "more"] ["board", "known"] (defScope s_levels) := ⟨rfl, rfl, rfl, by decide +kernel, rfl, by decide +kernel, by decide +kernel⟩

def spLevels (K : PySem.W.Frag) (CB : Addr) : Sp := fun vs H Q _ => vs.length = 2 ∧ ∃ (B : BA) (nk keep : Nat) (cs : List Ch) (c : Lg) (kn : Addr) (ns : List Int), vs = [.ref B.p, .ref kn] ∧ BR K CB B nk keep cs H c ∧ Has H c ∧ StL K H kn (ns.map V.int) ∧ ns.length = nk ∧ nk ≤ 8 ∧ keep ≤ 20 ∧
  ∀ (t p q : Addr) (H' : Hp), Tr H [] H' [(q, .lst ((lev (costL keep cs ns) nk).2.map V.int)), (p, .lst ((lev (costL keep cs ns) nk).1.map V.int))] → H' t = some (.tup [.ref p, .ref q]) → Q (.ref t) H'
/-- what is best so far -/
def BestV (H : Hp) : Option (Int × Int) → V → Prop
  | none, v => v = .non
  | some x, v => ∃ t, v = .ref t ∧ H t = some (.tup [.int x.1, .int x.2])
theorem BestV.mono {H H' : Hp} (m : Mono H H') : ∀ {o : Option (Int × Int)} {v : V}, BestV H o v → BestV H' o v
  | none, _, h => h
  | some _, _, ⟨t, e, h⟩ => ⟨t, e, m _ _ h trivial⟩
theorem lev_at {cost : Nat → Option Nat} {i b : Nat} (h : b ≤ i) {z : Int} (ez : z = b) : atI ((lev cost i).1.map V.int) z = some (V.int ((lev cost i).1.getD b 0)) := by
  have hl := (lev_len cost i).1
  subst ez
  exact getD_at (by omega)
section
variable {P : Program} {w : World} {K : PySem.W.Frag} {mg : Str → Option Value} {base : Heap} {CB : Addr}
theorem ok_levels {tk : Tok} (F : Fd K mg "levels" s_levels) (Bm : Blt mg) (CBoard : CBo K CB) (km_PART : mg "PART" = some (.int 2 tk)) (m_Board_size : Mf P w K mg base 1 CB "size" ["self"] (spBsize K CB)) (g_wanted : Gf P w K mg base 2 "wanted" ["board", "known", "key"] (spWanted K CB)) :
    Gf P w K mg base 3 "levels" ["board", "known"] (spLevels K CB) := by
  refine F.ok sc_levels (fun _ _ _ _ _ _ us hl => match us, hl with | [_, _], _ => rfl) len_of fun qual f cdv A0 outer s H vs Q E hr h => ?_
  obtain ⟨_, B, nk, keep, cs, c, kn, ns, rfl, r, hc, st, hlen, h8, hkp, go⟩ := h
  refine ⟨_, (pss_cons (ps_set (i := 2) sc_levels.nd rfl (Or.inl rfl) (pe_lst (pa_cons pe_int pa_nil)))
      (pss_cons (ps_set (i := 3) sc_levels.nd rfl (Or.inl rfl) (pe_lst (pa_cons pe_int pa_nil)))
      (pss_cons (ps_for PassesOwn.never rfl (pi_range1 rfl Bm.range (pa_cons (pm0 (pv 0) CBoard.cl m_Board_size hr) pa_nil)) (pg_name (i := 4) sc_levels.nd rfl (Or.inl rfl))
        (pss_cons (ps_mid (ps_set (i := 5) sc_levels.nd rfl (Or.inl rfl) (pc g_wanted hr (pa_cons (pv 0) (pa_cons (pv 1) (pa_cons (pv 4) pa_nil))))))
        (pss_cons (ps_set (i := 6) sc_levels.nd rfl (Or.inl rfl) pe_non)
        (pss_cons (ps_mid (ps_if (pt_cmpR op_notN (pv 5) pe_non (nomark _))
          (pss_one (ps_set (i := 6) sc_levels.nd rfl (Or.inl rfl) (pe_tup (pa_cons (pe_op op_add (pe_ix ix_list (pv 2) (pv 4) (fun _ _ => rfl)) (pe_callB call_len_seq rfl Bm.len (by decide +kernel) (pa_cons (pv 5) pa_nil))) (pa_cons (pe_op op_sub (pe_op op_sub pe_int (pv 4)) pe_int) pa_nil)))))
          pss_nil))
        (pss_cons (ps_for PassesOwn.never rfl (pi_range1 rfl Bm.range (pa_cons (pe_op op_add (pv 4) pe_int) pa_nil)) (pg_name (i := 7) sc_levels.nd rfl (Or.inl rfl))
          (pss_cons (ps_set (i := 8) sc_levels.nd rfl (Or.inl rfl) (pe_tup (pa_cons (pe_op op_sub (pe_op op_add (pe_op op_add (pe_op op_add (pe_ix ix_list (pv 2) (pv 7) (fun _ _ => rfl)) (pe_glob (v := .int 2) rfl km_PART ⟨_, rfl⟩)) (pv 4)) pe_int) (pv 7)) (pa_cons (pv 7) pa_nil))))
          (pss_one (ps_mid (ps_set (i := 6) sc_levels.nd rfl (Or.inl rfl) (pe_ifExp (pt_cmpR op_isN (pv 6) pe_non (nomark _)) (pv 8) (pe_callB (call_min2T rfl hr.units) rfl Bm.min (by decide +kernel) (pa_cons (pv 6) (pa_cons (pv 8) pa_nil)))))))))
        (pss_cons (ps_expr (pe_bm PySem.F.plainAttrs_list PySem.F.slot_list_append PySem.F.type_list_append mt_append (pv 2) (pa_cons (pe_ix ix_tup (pv 6) pe_int (fun _ _ => rfl)) pa_nil)))
        (pss_one (ps_expr (pe_bm PySem.F.plainAttrs_list PySem.F.slot_list_append PySem.F.type_list_append mt_append (pv 3) (pa_cons (pe_ix ix_tup (pv 6) pe_int (fun _ _ => rfl)) pa_nil))))))))))
      (pss_one (ps_ret (pe_tup (pa_cons (pv 2) (pa_cons (pv 3) pa_nil)))))))), ?_⟩
  have up : ∀ {H2 : Hp} {O : Lg}, Tr H [] H2 O → Has H2 c ∧ BR K CB B nk keep cs H2 c ∧ StL K H2 kn (ns.map V.int) := fun t => ⟨(t.has c hc).right, r.mono t.mono, st.tr t⟩
  generalize ec : costL keep cs ns = cost at go
  refine ⟨(by show 1 ≤ sizeLine; decide), fun p hp => ⟨(by show 1 ≤ sizeLine; decide), fun q hq => ?_⟩⟩
  have t1 := ((Tr.refl H []).new (o := .lst [.int 0]) hp nl).new (o := .lst [.int 0]) hq nl
  refine rd_bsize (by rfl) (up t1).2.1 (up t1).1 ⟨_, rfl, by omega, by omega, for_range (lo := 0) (n := (nk : Int).toNat) (fun i σ H' => ∃ v4 v5 v6 v7 v8, σ = [some (.ref B.p), some (.ref kn), some (.ref p), some (.ref q), v4, v5, v6, v7, v8] ∧
      Tr H [] H' [(q, .lst ((lev cost i).2.map V.int)), (p, .lst ((lev cost i).1.map V.int))]) ⟨none, none, none, none, none, rfl, t1⟩ ?_ ?_⟩
  · rintro i σ H2 hi ⟨v4, v5, v6, v7, v8, rfl, t2⟩
    have hi' : i < nk := by omega
    have ez : ((0 : Int) + i) = (i : Int) := by omega
    have ecost : cost i = (wantL keep cs (ns.getD i 0) i).map List.length := by rw [← ec]; rfl
    -- some = wanted(board, known, key)
    refine rd_mid (fun σ H3 => ∃ v5, σ = [some (.ref B.p), some (.ref kn), some (.ref p), some (.ref q), some (.int (0 + i)), some v5, v6, v7, v8] ∧ Tr H [] H3 [(q, .lst ((lev cost i).2.map V.int)), (p, .lst ((lev cost i).1.map V.int))] ∧
        ((cost i = none ∧ v5 = .non) ∨ ∃ n r xs, cost i = some n ∧ v5 = .ref r ∧ H3 r = some (.lst xs) ∧ xs.length = n)) ?_ ?_
    · refine ⟨_, rfl, _, rfl, _, rfl, rfl, B, nk, keep, cs, c, kn, ns, i, (by rw [ez]; rfl), (up t2).2.1, (up t2).1, (up t2).2.2, hlen, hi', hkp, fun hw H3 g3 => ?_, fun w hw rr xs H3 t3 rx => ?_⟩
      · exact ⟨_, rfl, t2.grow g3, .inl ⟨by rw [ecost, hw]; rfl, rfl⟩⟩
      · have t4 := t2.trans (by simpa using t3.right (D := [(q, HO.lst ((lev cost i).2.map V.int)), (p, HO.lst ((lev cost i).1.map V.int))]))
        exact ⟨_, rfl, t4.tail, .inr ⟨w.length, rr, xs, by rw [ecost, hw]; rfl, rfl, t4.own.head, by rw [rx.length, List.length_map]⟩⟩
    rintro σ H3 ⟨v5, rfl, t3, h3⟩
    -- best = None; if some is not None
    refine rd_mid (fun σ H4 => ∃ v6, σ = [some (.ref B.p), some (.ref kn), some (.ref p), some (.ref q), some (.int (0 + i)), some v5, some v6, v7, v8] ∧ Tr H [] H4 [(q, .lst ((lev cost i).2.map V.int)), (p, .lst ((lev cost i).1.map V.int))] ∧ BestV H4 (bestU (lev cost i).1 i (cost i) 0) v6) ?_ ?_
    · rcases h3 with ⟨hc0, rfl⟩ | ⟨n, rr, xs, hc0, rfl, hr3, hxn⟩
      · refine ⟨_, rfl, rfl, _, rfl, iteM (by decide) ?_⟩
        refine ⟨_, rfl, t3, ?_⟩
        rw [hc0]
        rfl
      · refine ⟨_, rfl, rfl, _, rfl, iteP (by rfl) ?_⟩
        refine ⟨_, rfl, _, rfl, p, _, _, _, rfl, rfl, SqL.of t3.own.tail.head, lev_at (Nat.le_refl i) ez, _, rfl, rr, xs, rfl, .inl (SqL.of hr3), _, _, rfl, rfl, _, rfl, _, _, rfl, rfl, _, _, rfl, rfl, (by show 2 ≤ sizeLine; decide), fun t ht => ?_⟩
        refine ⟨_, rfl, t3.old ht, ?_⟩
        rw [hc0]
        refine ⟨t, rfl, ?_⟩
        rw [hxn, ez]
        exact upd_same
    rintro σ H4 ⟨v6, rfl, t4, h4⟩
    -- for begin in range(key + 1)
    refine ⟨_, rfl, _, _, rfl, rfl, _, rfl, by omega, by omega, for_range (lo := 0) (n := ((0 : Int) + i + 1).toNat) (fun j σ H5 => ∃ v6 v7 v8, σ = [some (.ref B.p), some (.ref kn), some (.ref p), some (.ref q), some (.int (0 + i)), some v5, some v6, v7, v8] ∧
        Tr H [] H5 [(q, .lst ((lev cost i).2.map V.int)), (p, .lst ((lev cost i).1.map V.int))] ∧ BestV H5 (bestU (lev cost i).1 i (cost i) j) v6) ⟨v6, v7, v8, rfl, t4, h4⟩ ?_ ?_⟩
    · rintro j σ H5 hj ⟨v6, v7, v8, rfl, t5, h5⟩
      have hj' : j ≤ i := by omega
      have ezj : ((0 : Int) + j) = (j : Int) := by omega
      refine ⟨_, rfl, _, rfl, p, _, _, _, rfl, rfl, SqL.of t5.own.tail.head, lev_at hj' ezj, _, _, rfl, rfl, _, rfl, _, _, rfl, rfl, _, _, rfl, rfl, _, rfl, _, _, rfl, rfl, _, rfl, (by show 2 ≤ sizeLine; decide), fun t ht => ?_⟩
      have t6 := t5.old (o := .tup [.int ((lev cost i).1.getD j 0 + 2 + (0 + i) + 1 - (0 + j)), .int (0 + j)]) ht
      have m6 := Mono.new (o := .tup [.int ((lev cost i).1.getD j 0 + 2 + (0 + i) + 1 - (0 + j)), .int (0 + j)]) ht
      have ht6 : (upd H5 t (.tup [.int ((lev cost i).1.getD j 0 + 2 + (0 + i) + 1 - (0 + j)), .int (0 + j)])) t = some (HO.tup [.int (moreK (lev cost i).1 i j).1, .int (moreK (lev cost i).1 i j).2]) := by
        rw [ez, ezj]
        exact upd_same
      have h6 := h5.mono m6
      refine rd_mid (fun σ H7 => ∃ v6, σ = [some (.ref B.p), some (.ref kn), some (.ref p), some (.ref q), some (.int (0 + i)), some v5, some v6, some (.int (0 + j)), some (.ref t)] ∧
          Tr H [] H7 [(q, .lst ((lev cost i).2.map V.int)), (p, .lst ((lev cost i).1.map V.int))] ∧ BestV H7 (bestU (lev cost i).1 i (cost i) (j + 1)) v6) ?_ ?_
      · have eb : bestU (lev cost i).1 i (cost i) (j + 1) = some (up1 (bestU (lev cost i).1 i (cost i) j) (moreK (lev cost i).1 i j)) := rfl
        rw [eb]
        cases hb : bestU (lev cost i).1 i (cost i) j with
        | none =>
          rw [hb] at h6
          cases h6
          exact ⟨_, rfl, rfl, _, rfl, iteP (by rfl) ⟨_, rfl, _, rfl, t6, t, rfl, ht6⟩⟩
        | some x =>
          rw [hb] at h6
          obtain ⟨t7, rfl, ht7⟩ := h6
          refine ⟨_, rfl, rfl, _, rfl, iteM (fun z => nomatch (of_decide_eq_true z)) ?_⟩
          refine ⟨_, rfl, _, rfl, t7, t, x.1, x.2, (moreK (lev cost i).1 i j).1, (moreK (lev cost i).1 i j).2, rfl, SqT.of ht7, SqT.of ht6, ?_⟩
          refine ⟨_, rfl, t6, ?_⟩
          show BestV _ (some (mn x (moreK (lev cost i).1 i j))) _
          unfold mn
          by_cases z : (moreK (lev cost i).1 i j).1 < x.1 ∨ ((moreK (lev cost i).1 i j).1 = x.1 ∧ (moreK (lev cost i).1 i j).2 < x.2)
          · rw [if_pos z, if_pos z]
            exact ⟨t, rfl, ht6⟩
          · rw [if_neg z, if_neg z]
            exact ⟨t7, rfl, ht7⟩
      · rintro σ H7 ⟨v6, rfl, t7, h7⟩
        exact ⟨_, _, _, rfl, t7, h7⟩
    · rintro σ H5 ⟨v6, v7, v8, rfl, t5, h5⟩
      have e1 : ((0 : Int) + i + 1).toNat = i + 1 := by omega
      rw [e1, bestU_all] at h5
      obtain ⟨t, rfl, ht⟩ := h5
      have hl := lev_len cost i
      refine ⟨_, rfl, .inl ⟨rfl, _, SqL.of t5.own.tail.head⟩, _, rfl, t, _, _, _, rfl, rfl, SqT.of ht, rfl, _, _, _, rfl, rfl, t5.own.tail.head, by rw [List.length_map, hl.1]; exact small1000 (by omega), ?_⟩
      have t6 := (t5.swap2.put (o' := .lst ((lev cost i).1.map V.int ++ [.int (bestK (lev cost i).1 i (cost i)).1])) .nil nl).swap2
      have m6 := t5.own.swap2.mono_put (o' := .lst ((lev cost i).1.map V.int ++ [.int (bestK (lev cost i).1 i (cost i)).1]))
      refine ⟨_, rfl, .inl ⟨rfl, _, SqL.of t6.own.head⟩, _, rfl, t, _, _, _, rfl, rfl, SqT.of (m6 _ _ ht trivial), rfl, _, _, _, rfl, rfl, t6.own.head, by rw [List.length_map, hl.2]; exact small1000 (by omega), ?_⟩
      have t7 := t6.put (o' := .lst ((lev cost i).2.map V.int ++ [.int (bestK (lev cost i).1 i (cost i)).2])) .nil nl
      refine ⟨_, _, _, _, _, rfl, ?_⟩
      have ea : (lev cost (i + 1)).1.map V.int = (lev cost i).1.map V.int ++ [.int (bestK (lev cost i).1 i (cost i)).1] := by
        show ((lev cost i).1 ++ [_]).map V.int = _
        rw [List.map_append]
        rfl
      have eb : (lev cost (i + 1)).2.map V.int = (lev cost i).2.map V.int ++ [.int (bestK (lev cost i).1 i (cost i)).2] := by
        show ((lev cost i).2 ++ [_]).map V.int = _
        rw [List.map_append]
        rfl
      rw [ea, eb]
      exact t7
  · rintro σ H2 ⟨v4, v5, v6, v7, v8, rfl, t2⟩
    rw [Int.toNat_natCast] at t2
    exact ⟨_, rfl, _, rfl, (by show 2 ≤ sizeLine; decide), fun t ht => go t p q _ (t2.old ht) upd_same⟩
end
end Cu

namespace Cu
open PySem PySem.Spec PyProof.Rows L2
abbrev s_answer : Stmt := (top 12)
theorem sc_answer : FnScope ["board", "known", "begins", "found", "end", "begin"] ["board", "known"] (defScope s_answer) := ⟨rfl, rfl, rfl, by decide +kernel, rfl, by decide +kernel, by decide +kernel⟩

def spAnswer (K : PySem.W.Frag) (CB : Addr) : Sp := fun vs H Q _ => vs.length = 2 ∧ ∃ (B : BA) (nk keep : Nat) (cs : List Ch) (c : Lg) (kn : Addr) (ns : List Int), vs = [.ref B.p, .ref kn] ∧ BR K CB B nk keep cs H c ∧ Has H c ∧ StL K H kn (ns.map V.int) ∧ Kn nk cs ns ∧ nk ≤ 8 ∧ keep ≤ 20 ∧
  ∀ (r : Addr) (xs : List V) (ls : List Letter) (H' : Hp), Tr H [] H' [(r, .lst xs)] → RpL K H' (ls.map Letter.enc) xs → Brings keep cs ns nk ls → (wtL ls : Int) = lwt (costL keep cs ns) nk → ls.length ≤ 21 * nk → Q (.ref r) H'
section
variable {P : Program} {w : World} {K : PySem.W.Frag} {mg : Str → Option Value} {base : Heap} {CB : Addr}
theorem ok_answer (F : Fd K mg "answer" s_answer) (Bm : Blt mg) (CBoard : CBo K CB) (g_need_known : Gf P w K mg base 2 "need_known" ["board", "known"] (spNeed K CB)) (g_levels : Gf P w K mg base 3 "levels" ["board", "known"] (spLevels K CB)) (g_wanted : Gf P w K mg base 2 "wanted" ["board", "known", "key"] (spWanted K CB))
    (m_Board_size : Mf P w K mg base 1 CB "size" ["self"] (spBsize K CB)) (m_Board_part : Mf P w K mg base 1 CB "part" ["self", "begin", "end"] (spBpart K CB)) : Gf P w K mg base 4 "answer" ["board", "known"] (spAnswer K CB) := by
  refine F.ok sc_answer (fun _ _ _ _ _ _ us hl => match us, hl with | [_, _], _ => rfl) len_of fun qual f cdv A0 outer s H vs Q E hr h => ?_
  obtain ⟨_, B, nk, keep, cs, c, kn, ns, rfl, r, hc, st, kk, h8, hkp, go⟩ := h
  refine ⟨_, (pss_cons (ps_expr (pc g_need_known hr (pa_cons (pv 0) (pa_cons (pv 1) pa_nil))))
      (pss_cons (ps_set (i := 2) sc_answer.nd rfl (Or.inl rfl) (pe_ix ix_tup (pc g_levels hr (pa_cons (pv 0) (pa_cons (pv 1) pa_nil))) pe_int (fun _ _ => rfl)))
      (pss_cons (ps_set (i := 3) sc_answer.nd rfl (Or.inl rfl) (pe_lst pa_nil))
      (pss_cons (ps_set (i := 4) sc_answer.nd rfl (Or.inl rfl) (pm0 (pv 0) CBoard.cl m_Board_size hr))
      (pss_cons (ps_while PassesOwn.never (pt_cmpR op_gt (pv 4) pe_int (nomark _))
        (pss_cons (ps_set (i := 5) sc_answer.nd rfl (Or.inl rfl) (pe_ix ix_list (pv 2) (pv 4) (fun _ _ => rfl)))
        (pss_one (ps_if (pt_cmpR op_lt (pv 5) pe_int (nomark _))
          (pss_cons (ps_set (i := 3) sc_answer.nd rfl (Or.inl rfl) (pe_op op_cat (pc g_wanted hr (pa_cons (pv 0) (pa_cons (pv 1) (pa_cons (pe_op op_sub (pv 4) pe_int) pa_nil)))) (pv 3)))
          (pss_one (ps_set (i := 4) sc_answer.nd rfl (Or.inl rfl) (pe_op op_sub (pv 4) pe_int))))
          (pss_cons (ps_set (i := 3) sc_answer.nd rfl (Or.inl rfl) (pe_op op_cat (pe_lst (pa_cons (pm (pv 0) CBoard.cl m_Board_part hr (pa_cons (pv 5) (pa_cons (pv 4) pa_nil))) pa_nil)) (pv 3)))
          (pss_one (ps_set (i := 4) sc_answer.nd rfl (Or.inl rfl) (pv 5))))))))
      (pss_one (ps_ret (pv 3)))))))), ?_⟩
  have up : ∀ {H2 : Hp} {O : Lg}, Tr H [] H2 O → Has H2 c ∧ BR K CB B nk keep cs H2 c ∧ StL K H2 kn (ns.map V.int) := fun t => ⟨(t.has c hc).right, r.mono t.mono, st.tr t⟩
  have hlen := kk.len
  refine ⟨_, rfl, _, rfl, rfl, B, nk, keep, cs, c, kn, ns, rfl, r, hc, st.sq, kk, h8, ?_⟩
  refine ⟨_, rfl, _, rfl, rfl, B, nk, keep, cs, c, kn, ns, rfl, r, hc, st, hlen, h8, hkp, fun t p q H1 t1 ht => ?_⟩
  generalize ec : costL keep cs ns = cost at t1 go
  refine ⟨t, _, _, _, rfl, rfl, SqT.of ht, rfl, (by show 0 ≤ sizeLine; decide), fun p0 hp0 => ?_⟩
  have t2 := (t1.sub (C2 := [(q, .lst ((lev cost nk).2.map V.int))]) (List.Sublist.cons_cons _ (List.nil_sublist _))).new (o := .lst []) hp0 nl
  refine rd_bsize (by rfl) (up t2).2.1 (up t2).1 ?_
  obtain ⟨W, hW⟩ : ∃ W : Nat → L2.St → Hp → Prop, ∀ m σ H2, W m σ H2 ↔ ∃ (e : Nat) (fnd : Addr) (xs : List V) (S : List Letter) (v5 : Option V), m = e ∧ e ≤ nk ∧ σ = [some (.ref B.p), some (.ref kn), some (.ref q), some (.ref fnd), some (.int e), v5] ∧
      Tr H [] H2 [(fnd, .lst xs), (q, .lst ((lev cost nk).2.map V.int))] ∧ RpL K H2 (S.map Letter.enc) xs ∧ (∀ ls, Brings keep cs ns e ls → Brings keep cs ns nk (ls ++ S)) ∧ lwt cost e + wtL S = lwt cost nk ∧ S.length + 21 * e ≤ 21 * nk := ⟨_, fun _ _ _ => Iff.rfl⟩
  refine ⟨W, ⟨nk, (hW _ _ _).mpr ⟨nk, p0, [], [], none, rfl, Nat.le_refl _, rfl, t2, .nil, fun ls h => by rw [List.append_nil]; exact h, by show _ + ((0 : Nat) : Int) = _; omega, by show 0 + _ ≤ _; omega⟩⟩, fun m σ H2 hw => ?_⟩
  obtain ⟨e, fnd, xs, S, v5, rfl, he, rfl, t3, rx, hbr, hwt, hsl⟩ := (hW _ _ _).mp hw
  have hxs : xs.length = S.length := by rw [rx.length, List.length_map]
  refine ⟨_, rfl, _, _, rfl, rfl, _, rfl, ite2 (fun h0 => ?_) fun h0 => ?_⟩
  · obtain ⟨k, rfl⟩ : ∃ k, m = k + 1 := ⟨m - 1, by have := of_decide_eq_true h0; omega⟩
    refine ⟨fun σ' H' => ∃ m', m' < k + 1 ∧ W m' σ' H', fun _ _ h => h, ?_⟩
    have hl := lev_len cost nk
    have hg : atI ((lev cost nk).2.map V.int) ((k + 1 : Nat) : Int) = some (V.int (lbg cost (k + 1))) := by
      rw [← (lev_get cost he).2]
      exact getD_at (by omega)
    refine ⟨_, rfl, _, rfl, q, _, _, _, rfl, rfl, SqL.of t3.own.tail.head, hg, ?_⟩
    obtain ⟨hcand, _, _⟩ := lev_ok cost k
    refine ⟨_, rfl, _, _, rfl, rfl, _, rfl, ite2 (fun h1 => ?_) fun h1 => ?_⟩
    · have h1' := of_decide_eq_true h1
      rcases hcand with ⟨n, hn, hq⟩ | ⟨j, hj, hq⟩
      · have hq1 : lwt cost (k + 1) = lwt cost k + n := congrArg Prod.fst hq
        have ez : (((k + 1 : Nat) : Int) - 1) = (k : Int) := by omega
        have hcost : (wantL keep cs (ns.getD k 0) k).map List.length = some n := by
          have : costL keep cs ns k = some n := by rw [ec]; exact hn
          exact this
        refine ⟨_, rfl, _, rfl, _, rfl, _, _, rfl, rfl, rfl, B, nk, keep, cs, c, kn, ns, k, (congrArg (fun z => [V.ref B.p, V.ref kn, V.int z]) ez), (up t3).2.1, (up t3).1, (up t3).2.2, hlen, by omega, hkp, fun hw0 => ?_, fun w hw0 rr ys H4 t4 ry => ?_⟩
        · rw [hw0] at hcost
          cases hcost
        · rw [hw0] at hcost
          have hn' : w.length = n := Option.some.inj hcost
          have hyl : ys.length = w.length := by rw [ry.length, List.length_map]
          have hw20 : w.length ≤ 20 := by
            have h1 := someL_len keep cs (ns.getD k 0) k
            have : w.length ≤ (someL keep cs (ns.getD k 0) k).length := by
              unfold wantL at hw0
              split at hw0
              · cases hw0
                exact Nat.zero_le _
              · exact wantS_len hw0
            omega
          have t5 := t3.trans (by simpa using t4.right (D := [(fnd, HO.lst xs), (q, HO.lst ((lev cost nk).2.map V.int))]))
          refine ⟨_, rfl, rr, fnd, _, _, rfl, rfl, t5.own.head, t5.own.tail.head, Nat.le_trans (show _ ≤ 1000 by omega) (by decide), fun f2 hf2 => ?_⟩
          have t6 := (t5.new (o := .lst (ys ++ xs)) hf2 nl).sub (C2 := [(f2, .lst (ys ++ xs)), (q, .lst ((lev cost nk).2.map V.int))]) (List.Sublist.cons_cons _ (List.Sublist.cons _ (List.Sublist.cons _ (List.Sublist.refl _))))
          refine ⟨_, rfl, _, _, rfl, rfl, k, by omega, (hW _ _ _).mpr ⟨k, f2, ys ++ xs, w ++ S, some (V.int (lbg cost (k + 1))), rfl, by omega, (congrArg (fun z => [some (V.ref B.p), some (V.ref kn), some (V.ref q), some (V.ref f2), some (V.int z), some (V.int (lbg cost (k + 1)))]) ez), t6, ?_, fun ls hls => ?_, ?_, ?_⟩⟩
          · rw [List.map_append]
            exact (ry.append (rx.mono t4.mono)).mono (Mono.new hf2)
          · rw [← List.append_assoc]
            exact hbr _ (.want hls hw0)
          · rw [wtL_app, wantL_wt hw0]
            omega
          · rw [List.length_append]
            omega
      · have : lbg cost (k + 1) = (j : Int) := congrArg Prod.snd hq
        omega
    · have h1' := ndec h1
      rcases hcand with ⟨n, hn, hq⟩ | ⟨j, hj, hq⟩
      · have : lbg cost (k + 1) = (0 : Int) - k - 1 := congrArg Prod.snd hq
        omega
      · have hq1 : lwt cost (k + 1) = lwt cost j + 2 + k + 1 - j := congrArg Prod.fst hq
        have hq2 : lbg cost (k + 1) = (j : Int) := congrArg Prod.snd hq
        rw [hq2]
        refine ⟨_, rfl, B.p, _, _, rfl, (up t3).2.1.at_p (up t3).1, bFno, _, rfl, _, rfl, rfl, B, nk, keep, cs, c, j, k + 1, rfl, (up t3).2.1, (up t3).1, hj, by omega, h8, fun v4 H4 g4 r4 => ⟨(by show 1 ≤ sizeLine; decide), fun l4 hl4 => ?_⟩⟩
        have t5 := (t3.grow g4).new (o := .lst [v4]) hl4 nl
        refine ⟨_, rfl, l4, fnd, _, _, rfl, rfl, t5.own.head, t5.own.tail.head, Nat.le_trans (show 1 + xs.length ≤ 1000 by omega) (by decide), fun f2 hf2 => ?_⟩
        have t6 := (t5.new (o := .lst ([v4] ++ xs)) hf2 nl).sub (C2 := [(f2, .lst ([v4] ++ xs)), (q, .lst ((lev cost nk).2.map V.int))]) (List.Sublist.cons_cons _ (List.Sublist.cons _ (List.Sublist.cons _ (List.Sublist.refl _))))
        refine ⟨_, rfl, j, by omega, (hW _ _ _).mpr ⟨j, f2, [v4] ++ xs, [partL cs cs.length j (k + 1)] ++ S, _, rfl, by omega, rfl, t6, ?_, fun ls hls => ?_, ?_, ?_⟩⟩
        · exact ((RpL.cons r4 (rx.mono g4.mono)).mono (Mono.new hl4)).mono (Mono.new hf2)
        · rw [← List.append_assoc]
          exact hbr _ (.part hls hj)
        · have hp1 : wtL [partL cs cs.length j (k + 1)] = 2 + (k + 1 - j) := by
            show (partL cs cs.length j (k + 1)).wt + 0 = _
            rw [partL_wt]
            rfl
          rw [wtL_app, hp1]
          omega
        · rw [List.length_append]
          show 1 + S.length + _ ≤ _
          omega
  · have h0' := ndec h0
    have : m = 0 := by omega
    subst this
    refine ⟨_, rfl, go fnd xs S H2 (t3.sub (List.Sublist.cons_cons _ (List.nil_sublist _))) rx ?_ ?_ (by omega)⟩
    · have := hbr [] .nil
      rwa [List.nil_append] at this
    · rw [lwt_zero] at hwt
      omega
end
end Cu

namespace Cu
open PySem PySem.Spec PyProof.Rows L2
/-! a hearer that is up to date -/
theorem KI.on {cs : List Ch} {k : Nat} {h : HK} (i : KI cs k h) (ds : List Ch) : KI (cs ++ ds) k h := by
  have hi := i.hi
  refine ⟨⟨i.lo, by rw [List.length_append]; omega, fun u hu => ?_, fun a ha => ?_, i.nd⟩, i.ahead⟩
  · rw [List.take_append_of_le_length (by omega)]
    exact i.ok u hu
  · obtain ⟨m, e1, e2, e3⟩ := i.as a ha
    have hm := (List.getElem?_eq_some_iff.mp e2).1
    exact ⟨m, e1, by rw [List.getElem?_append_left hm]; exact e2, by rw [List.take_append_of_le_length (Nat.le_of_lt hm)]; exact e3⟩
theorem AllI.on {nk : Nat} {cs : List Ch} {hs : List HK} (i : AllI nk cs hs) (ds : List Ch) : AllI nk (cs ++ ds) hs := ⟨i.1, fun k h e => (i.2 k h e).on ds⟩
theorem up_nil {cs : List Ch} {k : Nat} {h : HK} (i : KI cs k h) (hl : (lof cs k : Int) ≤ h.upto) : h.aside = [] := by
  cases ha : h.aside with
  | nil => rfl
  | cons a as =>
    exfalso
    have hm : a ∈ h.aside := by rw [ha]; exact List.mem_cons_self
    have q1 := i.ahead a hm
    obtain ⟨m, e1, e2, e3⟩ := i.as a hm
    have hml := (List.getElem?_eq_some_iff.mp e2).1
    have := lof_mono (cs := cs) (k := k) (show m ≤ cs.length by omega)
    rw [List.take_length] at this
    omega
theorem srt_nil : srt [] = [] := by simp [srt]
theorem free_nil {h : HK} (e : h.aside = []) : h.free = (h, []) := by
  unfold HK.free
  rw [e]
  show (srt []).foldl _ _ = _
  rw [srt_nil]
  rfl
theorem hearK_part_nil {k n b : Nat} {h : HK} {rows : List (Int × Nat)} (e : h.aside = []) : (hearK k h (.part n b rows)).2 = [] ∧ (hearK k h (.part n b rows)).1.aside = [] := by
  simp only [hearK]
  split
  · split
    · unfold HK.row
      split
      · rename_i r _ _
        rw [free_nil (h := { h with worth := r.1, since := r.2, upto := n }) e]
        exact ⟨rfl, e⟩
      · exact ⟨rfl, e⟩
    · exact ⟨rfl, e⟩
  · exact ⟨rfl, e⟩
theorem heard_nil {hs : List HK} {l : Letter} (h : ∀ (k : Nat) (g : HK), hs[k]? = some g → (hearK k g l).2 = []) : heard hs l = [] := by
  refine List.eq_nil_iff_forall_not_mem.mpr fun n hn => ?_
  obtain ⟨k, g, e, q⟩ := heard_mem hn
  rw [h k g e] at q
  cases q
/-- a change heard by one that is up to date -/
theorem change_now {nk : Nat} {cs : List Ch} {hs : List HK} {ch : Ch} (i : AllI nk cs hs) (up : ∀ (k : Nat) (h : HK), hs[k]? = some h → (lof cs k : Int) ≤ h.upto) (hk : ch.key < nk) :
    heard hs (.change (cs.length + 1) ch (lof cs ch.key)) = [((cs.length + 1 : Nat) : Int)] ∧ AllI nk (cs ++ [ch]) (hear hs (.change (cs.length + 1) ch (lof cs ch.key))) ∧
    (∀ (k : Nat) (h : HK), (hear hs (.change (cs.length + 1) ch (lof cs ch.key)))[k]? = some h → (lof (cs ++ [ch]) k : Int) ≤ h.upto ∧ (k = ch.key → h.upto = ((cs.length + 1 : Nat) : Int))) ∧
    ∀ (k : Nat) (g h : HK), hs[k]? = some g → (hear hs (.change (cs.length + 1) ch (lof cs ch.key)))[k]? = some h → g.upto ≤ h.upto := by
  have il : IsLet nk (cs ++ [ch]) (.change (cs.length + 1) ch (lof cs ch.key)) := by
    have := IsLet.change (nk := nk) (cs := cs ++ [ch]) (n := cs.length) (c := ch) (by simp)
    rwa [List.take_append_of_le_length (Nat.le_refl _), List.take_length] at this
  have i' := (i.on [ch]).hear il
  obtain ⟨g, eg⟩ : ∃ g, hs[ch.key]? = some g := ⟨hs[ch.key]'(by rw [i.1]; exact hk), List.getElem?_eq_getElem _⟩
  have ua := up_nil (i.2 _ g eg) (up _ g eg)
  have hi := (i.2 _ g eg).hi
  have hu := up _ g eg
  have ec : g.chg (cs.length + 1) ch (lof cs ch.key) = (g.done (cs.length + 1) ch.set ch.worth, [((cs.length + 1 : Nat) : Int)]) := by
    unfold HK.chg
    rw [if_neg (by omega), if_neg (by omega), free_nil (h := g.done (cs.length + 1) ch.set ch.worth) ua]
  obtain ⟨e1, e2⟩ := hear_change (n := cs.length + 1) (ahead := lof cs ch.key) eg
  rw [ec] at e1 e2
  have toldup : ∀ (k : Nat) (g h : HK), hs[k]? = some g → (hear hs (.change (cs.length + 1) ch (lof cs ch.key)))[k]? = some h → g.upto ≤ h.upto := fun k g h e1 e2 => by
    rw [hear_get e1] at e2
    cases e2
    exact ((i.on [ch]).told il e1).up
  refine ⟨e2, i', fun k h eh => ?_, toldup⟩
  rw [lof_snoc]
  by_cases q : ch.key = k
  · subst q
    rw [e1, List.getElem?_set_self (List.getElem?_eq_some_iff.mp eg).1] at eh
    cases eh
    rw [if_pos rfl]
    exact ⟨Int.le_refl _, fun _ => rfl⟩
  · rw [if_neg q]
    refine ⟨?_, fun z => absurd z.symm q⟩
    obtain ⟨g', eg', _⟩ := hear_inv eh
    exact Int.le_trans (up k g' eg') (toldup k g' h eg' eh)
theorem lwt_none {cost : Nat → Option Nat} : ∀ {n : Nat}, (∀ k, k < n → cost k = some 0) → lwt cost n = 0
  | 0, _ => rfl
  | n + 1, h => by
    have ih := lwt_none (cost := cost) (n := n) fun k hk => h k (by omega)
    have h1 := (lev_ok cost n).2.1 0 (h n (by omega))
    have h2 := lwt_nonneg cost (n + 1)
    omega
theorem wt_pos (l : Letter) : 0 < l.wt := by
  cases l with
  | part n b rows =>
    show 0 < 2 + rows.length
    omega
  | change n c a => exact Nat.one_pos
  | beat n ls => exact Nat.one_pos
theorem wtL_zero {ls : List Letter} (h : wtL ls = 0) : ls = [] := by
  cases ls with
  | nil => rfl
  | cons l ls =>
    have := wt_pos l
    have e : wtL (l :: ls) = l.wt + wtL ls := by simp [wtL]
    omega
/-- of one who is up to date nothing is wanted -/
theorem cost_none {keep : Nat} {cs : List Ch} {ns : List Int} {nk : Nat} (h : ∀ k, k < nk → (lof cs k : Int) ≤ ns.getD k 0) : lwt (costL keep cs ns) nk = 0 := lwt_none fun k hk => by
  unfold costL wantL
  rw [if_pos (h k hk)]
  rfl
theorem ups_getD {hs : List HK} {k : Nat} {h : HK} (e : hs[k]? = some h) : (hs.map fun h => h.upto).getD k 0 = h.upto := by
  rw [List.getD_eq_getElem?_getD, List.getElem?_map, e]
  rfl
theorem AllI.kn {nk : Nat} {cs : List Ch} {hs : List HK} (i : AllI nk cs hs) : Kn nk cs (hs.map fun h => h.upto) := by
  refine ⟨by rw [List.length_map]; exact i.1, fun n hn => ?_⟩
  obtain ⟨g, hg, rfl⟩ := List.mem_map.mp hn
  obtain ⟨k, ek⟩ := List.getElem?_of_mem hg
  exact ⟨(i.2 k g ek).lo, (i.2 k g ek).hi⟩
theorem flat_up {nk : Nat} {cs : List Ch} {hs : List HK} (i : AllI nk cs hs) (up : ∀ (k : Nat) (h : HK), hs[k]? = some h → (lof cs k : Int) ≤ h.upto) : (hs.map fun h => asN h.aside).flatten = [] := flat_nil fun x hx => by
  obtain ⟨g, hg, rfl⟩ := List.mem_map.mp hx
  obtain ⟨k, ek⟩ := List.getElem?_of_mem hg
  rw [up_nil (i.2 k g ek) (up k g ek)]
  rfl
theorem wf_up {nk : Nat} {cs : List Ch} {hs : List HK} (i : AllI nk cs hs) (up : ∀ (k : Nat) (h : HK), hs[k]? = some h → (lof cs k : Int) ≤ h.upto) : ∀ h ∈ hs, Wf h := fun h hh => by
  obtain ⟨k, ek⟩ := List.getElem?_of_mem hh
  refine ⟨(i.2 k h ek).nd, ?_⟩
  rw [up_nil (i.2 k h ek) (up k h ek)]
  decide
end Cu

namespace Cu
open PySem PySem.Spec PyProof.Rows L2
theorem RpL.erase {K : PySem.W.Frag} {H : Hp} {ds : List PyData} {vs : List V} (k : Nat) (h : RpL K H ds vs) : RpL K H (ds.eraseIdx k) (vs.eraseIdx k) := by
  rw [List.eraseIdx_eq_take_drop_succ, List.eraseIdx_eq_take_drop_succ]
  exact (h.take k).append (h.drop (k + 1))
theorem mem_erase {α : Type} {xs : List α} {k : Nat} {x y : α} (e : xs[k]? = some x) (h : y ∈ xs) : y = x ∨ y ∈ xs.eraseIdx k := by
  obtain ⟨i, hi⟩ := List.getElem?_of_mem h
  by_cases q : i = k
  · subst q
    rw [hi] at e
    exact .inl (Option.some.inj e)
  · exact .inr (List.mem_eraseIdx_iff_getElem?.mpr ⟨i, q, hi⟩)
theorem erase_mem {α : Type} {xs : List α} {k : Nat} {y : α} (h : y ∈ xs.eraseIdx k) : y ∈ xs := List.mem_of_mem_eraseIdx h
theorem seqIx {i : Int} {n : Nat} (h0 : 0 ≤ i) (h1 : i < n) : seqIndex? i n = some i.toNat := by
  have h : ixN n i = some i.toNat := by
    unfold ixN
    rw [if_pos h0, if_pos h1]
  exact (ixN_seq h).1
theorem erase_map {α β : Type} (f : α → β) (xs : List α) (k : Nat) : (xs.eraseIdx k).map f = (xs.map f).eraseIdx k := by
  rw [List.eraseIdx_eq_take_drop_succ, List.eraseIdx_eq_take_drop_succ, List.map_append, List.map_take, List.map_drop]
/-! letters told behind n0 changes: all the changes behind, and parts -/
structure Pool (nk n0 : Nat) (cs : List Ch) (ls : List Letter) : Prop where
  le : n0 ≤ cs.length
  lt : ∀ l ∈ ls, IsLet nk cs l ∧ Fresh n0 l
  all : ∀ (m : Nat) (c : Ch), n0 ≤ m → cs[m]? = some c → Letter.change (m + 1) c (lof (cs.take m) c.key) ∈ ls
def Covd (n0 : Nat) (cs : List Ch) (ls : List Letter) (p : Nat × Nat) : Prop := ∃ n, n0 ≤ n ∧ n ≤ cs.length ∧ partL cs n p.1 p.2 ∈ ls
section
variable {nk n0 : Nat} {cs : List Ch} {ls : List Letter}
theorem Pool.ini (cs : List Ch) : Pool nk cs.length cs [] := ⟨Nat.le_refl _, fun _ h => (nomatch h), fun m c h e => by
  have := (List.getElem?_eq_some_iff.mp e).1
  omega⟩
theorem Pool.change (p : Pool nk n0 cs ls) (ch : Ch) : Pool nk n0 (cs ++ [ch]) (ls ++ [.change (cs.length + 1) ch (lof cs ch.key)]) := by
  have h0 := p.le
  refine ⟨by rw [List.length_append]; omega, fun l hl => ?_, fun m c hm e => ?_⟩
  · rcases List.mem_append.mp hl with hl | hl
    · exact ⟨(p.lt l hl).1.on, (p.lt l hl).2⟩
    · rw [List.mem_singleton.mp hl]
      refine ⟨?_, by show n0 < cs.length + 1; omega⟩
      have := IsLet.change (nk := nk) (cs := cs ++ [ch]) (n := cs.length) (c := ch) (by simp)
      rwa [List.take_append_of_le_length (Nat.le_refl _), List.take_length] at this
  · by_cases h : m < cs.length
    · rw [List.getElem?_append_left h] at e
      rw [List.take_append_of_le_length (Nat.le_of_lt h)]
      exact List.mem_append_left _ (p.all m c hm e)
    · have hm' := (List.getElem?_eq_some_iff.mp e).1
      rw [List.length_append, List.length_singleton] at hm'
      have : m = cs.length := by omega
      subst this
      rw [List.take_append_of_le_length (Nat.le_refl _), List.take_length]
      have : c = ch := by simpa using e.symm
      subst this
      exact List.mem_append_right _ (List.mem_singleton_self _)
theorem Pool.part (p : Pool nk n0 cs ls) {b e : Nat} (h1 : b < e) (h2 : e ≤ nk) : Pool nk n0 cs (ls ++ [partL cs cs.length b e]) := by
  refine ⟨p.le, fun l hl => ?_, fun m c hm e => List.mem_append_left _ (p.all m c hm e)⟩
  rcases List.mem_append.mp hl with hl | hl
  · exact p.lt l hl
  · rw [List.mem_singleton.mp hl]
    exact ⟨.part (Nat.le_refl _) h1 h2, p.le⟩
theorem Pool.more (p : Pool nk n0 cs ls) {ms : List Letter} (h : ∀ l ∈ ms, l ∈ ls) : Pool nk n0 cs (ls ++ ms) :=
  ⟨p.le, fun l hl => p.lt l ((List.mem_append.mp hl).elim id (h l)), fun m c hm e => List.mem_append_left _ (p.all m c hm e)⟩
theorem Covd.on {p : Nat × Nat} (h : Covd n0 cs ls p) (ds : List Ch) (ms : List Letter) : Covd n0 (cs ++ ds) (ls ++ ms) p := by
  obtain ⟨n, h1, h2, h3⟩ := h
  exact ⟨n, h1, by rw [List.length_append]; omega, by rw [partL_on h2]; exact List.mem_append_left _ h3⟩
theorem Covd.on1 {p : Nat × Nat} (h : Covd n0 cs ls p) (ms : List Letter) : Covd n0 cs (ls ++ ms) p := by
  have := h.on [] ms
  rwa [List.append_nil] at this
theorem pool_end {hs : List HK} (i : AllI nk cs hs) (pl : Pool nk n0 cs ls) (cov : ∀ k, k < nk → ∃ p : Nat × Nat, (p.1 ≤ k ∧ k < p.2) ∧ Covd n0 cs ls p) (got : ∀ l ∈ ls, ∀ (k : Nat) (h : HK), hs[k]? = some h → Got k l h) :
    ∀ (k : Nat) (h : HK), hs[k]? = some h → h.aside = [] ∧ (lof cs k : Int) ≤ h.upto ∧ 0 ≤ h.upto := fun k h eh => by
  have hk : k < nk := by
    have := (List.getElem?_eq_some_iff.mp eh).1
    have := i.1
    omega
  obtain ⟨p, hp, n, h1, h2, h3⟩ := cov k hk
  have h4 : (n : Int) ≤ h.upto := got _ h3 k h eh hp.1 (by
    rw [partRows, List.length_map, List.length_range]
    omega)
  obtain ⟨q1, q2⟩ := got_end (n0 := n0) (i.2 k h eh) (by omega) fun m c em ek hm => by
    have q : ((m + 1 : Nat) : Int) ≤ h.upto ∨ (c.set = false ∧ ((m + 1 : Nat) : Int) ∈ asN h.aside) := got _ (pl.all m c (by omega) em) k h eh ek
    exact q.imp id And.right
  exact ⟨q1, q2, by omega⟩
theorem Dp.nil' {K : PySem.W.Frag} {H : Hp} {a : Addr} (h : FzL K H a []) : Dp K H (.ref a) (.list []) := .lst h.sq .nil
theorem held_nil {hs : List HK} (h : ∀ (k : Nat) (g : HK), hs[k]? = some g → g.aside = []) : heldM hs = [] := by
  refine List.eq_nil_iff_forall_not_mem.mpr fun n hn => ?_
  have hn := (srt_perm _).mem_iff.mp hn
  obtain ⟨x, hx, hn⟩ := List.mem_flatten.mp hn
  obtain ⟨g, hg, rfl⟩ := List.mem_map.mp hx
  obtain ⟨k, ek⟩ := List.getElem?_of_mem hg
  rw [h k g ek] at hn
  cases hn
end
end Cu

namespace Cu
open PySem PySem.Spec PyProof.Rows L2
/-! letters that bring a hearer up -/
theorem letsP (cs : List Ch) : (lets cs).Pairwise fun a b => a.numOf < b.numOf := by
  induction cs using snoc_ind with
  | h0 => exact List.Pairwise.nil
  | h1 cs c ih =>
    rw [lets_snoc]
    refine List.pairwise_append.mpr ⟨ih, List.pairwise_singleton _ _, fun a ha b hb => ?_⟩
    rw [List.mem_singleton] at hb
    subst hb
    obtain ⟨m, d, e, rfl⟩ := lets_mem ha
    have := (List.getElem?_eq_some_iff.mp e).1
    show m + 1 < cs.length + 1
    omega
theorem someL_pw (keep : Nat) (cs : List Ch) (u : Int) (k : Nat) : (someL keep cs u k).Pairwise fun a b => a.numOf < b.numOf := ((letsP cs).sublist (List.drop_sublist _ _)).filter _
/-- a change of the key behind one that is kept is kept, too -/
theorem someL_in {keep : Nat} {cs : List Ch} {u : Int} {k m j : Nat} {c : Ch} {l : Letter} (hl : l ∈ someL keep cs u k) (hm : l.numOf = m + 1) (hj : cs[j]? = some c) (hk : c.key = k) (hmj : m ≤ j) (hu : u < ((j + 1 : Nat) : Int)) :
    Letter.change (j + 1) c (lof (cs.take j) c.key) ∈ someL keep cs u k := by
  obtain ⟨h1, h2⟩ := List.mem_filter.mp hl
  refine List.mem_filter.mpr ⟨?_, ?_⟩
  · obtain ⟨i, hi⟩ := List.getElem?_of_mem h1
    unfold tailL at hi ⊢
    rw [List.getElem?_drop] at hi
    have hil := (List.getElem?_eq_some_iff.mp hi).1
    rw [lets_length] at hil
    rw [lets_get (List.getElem?_eq_getElem hil)] at hi
    have e := Option.some.inj hi
    subst e
    have hmi : cs.length - keep + i + 1 = m + 1 := hm
    refine List.mem_of_getElem? (i := j - (cs.length - keep)) ?_
    rw [List.getElem?_drop, show cs.length - keep + (j - (cs.length - keep)) = j by omega]
    exact lets_get hj
  · rw [Bool.and_eq_true]
    exact ⟨decide_eq_true hk, decide_eq_true hu⟩
theorem pw_drop {sm : List Letter} {i : Nat} {l l' : Letter} (pw : sm.Pairwise fun a b => a.numOf < b.numOf) (hi : sm[i]? = some l) (hm : l' ∈ sm) (h : l.numOf < l'.numOf) : l' ∈ sm.drop i := by
  obtain ⟨j, hj⟩ := List.getElem?_of_mem hm
  have hjl := (List.getElem?_eq_some_iff.mp hj).1
  have hil := (List.getElem?_eq_some_iff.mp hi).1
  by_cases q : i ≤ j
  · refine List.mem_of_getElem? (i := j - i) ?_
    rw [List.getElem?_drop, show i + (j - i) = j by omega]
    exact hj
  · have := (List.pairwise_iff_getElem.mp pw) j i hjl hil (by omega)
    rw [(List.getElem?_eq_some_iff.mp hj).2, (List.getElem?_eq_some_iff.mp hi).2] at this
    omega
/-- what a want gives: a number from which on all is wanted -/
theorem want_base {keep : Nat} {cs : List Ch} {u : Int} {k : Nat} {w : List Letter} (hu : -1 ≤ u) (h : wantL keep cs u k = some w) :
    ∃ n0 : Nat, (((n0 : Int) ≤ u) ∨ ∃ c a, Letter.change n0 c a ∈ w ∧ c.key = k ∧ c.set = true) ∧ n0 ≤ max cs.length u.toNat ∧
      ∀ (j : Nat) (c : Ch), cs[j]? = some c → c.key = k → n0 < j + 1 → Letter.change (j + 1) c (lof (cs.take j) c.key) ∈ w := by
  unfold wantL at h
  by_cases h0 : (lof cs k : Int) ≤ u
  · refine ⟨u.toNat, .inl (by omega), Nat.le_max_right _ _, fun j c hj hk hn => ?_⟩
    have hjl := (List.getElem?_eq_some_iff.mp hj).1
    have := lof_ge (j := cs.length) hj hk hjl
    rw [List.take_length] at this
    omega
  · rw [if_neg h0] at h
    rcases List.eq_nil_or_concat (setsL (someL keep cs u k)) with es | ⟨ini, i, es⟩
    · rw [wantS_no es] at h
      split at h
      · rename_i hf
        cases h
        cases hsm : someL keep cs u k with
        | nil =>
          rw [hsm] at hf
          cases hf
        | cons l0 ls =>
          rw [hsm] at hf
          have hf : (l0.ahd : Int) ≤ u := of_decide_eq_true hf
          have hl0 : l0 ∈ someL keep cs u k := by rw [hsm]; exact List.mem_cons_self
          obtain ⟨m, c0, e0, rfl⟩ := tailL_mem (filter_sub_mem hl0)
          have hk0 : c0.key = k := of_decide_eq_true (Bool.and_eq_true _ _ ▸ (List.mem_filter.mp hl0).2).1
          have hf : (lof (cs.take m) c0.key : Int) ≤ u := hf
          refine ⟨u.toNat, .inl (by omega), Nat.le_max_right _ _, fun j c hj hk hn => ?_⟩
          rw [← hsm]
          refine someL_in hl0 (m := m) rfl hj hk ?_ (by omega)
          by_cases q : m ≤ j
          · exact q
          · have := lof_ge (j := m) hj hk (by omega)
            rw [hk0] at hf
            omega
      · cases h
    · rw [List.concat_eq_append] at es
      rw [wantS_set es] at h
      cases h
      have hi : i ∈ setsL (someL keep cs u k) := by rw [es]; simp
      obtain ⟨h1, h2⟩ := List.mem_filter.mp hi
      have h1 := List.mem_range.mp h1
      obtain ⟨l, el⟩ : ∃ l, (someL keep cs u k)[i]? = some l := ⟨(someL keep cs u k)[i], List.getElem?_eq_getElem h1⟩
      have hl := List.mem_of_getElem? el
      obtain ⟨m, c0, e0, rfl⟩ := tailL_mem (filter_sub_mem hl)
      have hk0 : c0.key = k := of_decide_eq_true (Bool.and_eq_true _ _ ▸ (List.mem_filter.mp hl).2).1
      have hu0 : u < ((m + 1 : Nat) : Int) := of_decide_eq_true (Bool.and_eq_true _ _ ▸ (List.mem_filter.mp hl).2).2
      have hs0 : c0.set = true := by
        rw [el] at h2
        have h2 : (some c0.set == some true) = true := h2
        simpa using h2
      have hml := (List.getElem?_eq_some_iff.mp e0).1
      refine ⟨m + 1, .inr ⟨c0, lof (cs.take m) c0.key, ?_, hk0, hs0⟩, by omega, fun j c hj hk hn => ?_⟩
      · refine List.mem_of_getElem? (i := 0) ?_
        rw [List.getElem?_drop]
        exact el
      · exact pw_drop (someL_pw keep cs u k) el (someL_in hl (m := m) rfl hj hk (by omega) (by omega)) (by show m + 1 < j + 1; omega)
theorem Brings.cover {keep : Nat} {cs : List Ch} {ns : List Int} {e : Nat} {ls : List Letter} (h : Brings keep cs ns e ls) : ∀ k, k < e → (∃ b e', b ≤ k ∧ k < e' ∧ partL cs cs.length b e' ∈ ls) ∨ ∃ w, wantL keep cs (ns.getD k 0) k = some w ∧ ∀ l ∈ w, l ∈ ls := by
  induction h with
  | nil => exact fun k hk => absurd hk (Nat.not_lt_zero k)
  | @want e ls w _ hw ih =>
    intro k hk
    by_cases q : k = e
    · subst q
      exact .inr ⟨w, hw, fun l hl => List.mem_append_right _ hl⟩
    · rcases ih k (by omega) with ⟨b, e', h1, h2, h3⟩ | ⟨w', h1, h2⟩
      · exact .inl ⟨b, e', h1, h2, List.mem_append_left _ h3⟩
      · exact .inr ⟨w', h1, fun l hl => List.mem_append_left _ (h2 l hl)⟩
  | @part b e ls _ hbe ih =>
    intro k hk
    by_cases q : b ≤ k
    · exact .inl ⟨b, e, q, hk, List.mem_append_right _ (List.mem_singleton_self _)⟩
    · rcases ih k (by omega) with ⟨b', e', h1, h2, h3⟩ | ⟨w', h1, h2⟩
      · exact .inl ⟨b', e', h1, h2, List.mem_append_left _ h3⟩
      · exact .inr ⟨w', h1, fun l hl => List.mem_append_left _ (h2 l hl)⟩
/-- what brings up brings up, with all the changes behind -/
theorem bring_up {nk keep : Nat} {cs ds : List Ch} {ns : List Int} {ls ms : List Letter} {hs : List HK} (i : AllI nk (cs ++ ds) hs) (br : Brings keep cs ns nk ls) (kn : Kn nk cs ns) (hns : ∀ (k : Nat) (h : HK), hs[k]? = some h → ns.getD k 0 ≤ h.upto)
    (hls : ∀ l ∈ ls, l ∈ ms) (hds : ∀ (j : Nat) (c : Ch), cs.length ≤ j → (cs ++ ds)[j]? = some c → Letter.change (j + 1) c (lof ((cs ++ ds).take j) c.key) ∈ ms)
    (got : ∀ l ∈ ms, ∀ (k : Nat) (h : HK), hs[k]? = some h → Got k l h) : ∀ (k : Nat) (h : HK), hs[k]? = some h → (lof (cs ++ ds) k : Int) ≤ h.upto := fun k h eh => by
  have hk : k < nk := by
    have := (List.getElem?_eq_some_iff.mp eh).1
    have := i.1
    omega
  have hkn : k < ns.length := by rw [kn.len]; exact hk
  have hb := kn.bd _ (getD_mem hkn)
  have old : ∀ (j : Nat) (c : Ch), (cs ++ ds)[j]? = some c → j < cs.length → cs[j]? = some c ∧ (cs ++ ds).take j = cs.take j := fun j c e hj => by
    rw [List.getElem?_append_left hj] at e
    exact ⟨e, List.take_append_of_le_length (Nat.le_of_lt hj)⟩
  have gchg : ∀ (j : Nat) (c : Ch) (a : Nat), Letter.change (j + 1) c a ∈ ms → c.key = k → ((j + 1 : Nat) : Int) ≤ h.upto ∨ ((j + 1 : Nat) : Int) ∈ asN h.aside := fun j c a hm hck => by
    have q : ((j + 1 : Nat) : Int) ≤ h.upto ∨ (c.set = false ∧ ((j + 1 : Nat) : Int) ∈ asN h.aside) := got _ hm k h eh hck
    exact q.imp id And.right
  have fin : ∀ n0 : Nat, (n0 : Int) ≤ h.upto → (∀ (j : Nat) (c : Ch), cs[j]? = some c → c.key = k → n0 < j + 1 → Letter.change (j + 1) c (lof (cs.take j) c.key) ∈ ms) → (lof (cs ++ ds) k : Int) ≤ h.upto := fun n0 h0 hw =>
    (got_end (n0 := n0) (i.2 k h eh) h0 fun j c ej ek hj => by
      by_cases q : j < cs.length
      · obtain ⟨e1, e2⟩ := old j c ej q
        exact gchg j c _ (hw j c e1 ek hj) ek
      · exact gchg j c _ (hds j c (by omega) ej) ek).2
  rcases br.cover k hk with ⟨b, e', h1, h2, h3⟩ | ⟨w, hw, hwl⟩
  · have h4 : (cs.length : Int) ≤ h.upto := got _ (hls _ h3) k h eh h1 (by
      rw [partRows, List.length_map, List.length_range]
      omega)
    refine fin cs.length h4 fun j c ej ek hj => ?_
    have := (List.getElem?_eq_some_iff.mp ej).1
    omega
  · obtain ⟨n0, hn0, _, hall⟩ := want_base hb.1 hw
    refine fin n0 ?_ fun j c ej ek hj => hls _ (hwl _ (hall j c ej ek hj))
    rcases hn0 with q | ⟨c, a, q1, q2, q3⟩
    · exact Int.le_trans q (hns k h eh)
    · have q : ((n0 : Nat) : Int) ≤ h.upto ∨ (c.set = false ∧ ((n0 : Nat) : Int) ∈ asN h.aside) := got _ (hls _ (hwl _ q1)) k h eh q2
      rcases q with q | q
      · exact q
      · rw [q3] at q
        cases q.1
theorem Brings.lets {nk keep : Nat} {cs : List Ch} {ns : List Int} {e : Nat} {ls : List Letter} (h : Brings keep cs ns e ls) : e ≤ nk → ∀ l ∈ ls, IsLet nk cs l := by
  induction h with
  | nil => exact fun _ _ q => (nomatch q)
  | @want e ls w _ hw ih =>
    intro he l hl
    rcases List.mem_append.mp hl with hl | hl
    · exact ih (by omega) l hl
    · obtain ⟨m, c, e1, rfl⟩ := tailL_mem (filter_sub_mem (wantL_mem hw l hl))
      exact .change e1
  | @part b e ls _ hbe ih =>
    intro he l hl
    rcases List.mem_append.mp hl with hl | hl
    · exact ih (by omega) l hl
    · rw [List.mem_singleton.mp hl]
      exact .part (Nat.le_refl _) hbe he
theorem bring_up0 {nk keep : Nat} {cs : List Ch} {ns : List Int} {ls ms : List Letter} {hs : List HK} (i : AllI nk cs hs) (br : Brings keep cs ns nk ls) (kn : Kn nk cs ns) (hns : ∀ (k : Nat) (h : HK), hs[k]? = some h → ns.getD k 0 ≤ h.upto)
    (hls : ∀ l ∈ ls, l ∈ ms) (got : ∀ l ∈ ms, ∀ (k : Nat) (h : HK), hs[k]? = some h → Got k l h) : ∀ (k : Nat) (h : HK), hs[k]? = some h → (lof cs k : Int) ≤ h.upto := fun k h eh => by
  have := bring_up (ds := []) (i.on []) br kn hns hls (fun j c hj e => by
    rw [List.append_nil] at e
    have := (List.getElem?_eq_some_iff.mp e).1
    omega) got k h eh
  rwa [List.append_nil] at this
end Cu

namespace Cu
open PySem PySem.Spec PyProof.Rows L2
/-- what hearing some letters of a story does -/
structure Heard (nk : Nat) (cs : List Ch) (ms : List Letter) (hs hs' : List HK) : Prop where
  ai : AllI nk cs hs'
  got : ∀ l ∈ ms, ∀ (k : Nat) (h : HK), hs'[k]? = some h → Got k l h
  up : ∀ (k : Nat) (g h : HK), hs[k]? = some g → hs'[k]? = some h → g.upto ≤ h.upto
  keep : ∀ l : Letter, (∀ (k : Nat) (h : HK), hs[k]? = some h → Got k l h) → ∀ (k : Nat) (h : HK), hs'[k]? = some h → Got k l h
theorem Heard.ini {nk : Nat} {cs : List Ch} {hs : List HK} (i : AllI nk cs hs) : Heard nk cs [] hs hs := ⟨i, fun _ h => (nomatch h), fun k g h e1 e2 => by rw [e1] at e2; cases e2; exact Int.le_refl _, fun _ h => h⟩
theorem Heard.step {nk : Nat} {cs : List Ch} {ms : List Letter} {hs hs' : List HK} {l : Letter} (h : Heard nk cs ms hs hs') (hl : IsLet nk cs l) : Heard nk cs (ms ++ [l]) hs (hear hs' l) := by
  have kp : ∀ x : Letter, (∀ (k : Nat) (g : HK), hs'[k]? = some g → Got k x g) → ∀ (k : Nat) (g : HK), (hear hs' l)[k]? = some g → Got k x g := fun x hx k g e => by
    obtain ⟨g0, e0, rfl⟩ := hear_inv e
    exact got_keep (h.ai.2 k g0 e0) (by have := (List.getElem?_eq_some_iff.mp e0).1; have := h.ai.1; omega) hl (hx k g0 e0)
  refine ⟨h.ai.hear hl, fun x hx => ?_, fun k g0 g e1 e2 => ?_, fun x hx => kp x (h.keep x hx)⟩
  · rcases List.mem_append.mp hx with hx | hx
    · exact kp x (h.got x hx)
    · rw [List.mem_singleton.mp hx]
      intro k g e
      obtain ⟨g0, e0, rfl⟩ := hear_inv e
      exact got_self k g0 l
  · obtain ⟨g1, e3, rfl⟩ := hear_inv e2
    exact Int.le_trans (h.up k g0 g1 e1 e3) (h.ai.told hl e3).up
theorem Heard.trans {nk : Nat} {cs : List Ch} {ms ns : List Letter} {h0 h1 h2 : List HK} (a : Heard nk cs ms h0 h1) (b : Heard nk cs ns h1 h2) : Heard nk cs (ms ++ ns) h0 h2 := by
  refine ⟨b.ai, fun x hx => ?_, fun k g h e1 e2 => ?_, fun x hx => b.keep x (a.keep x hx)⟩
  · rcases List.mem_append.mp hx with hx | hx
    · exact b.keep x (a.got x hx)
    · exact b.got x hx
  · obtain ⟨g1, e3⟩ : ∃ g1, h1[k]? = some g1 := ⟨h1[k]'(by have := (List.getElem?_eq_some_iff.mp e2).1; have := a.ai.1; have := b.ai.1; omega), List.getElem?_eq_getElem _⟩
    exact Int.le_trans (a.up k g g1 e1 e3) (b.up k g1 h e3 e2)
theorem heard_all {nk : Nat} {cs : List Ch} {hs : List HK} (i : AllI nk cs hs) : ∀ {ms : List Letter}, (∀ l ∈ ms, IsLet nk cs l) → Heard nk cs ms hs (ms.foldl hear hs) := fun {ms} => by
  induction ms using snoc_ind with
  | h0 => exact fun _ => Heard.ini i
  | h1 ms l ih =>
    intro h
    rw [List.foldl_append]
    exact (ih fun x hx => h x (List.mem_append_left _ hx)).step (h l (List.mem_append_right _ (List.mem_singleton_self _)))
section
variable {K : PySem.W.Frag} {C : Addr} {A : HA} {nk : Nat} {cs : List Ch}
/-- for letter in p: hearer.hear(letter) -/
theorem for_hear {D : Ends} {σ : L2.St} {H : Hp} {i j : Nat} {p : Addr} {ys : List V} {ms : List Letter} {hs : List HK} {k1 R : Lg} (hj : j < σ.length) (hi : ∀ v : Option V, (σ.set j v)[i]? = some (some (.ref A.p)))
    (hh : Has H ((p, .lst ys) :: (k1 ++ R))) (ry : RpL K H (ms.map Letter.enc) ys) (hr : HR K C A hs H k1) (ai : AllI nk cs hs) (hk8 : nk ≤ 8) (hcl : cs.length < 122) (hck : ∀ c ∈ cs, c.key < nk) (hms : ∀ l ∈ ms, IsLet nk cs l)
    (go : ∀ (v : Option V) (k1' : Lg) (H' : Hp), Tr H k1 H' k1' → HR K C A (ms.foldl hear hs) H' k1' → D.nx (σ.set j v) H') :
    ∃ W : Nat → Nat → L2.St → Hp → Prop, (∃ m, W 0 m σ H) ∧ ∀ i' m σ H, W i' m σ H →
      ((Itl K p).stop i' H ∧ D.nx σ H) ∨ ((Itl K p).go i' H ∧ ∃ N : L2.St → Hp → Prop, (∀ σ' H', N σ' H' → ∃ m', m' < m ∧ W (i' + 1) m' σ' H') ∧ ∀ x H', (Itl K p).yld i' H x H' → gName j x σ H' fun σ2 H2 =>
        tDrop (tMeth C "hear" (spHear K C) [] E0 (tVar i) (tCons (tVar j) tNil)) { D with nx := N, ct := N, bk := D.nx } σ2 H2) := by
  have hyl : ys.length = ms.length := by rw [ry.length, List.length_map]
  refine for_list (K := K) (a := p) (xs := ys) (fun n σ' H' => ∃ (v : Option V) (k1' : Lg), σ' = σ.set j v ∧ Tr H k1 H' k1' ∧ HR K C A ((ms.take n).foldl hear hs) H' k1')
    ⟨σ[j], k1, (List.set_getElem_self hj).symm, Tr.refl H k1, hr⟩ (fun n σ' H' _ ⟨_, _, _, t, _⟩ => SqL.of (((t.right (D := R)).left (D := [(p, .lst ys)])).now hh).head) ?_ ?_
  · rintro n x σ' H' hn ⟨v, k1', rfl, t, hr'⟩
    have hd := heard_all ai (ms := ms.take n) fun l hl => hms l (List.mem_of_mem_take hl)
    have e' : (ms.take (n + 1)).foldl hear hs = hear ((ms.take n).foldl hear hs) (ms[n]'(by have := (List.getElem?_eq_some_iff.mp hn).1; omega)) := by
      rw [take_snoc (List.getElem?_eq_getElem (by have := (List.getElem?_eq_some_iff.mp hn).1; omega)), List.foldl_append]
      rfl
    have hn' : n < ms.length := by
      have := (List.getElem?_eq_some_iff.mp hn).1
      omega
    obtain ⟨l, el, ell⟩ : ∃ l, ms[n]? = some l ∧ ms[n] = l := ⟨ms[n], List.getElem?_eq_getElem hn', rfl⟩
    rw [ell] at e'
    generalize (ms.take n).foldl hear hs = hs' at *
    obtain ⟨x', ex, rx⟩ := (ry.mono t.mono).get (i := n) (d := l.enc) (by rw [List.getElem?_map, el]; rfl)
    rw [hn] at ex
    cases ex
    have il := hms l (List.mem_of_getElem? el)
    have hk : Has H' k1' := (show Has H' (k1' ++ R) from (((t.right (D := R)).left (D := [(p, .lst ys)])).now hh).tail).left
    show tDrop _ _ ((σ.set j v).set j (some x)) H'
    rw [List.set_set]
    refine ⟨_, hi (some x), A.p, _, _, rfl, hr'.at_p hk, hFno, x, ?_, rfl, A, hs', k1', x, l, rfl, hr', hk, rx, by rw [hd.ai.1]; exact hk8, hd.ai.wf hcl, let_ok hck hd.ai.1 il, fun f1 k2 H2 hr2 t2 => ?_⟩
    · rw [List.getElem?_set_self hj]
    · refine ⟨some x, k2, rfl, (t.trans t2).tail, ?_⟩
      rw [e']
      exact hr2
  · rintro σ' H' ⟨v, k1', rfl, t, hr'⟩
    rw [List.take_of_length_le (by omega)] at hr'
    exact go v k1' H' t hr'
end
end Cu

namespace Cu
open PySem PySem.Spec PyProof.Rows L2
abbrev s_mixed : Stmt := (top 25)
theorem sc_mixed : FnScope ["_law_d", "_law_row", "_law_left", "_law_found"] ["_law_d", "_law_row"] (defScope s_mixed) := ⟨rfl, rfl, rfl, by decide +kernel, rfl, by decide +kernel, by decide +kernel⟩

def spShuf (K : PySem.W.Frag) : Sp := fun vs H Q _ => vs.length = 2 ∧ ∃ (a rw_ : Addr) (ls : List Letter) (xs : List V) (R : Lg), vs = [.ref a, .ref rw_] ∧ Dice K H a R ∧ SqL K H rw_ xs ∧ RpL K H (ls.map Letter.enc) xs ∧ ls.length ≤ 1000 ∧
  ∀ (p : Addr) (ys : List V) (ms : List Letter) (H' : Hp), Mono H H' → Dice K H' a ((p, .lst ys) :: R) → RpL K H' (ms.map Letter.enc) ys → ms.length = ls.length → (∀ l ∈ ls, l ∈ ms) → (∀ l ∈ ms, l ∈ ls) → Q (.ref p) H'
section
variable {P : Program} {w : World} {K : PySem.W.Frag} {mg : Str → Option Value} {base : Heap}
theorem ok_mixed (F : Fd K mg "_law_mixed" s_mixed) (Bm : Blt mg) (g_next : Gf P w K mg base 1 "_law_next" ["_law_dice_here", "_law_many"] (spNext K)) : Gf P w K mg base 2 "_law_mixed" ["_law_d", "_law_row"] (spShuf K) := by
  refine F.ok sc_mixed (fun _ _ _ _ _ _ us hl => match us, hl with | [_, _], _ => rfl) len_of fun qual f cdv A outer s H vs Q E hr h => ?_
  obtain ⟨_, a, rw_, ls, xs, R, rfl, d, sq, rx, hlen, go⟩ := h
  refine ⟨_, (pss_cons (ps_par (i := 2) (j := 3) rfl sc_mixed.nd rfl rfl (by decide) rfl rfl (pa_cons (pe_callTy call_list_of rfl Bm.list (by decide +kernel) (pa_cons (pv 1) pa_nil)) (pa_cons (pe_lst pa_nil) pa_nil)) rfl)
      (pss_cons (ps_while PassesOwn.never (pt_cmpR (op_neD hr.units) (pv 2) (pe_lst pa_nil) (nomark _))
        (pss_one (ps_expr (pe_bm PySem.F.plainAttrs_list PySem.F.slot_list_append PySem.F.type_list_append mt_append (pv 3) (pa_cons (pe_bm PySem.F.plainAttrs_list PySem.F.slot_list_pop PySem.F.type_list_pop mt_popAt (pv 2) (pa_cons (pc g_next hr (pa_cons (pv 0) (pa_cons (pe_callB call_len_seq rfl Bm.len (by decide +kernel) (pa_cons (pv 2) pa_nil)) pa_nil))) pa_nil)) pa_nil)))))
      (pss_one (ps_ret (pv 3))))), ?_⟩
  refine ⟨_, rfl, rw_, xs, rfl, .inl sq, fun p hp => ⟨(by show 0 ≤ sizeLine; decide), fun p2 hp2 => ⟨_, _, rfl, ?_⟩⟩⟩
  have d1 := (d.new (o := .lst xs) hp nl).new (o := .lst []) hp2 nl
  have m1 := (Mono.new (o := .lst xs) hp).trans (Mono.new (o := .lst []) hp2)
  obtain ⟨W, hW⟩ : ∃ W : Nat → L2.St → Hp → Prop, ∀ m σ H3, W m σ H3 ↔ ∃ (rs ms : List Letter) (xs ys : List V), m = rs.length ∧ σ = [some (.ref a), some (.ref rw_), some (.ref p), some (.ref p2)] ∧ Mono H H3 ∧ Dice K H3 a ((p2, .lst ys) :: (p, .lst xs) :: R) ∧
      RpL K H3 (rs.map Letter.enc) xs ∧ RpL K H3 (ms.map Letter.enc) ys ∧ rs.length + ms.length = ls.length ∧ (∀ l ∈ ls, l ∈ rs ∨ l ∈ ms) ∧ (∀ l, l ∈ rs ∨ l ∈ ms → l ∈ ls) := ⟨_, fun _ _ _ => Iff.rfl⟩
  refine ⟨W, ⟨ls.length, (hW _ _ _).mpr ⟨ls, [], xs, [], rfl, rfl, m1, d1, rx.mono m1, .nil, rfl, fun l hl => .inl hl, fun l hl => hl.resolve_right fun h => (nomatch h)⟩⟩, fun m σ H3 hw2 => ?_⟩
  obtain ⟨rs, ms, xs, ys, rfl, rfl, m4, d4, rx, ry, hl, hin, hout⟩ := (hW _ _ _).mp hw2
  have hx : xs.length = rs.length := by rw [rx.length, List.length_map]
  have hy : ys.length = ms.length := by rw [ry.length, List.length_map]
  refine ⟨_, rfl, (by show 0 ≤ sizeLine; decide), fun e he => ?_⟩
  have d5 := d4.old (o := .lst []) he
  have rx5 := rx.mono (Mono.new (o := .lst []) he)
  have ry5 := ry.mono (Mono.new (o := .lst []) he)
  refine ⟨.list (rs.map Letter.enc), .list [], .lst (SqL.of d5.has.tail.head) rx5.dp, Dp.nil upd_same, (Gd.letters rs).shaped, (Gd.nil (n := 0)).shaped, _, rfl, ?_⟩
  rw [eqv_nil]
  cases rs with
  | nil =>
    refine iteM (by decide) ?_
    refine ⟨_, rfl, ?_⟩
    have sw : ((p2, HO.lst ys) :: (p, HO.lst xs) :: R).Perm ((p, HO.lst xs) :: (p2, HO.lst ys) :: R) := List.Perm.swap _ _ _
    exact go p2 ys ms _ (m4.trans (Mono.new he)) (d5.perm sw).tail ry5 (by simpa using hl) (fun l hl => (hin l hl).resolve_left fun h => (nomatch h)) fun l hl => hout l (.inr hl)
  | cons q0 rs0 =>
    generalize hpp : q0 :: rs0 = rs at *
    have hne : 0 < rs.length := by rw [← hpp]; exact Nat.succ_pos _
    refine iteP (by rw [← hpp]; rfl) ?_
    refine ⟨fun σ' H' => ∃ m', m' < rs.length ∧ W m' σ' H', fun _ _ h => h, ?_⟩
    refine ⟨_, rfl, .inl ⟨rfl, _, SqL.of d5.at_⟩, _, rfl, .inl ⟨rfl, _, SqL.of d5.has.tail.head⟩, _, rfl, _, rfl, p, xs, rfl, .inl (SqL.of d5.has.tail.head), rfl, a, (xs.length : Int), _, rfl, by omega, by omega, d5, fun r6 H6 p6 q6 m6 d6 => ?_⟩
    obtain ⟨q, eq⟩ : ∃ q, rs[r6.toNat]? = some q := ⟨rs[r6.toNat]'(by omega), List.getElem?_eq_getElem _⟩
    have rx6 := rx5.mono m6
    have ry6 := ry5.mono m6
    obtain ⟨y, ey, ry0⟩ := rx6.get (i := r6.toNat) (d := q.enc) (by rw [List.getElem?_map, eq]; rfl)
    refine ⟨p, xs, r6, r6.toNat, y, rfl, rfl, d6.has.tail.head, by omega, by omega, seqIx p6 q6, ey, ?_⟩
    have sw : ∀ {x y : Addr × HO}, (x :: y :: R).Perm (y :: x :: R) := List.Perm.swap _ _ _
    have d7 := ((d6.perm sw).put (o' := .lst (xs.eraseIdx r6.toNat)) nl).perm sw
    have m7 := (d6.perm sw).mput (o' := .lst (xs.eraseIdx r6.toNat))
    refine ⟨_, _, _, rfl, rfl, d7.at_, by rw [hy]; exact Nat.lt_of_le_of_lt (show ms.length ≤ 1000 by omega) (by decide), ?_⟩
    have m8 := d7.mput (o' := .lst (ys ++ [y]))
    have hel : (rs.eraseIdx r6.toNat).length + 1 = rs.length := by
      rw [List.length_eraseIdx]
      rw [if_pos (by omega)]
      omega
    refine ⟨(rs.eraseIdx r6.toNat).length, by omega, (hW _ _ _).mpr ⟨rs.eraseIdx r6.toNat, ms ++ [q], _, _, rfl, rfl, (((m4.trans (Mono.new he)).trans m6).trans m7).trans m8, d7.put nl, ?_, ?_, ?_, ?_, ?_⟩⟩
    · rw [erase_map]
      exact ((rx6.erase r6.toNat).mono m7).mono m8
    · rw [List.map_append]
      exact ((ry6.snoc ry0).mono m7).mono m8
    · rw [List.length_append, List.length_singleton]
      omega
    · intro l hl
      rcases hin l hl with z | z
      · rcases mem_erase eq z with e1 | e1
        · exact .inr (List.mem_append_right _ (by rw [e1]; exact List.mem_singleton_self _))
        · exact .inl e1
      · exact .inr (List.mem_append_left _ z)
    · intro l hl
      rcases hl with z | z
      · exact hout l (.inl (erase_mem z))
      · rcases List.mem_append.mp z with z | z
        · exact hout l (.inr z)
        · rw [List.mem_singleton.mp z]
          exact hout q (.inl (List.mem_of_getElem? eq))
end
end Cu

namespace Cu
open PySem PySem.Spec PyProof.Rows L2
/-! zip of two lists with a plain name as target: a new pair at each turn -/
/-- zip's own record: what was handed out, whether that is known -/
abbrev ZR (h : Heap) (z p q : Addr) (v : Value) (k : Bool) : Prop := h.get? z = some { cls := .type "zip", dict := none, data := .fields #[v, .bool k, .bool false, .ref p, .ref q], slots := #[] }
section
variable {P : Program} {w : World} {A : Around} {E : Value → Shared → Prop} {s : Shared} {z p q t m n a b : Addr} {k : Bool} {c d : Nat} {xs ys : Array Value} {x y u v : Value}
theorem gone {R : Option Obj → Shared → Prop} (no : s.heap.get? t = none) (h : R none s) : wpAny (model P w) A (loadIfAlive t) R E s := by
  have h' : R (s.heap.get? t) s := by
    rw [no]
    exact h
  exact fun _ _ _ => h'
theorem freed_tup {R : Bool → Shared → Prop} (r : ZR s.heap z p q (rawInt t) k) (no : s.heap.get? t = none) (h : R true s) : wpAny (model P w) A (Builtin.SmallTypes.ownedTupleIsFree (.ref z)) R E s := by
  unfold Builtin.SmallTypes.ownedTupleIsFree; refine wpAny_bind (wpAny_field r rfl (x := rawInt t) rfl ?_)
  show wpAny _ _ (loadIfAlive (t : Int).toNat >>= _) _ _ s
  rw [Int.toNat_natCast]
  refine wpAny_bind (gone no ?_)
  exact wpAny_pure h
theorem zip_dead {Q : Value → Shared → Prop} (D : ZipApart z p q m n a b) (hz : ZR s.heap z p q (rawInt t) k) (no : s.heap.get? t = none) (hp : IsPair s.heap p (.ref m) (.ref n)) (hq : IsPair s.heap q u v)
    (h1 : s.heap.IsListIter m a c) (h2 : s.heap.IsListIter n b d) (l1 : s.heap.IsList a xs) (l2 : s.heap.IsList b ys) (e1 : xs[c]? = some x) (e2 : ys[d]? = some y)
    (go : ∀ h', ZR h' z p q (rawInt s.heap.objs.size) false → IsPair h' q x y → h'.IsListIter m a (c + 1) → h'.IsListIter n b (d + 1) → IsPair h' s.heap.objs.size x y → h'.objs.size = s.heap.objs.size + 1 →
      (∀ r o, r ≠ z → r ≠ q → r ≠ m → r ≠ n → s.heap.get? r = some o → h'.get? r = some o) → Q (.ref s.heap.objs.size) { s with heap := h' }) :
    wpAny (model P w) A (Builtin.«zip.__next__» ⟨[.ref z], []⟩) (fun fin s' => ∃ g, fin = .done (.ret g) ∧ Q g s') E s := by
  show wpAny _ _ (field (.ref z) 2 >>= _) _ _ s
  refine wpAny_bind (wpAny_field hz rfl (x := .bool false) rfl ?_); show wpAny _ _ (field (.ref z) 3 >>= _) _ _ s
  refine wpAny_bind (wpAny_field hz rfl (x := .ref p) rfl (wpAny_bind (wpAny_seqItems hp rfl ?_))); show wpAny _ _ (Builtin.SmallTypes.ownedTupleIsFree (.ref z) >>= _) _ _ s
  refine wpAny_bind (freed_tup hz no ?_); simp only [if_true]
  refine wpAny_bind (wpAny_rule (wpAny_bind (wpAny_field hz rfl (x := .ref q) rfl (wpAny_bind (wpAny_setField_rec hz (by simp) fun g1 z1 s1 => wpAny_bind ?_)))))
  replace z1 : ZR g1 z p q .ellipsis k := z1
  simp only [List.zipIdx_cons, List.forIn_cons, List.forIn_nil, List.zipIdx_nil]
  refine wpAny_bind (wpAny_bind (wpAny_onRaise ?_)); show wpAny _ _ (Builtin.SmallTypes.nextOf (.ref m) >>= _) _ _ { s with heap := g1 }
  refine wpAny_bind (wpAny_nextOf_list_item (h1.extBut s1.extBut D.i1z) (l1.extBut s1.extBut D.l1z) e1 fun g2 i2 s2 => wpAny_pure ?_)
  have q2 : IsPair g2 q u v := s2.extBut _ _ D.TOi1 (s1.extBut _ _ D.TOz hq)
  refine wpAny_bind (wpAny_seqItems q2 rfl (wpAny_bind (wpAny_updateSeq_pair q2 fun g3 q3 s3 => wpAny_bind (wpAny_letGo (wpAny_pure ?_)))))
  replace q3 : IsPair g3 q x v := q3
  refine wpAny_bind (wpAny_bind (wpAny_onRaise ?_)); show wpAny _ _ (Builtin.SmallTypes.nextOf (.ref n) >>= _) _ _ { s with heap := g3 }
  have j3 : g3.IsListIter n b d := ((h2.extBut s1.extBut D.i2z).extBut s2.extBut D.i12.symm).extBut s3.extBut D.TOi2.symm
  have y3 : g3.IsList b ys := ((l2.extBut s1.extBut D.l2z).extBut s2.extBut D.l2i1).extBut s3.extBut D.l2TO
  refine wpAny_bind (wpAny_nextOf_list_item j3 y3 e2 fun g4 j4 s4 => wpAny_pure ?_)
  have q4 : IsPair g4 q x v := s4.extBut _ _ D.TOi2 q3
  refine wpAny_bind (wpAny_seqItems q4 rfl (wpAny_bind (wpAny_updateSeq_pair q4 fun g5 q5 s5 => wpAny_bind (wpAny_letGo (wpAny_pure (wpAny_pure ?_))))))
  replace q5 : IsPair g5 q x y := q5
  refine wpAny_bind (wpAny_seqItems q5 rfl (wpAny_bind (wpAny_newTuple ?_)))
  have hsz : g5.objs.size = s.heap.objs.size := by rw [s5.1, s4.1, s3.1, s2.1, s1.1]
  have z5 : ZR g5 z p q .ellipsis k := s5.extBut _ _ D.TOz.symm (s4.extBut _ _ D.i2z.symm (s3.extBut _ _ D.TOz.symm (s2.extBut _ _ D.i1z.symm z1)))
  have kp : ∀ r o, r ≠ z → r ≠ q → r ≠ m → r ≠ n → s.heap.get? r = some o → g5.get? r = some o := fun r o r1 r2 r3 r4 e => s5.extBut _ _ r2 (s4.extBut _ _ r4 (s3.extBut _ _ r2 (s2.extBut _ _ r3 (s1.extBut _ _ r1 e))))
  have i5 : g5.IsListIter m a (c + 1) := ((i2.extBut s3.extBut D.TOi1.symm).extBut s4.extBut D.i12).extBut s5.extBut D.TOi1.symm
  have j5 : g5.IsListIter n b (d + 1) := j4.extBut s5.extBut D.TOi2.symm
  have lt : z < g5.objs.size := Heap.lt_size z5
  show wpAny _ _ (Builtin.SmallTypes.ownedTupleHandOut (.ref z) (.ref g5.objs.size) >>= _) _ _ { s with heap := g5.push { cls := .type "tuple", data := .seq #[x, y] } }
  have z6 : ZR (g5.push { cls := .type "tuple", data := .seq #[x, y] }) z p q .ellipsis k := Heap.get?_push_of_some _ z5
  refine wpAny_bind ?_; unfold Builtin.SmallTypes.ownedTupleHandOut
  refine wpAny_bind (wpAny_setField_rec z6 (by simp) fun g7 z7 s7 => wpAny_setField_rec z7 (by simp) fun g8 z8 s8 => ?_)
  replace z8 : ZR g8 z p q (rawInt g5.objs.size) false := z8
  have up : ∀ r o, r ≠ z → g5.get? r = some o → g8.get? r = some o := fun r o r1 e => s8.extBut _ _ r1 (s7.extBut _ _ r1 (Heap.get?_push_of_some _ e))
  have t8 : IsPair g8 g5.objs.size x y := s8.extBut _ _ (Nat.ne_of_gt lt) (s7.extBut _ _ (Nat.ne_of_gt lt) (Heap.get?_push_size _ rfl))
  have n8 : g8.objs.size = g5.objs.size + 1 := by rw [s8.1, s7.1, Heap.size_push]
  rw [hsz] at z8 t8 n8
  refine wpAny_pure ⟨_, rfl, ?_⟩
  show Q (.ref g5.objs.size) { s with heap := g8 }
  rw [hsz]
  exact go g8 z8 (up _ _ D.TOz q5) (i5.at fun o e => up _ o D.i1z e) (j5.at fun o e => up _ o D.i2z e) t8 n8 fun r o r1 r2 r3 r4 e => up r o r1 (kp r o r1 r2 r3 r4 e)
theorem zip_deadEnd {Q : Fin → Shared → Prop} (hh : A.handled = none) (D : ZipApart z p q m n a b) (hz : ZR s.heap z p q (rawInt t) k) (no : s.heap.get? t = none) (hp : IsPair s.heap p (.ref m) (.ref n))
    (h1 : s.heap.IsListIter m a c) (l1 : s.heap.IsList a xs) (e1 : xs[c]? = none)
    (go : ∀ h' e, (∀ r o, r ≠ z → r ≠ q → r ≠ m → r ≠ n → s.heap.get? r = some o → h'.get? r = some o) → (∃ o, h'.get? e = some o ∧ o.cls = .type "StopIteration") → E (.ref e) { s with heap := h' }) :
    wpAny (model P w) A (Builtin.«zip.__next__» ⟨[.ref z], []⟩) Q E s := by
  show wpAny _ _ (field (.ref z) 2 >>= _) _ _ s
  refine wpAny_bind (wpAny_field hz rfl (x := .bool false) rfl ?_); show wpAny _ _ (field (.ref z) 3 >>= _) _ _ s
  refine wpAny_bind (wpAny_field hz rfl (x := .ref p) rfl (wpAny_bind (wpAny_seqItems hp rfl ?_))); show wpAny _ _ (Builtin.SmallTypes.ownedTupleIsFree (.ref z) >>= _) _ _ s
  refine wpAny_bind (freed_tup hz no ?_); simp only [if_true]
  refine wpAny_bind (wpAny_rule (wpAny_bind (wpAny_field hz rfl (x := .ref q) rfl (wpAny_bind (wpAny_setField_rec hz (by simp) fun g1 z1 s1 => wpAny_bind ?_)))))
  replace z1 : ZR g1 z p q .ellipsis k := z1
  simp only [List.zipIdx_cons, List.forIn_cons, List.forIn_nil, List.zipIdx_nil]
  refine wpAny_bind (wpAny_bind (wpAny_onRaise ?_)); show wpAny _ _ (Builtin.SmallTypes.nextOf (.ref m) >>= _) _ _ { s with heap := g1 }
  refine wpAny_bind (wpAny_nextOf_list_end hh (h1.extBut s1.extBut D.i1z) (l1.extBut s1.extBut D.l1z) e1 fun g2 e s2 he => ?_)
  obtain ⟨oe, f1, f2⟩ := he
  have z2 : ZR g2 z p q .ellipsis k := s2 _ _ D.i1z.symm z1
  have ne : e ≠ z := fun f => by
    rw [f, z2] at f1
    cases f1
    simp at f2
  exact wpAny_setField_rec z2 (by simp) fun g3 _ s3 => go g3 e (fun r o r1 _ r3 _ f => s3.extBut _ _ r1 (s2 _ _ r3 (s1.extBut _ _ r1 f))) ⟨oe, s3.extBut _ _ ne f1, f2⟩
end
section
variable {P : Program} {w : World} {A : Around} {E : Value → Shared → Prop} {s : Shared} {z p q m n a b : Addr} {c d : Nat} {xs ys : Array Value} {x y u v : Value}
/-- what zip holds between two turns -/
def ZS (h : Heap) (z p q m n a b : Addr) (i : Nat) : Prop := (ZR h z p q .none false ∨ ∃ (t : Addr) (k : Bool), ZR h z p q (rawInt t) k) ∧ IsPair h p (.ref m) (.ref n) ∧ (∃ x y, IsPair h q x y) ∧ h.IsListIter m a i ∧ h.IsListIter n b i
theorem zs_item {Q : Option Value → Shared → Prop} (D : ZipApart z p q m n a b) (hz : ZS s.heap z p q m n a b c) (l1 : s.heap.IsList a xs) (l2 : s.heap.IsList b ys) (e1 : xs[c]? = some x) (e2 : ys[c]? = some y)
    (go : ∀ h', ZS h' z p q m n a b (c + 1) → IsPair h' s.heap.objs.size x y → (∀ r o, r ≠ z → r ≠ q → r ≠ m → r ≠ n → s.heap.get? r = some o → h'.get? r = some o) → Q (some (.ref s.heap.objs.size)) { s with heap := h' }) :
    wpAny (model P w) A (pyNext (.ref z)) Q E s := by
  obtain ⟨hf, hp, ⟨u, v, hq⟩, h1, h2⟩ := hz
  rcases hf with hz | ⟨t, k, hz⟩
  · exact wpAny_pyNext_zip_item D hz hp hq h1 h2 l1 l2 e1 e2 fun h' a1 a2 a3 a4 a5 _ kp => go h' ⟨.inr ⟨_, _, a1⟩, kp _ _ D.TIz D.TITO D.TIi1 D.TIi2 hp, ⟨x, y, a2⟩, a3, a4⟩ a5 kp
  · cases ht : s.heap.get? t with
    | some oT => exact wpAny_pyNext_zip_item_held D hz ht hp h1 h2 l1 l2 e1 e2 fun h' a1 a3 a4 a5 _ kp => go h' ⟨.inr ⟨_, _, a1⟩, kp _ _ D.TIz D.TIi1 D.TIi2 hp, ⟨u, v, kp _ _ D.TOz D.TOi1 D.TOi2 hq⟩, a3, a4⟩ a5 fun r o r1 _ r3 r4 e => kp r o r1 r3 r4 e
    | none =>
      have ty : s.TypeIs (.ref z) "zip" := ⟨_, hz, rfl⟩
      unfold pyNext
      exact wpAny_bind (wpAny_attempt (wpAny_callSpecial?_slot (name := Str.ofString "__next__") ty F.slot_zip_next (wpAny_call_entry F.slot_zip_next ty F.entry_zip_next
        (zip_dead D hz ht hp hq h1 h2 l1 l2 e1 e2 fun h' a1 a2 a3 a4 a5 _ kp => wpAny_pure (go h' ⟨.inr ⟨_, _, a1⟩, kp _ _ D.TIz D.TITO D.TIi1 D.TIi2 hp, ⟨x, y, a2⟩, a3, a4⟩ a5 kp)) (F.args_zip_next_1 _))))
theorem zs_end {Q : Option Value → Shared → Prop} (hh : A.handled = none) (D : ZipApart z p q m n a b) (hz : ZS s.heap z p q m n a b c) (l1 : s.heap.IsList a xs) (l2 : s.heap.IsList b ys) (e1 : xs[c]? = none)
    (go : ∀ h', (∀ r o, r ≠ z → r ≠ q → r ≠ m → r ≠ n → s.heap.get? r = some o → h'.get? r = some o) → Q none { s with heap := h' }) : wpAny (model P w) A (pyNext (.ref z)) Q E s := by
  obtain ⟨hf, hp, ⟨u, v, hq⟩, h1, h2⟩ := hz
  rcases hf with hz | ⟨t, k, hz⟩
  · exact wpAny_pyNext_zip_end hh D hz hp hq h1 h2 l1 l2 (.inl e1) fun h' kp => go h' kp
  · cases ht : s.heap.get? t with
    | some oT => exact wpAny_pyNext_zip_end_held hh D hz ht hp h1 h2 l1 l2 (.inl e1) fun h' kp => go h' fun r o r1 _ r3 r4 e => kp r o r1 r3 r4 e
    | none =>
      have ty : s.TypeIs (.ref z) "zip" := ⟨_, hz, rfl⟩
      unfold pyNext
      refine wpAny_bind (wpAny_attempt (wpAny_callSpecial?_slot (name := Str.ofString "__next__") ty F.slot_zip_next (wpAny_call_entry F.slot_zip_next ty F.entry_zip_next (zip_deadEnd hh D hz ht hp h1 l1 e1 fun h' e kp he => ?_) (F.args_zip_next_1 _))))
      obtain ⟨o, f1, f2⟩ := he
      exact wpAny_bind (wpAny_isInstance (T := "StopIteration") (b := true) ⟨o, f1, f2⟩ isSubtype_stop (wpAny_pure (go _ kp)))
end
/-- the lists at a and b, item by item, each pair a new tuple -/
def Izn (K : PySem.W.Frag) (a b : Addr) : It :=
  ⟨fun i H => ∃ (xs ys : List V) (x y : V), SqL K H a xs ∧ SqL K H b ys ∧ xs[i]? = some x ∧ ys[i]? = some y,
    fun i H v H' => ∃ t x y, v = .ref t ∧ H t = none ∧ H' = upd H t (.tup [x, y]) ∧ (∀ xs, SqL K H a xs → xs[i]? = some x) ∧ ∀ ys, SqL K H b ys → ys[i]? = some y,
    fun i H => ∃ xs ys : List V, SqL K H a xs ∧ SqL K H b ys ∧ xs.length ≤ i⟩
theorem turn_zn {P : Program} {w : World} {K : PySem.W.Frag} {nm : Str} {tp : Pos} {z p q m n a b : Addr} (D : ZipApart z p q m n a b) : Turn P w K (.Name nm tp) (Izn K a b) [z, p, q, m, n] z (fun i h => ZS h z p q m n a b i) where
  mem := by simp
  obj := fun i h st r hr => by
    obtain ⟨hf, hp, ⟨u, v, hq⟩, ⟨o1, f1, _, g1⟩, ⟨o2, f2, _, g2⟩⟩ := st
    rcases (show r = z ∨ r = p ∨ r = q ∨ r = m ∨ r = n by simpa using hr) with e | e | e | e | e
    · rw [e]
      rcases hf with hz | ⟨t, k, hz⟩ <;> exact ⟨_, hz, fun v f => nomatch f⟩
    · rw [e]; exact ⟨_, hp, fun v f => nomatch f⟩
    · rw [e]; exact ⟨_, hq, fun v f => nomatch f⟩
    · rw [e]; exact ⟨o1, f1, fun v f => by rw [g1] at f; cases f⟩
    · rw [e]; exact ⟨o2, f2, fun v f => by rw [g2] at f; cases f⟩
  keep := fun i h h' st kp => by
    obtain ⟨hf, hp, ⟨u, v, hq⟩, h1, h2⟩ := st
    refine ⟨?_, kp p (by simp) _ hp, ⟨u, v, kp q (by simp) _ hq⟩, h1.at fun o f => kp m (by simp) o f, h2.at fun o f => kp n (by simp) o f⟩
    rcases hf with hz | ⟨t, k, hz⟩
    · exact .inl (kp z (by simp) _ hz)
    · exact .inr ⟨t, k, kp z (by simp) _ hz⟩
  item := by
    intro X hP hw hK hc i pins s σ H E I hf st hg
    subst hP hw hK
    obtain ⟨xs, ys, x, y, s1, s2, hx, hy⟩ := hg
    obtain ⟨c1, r1, p1, _⟩ := I.list s1
    obtain ⟨c2, r2, p2, _⟩ := I.list s2
    obtain ⟨u1, hu1, ru1⟩ := r1.get hx
    obtain ⟨u2, hu2, ru2⟩ := r2.get hy
    have fr : ∀ r ∈ [z, p, q, m, n], r < s.heap.objs.size := fun r hr => by
      obtain ⟨hf, hp, ⟨u, v, hq⟩, ⟨o1, f1, _, g1⟩, ⟨o2, f2, _, g2⟩⟩ := st
      rcases (show r = z ∨ r = p ∨ r = q ∨ r = m ∨ r = n by simpa using hr) with e | e | e | e | e
      · rw [e]
        rcases hf with hz | ⟨t, k, hz⟩ <;> exact Heap.lt_size hz
      · rw [e]; exact Heap.lt_size hp
      · rw [e]; exact Heap.lt_size hq
      · rw [e]; exact Heap.lt_size f1
      · rw [e]; exact Heap.lt_size f2
    refine zs_item D st p1.isList p2.isList (x := u1) (y := u2) (by simpa using hu1) (by simpa using hu2) fun h' st' hT kp => ⟨_, rfl, ?_⟩
    have new : ObjOk X.prog X.w (upd H s.heap.objs.size (.tup [x, y])) h' s.heap.objs.size (.tup [x, y]) := ⟨by show 2 ≤ sizeLine; decide, [u1, u2], .cons ru1 (.cons ru2 .nil), ⟨_, hT, rfl, _, rfl⟩⟩
    have I1 : Inv X pins σ (upd H s.heap.objs.size (.tup [x, y])) { s with heap := h' } :=
      I.turnedNew (t' := s.toks) (ch := [z, p, q, m, n]) (fun r o hr f => kp r o (fun e => hr (by simp [e])) (fun e => hr (by simp [e])) (fun e => hr (by simp [e])) (fun e => hr (by simp [e])) f) hf (Nat.le_refl _) new
    refine wpAny_pure ⟨.ref s.heap.objs.size, _, I1, rfl, ⟨_, x, y, rfl, I.hok.fresh (Nat.le_refl _), rfl, fun l hl => by rw [I.list_inj hl s1]; exact hx, fun l hl => by rw [I.list_inj hl s2]; exact hy⟩, st', fun r hr => ?_⟩
    rw [upd_ne (Nat.ne_of_lt (fr r hr))]
    exact (hf r hr).1
  done := by
    intro X hP hw hK hc i pins s σ H E I hf st hg
    subst hP hw hK
    obtain ⟨xs, ys, s1, s2, hx⟩ := hg
    obtain ⟨c1, r1, p1, _⟩ := I.list s1
    obtain ⟨c2, r2, p2, _⟩ := I.list s2
    have := r1.length
    exact zs_end (I.ok.hd hc) D st p1.isList p2.isList (by simp; omega) fun h' kp => ⟨rfl, I.turnedL (t' := s.toks) (ch := [z, p, q, m, n]) (fun r o hr f => kp r o (fun e => hr (by simp [e])) (fun e => hr (by simp [e])) (fun e => hr (by simp [e])) (fun e => hr (by simp [e])) f) hf⟩
  self := fun A i s Q E st h => by
    have ty : s.TypeIs (.ref z) "zip" := by
      obtain ⟨hf, _⟩ := st
      rcases hf with hz | ⟨t, k, hz⟩ <;> exact ⟨_, hz, rfl⟩
    exact wpAny_pyIter_slot ty F.slot_zip_iter (wpAny_call_entry F.slot_zip_iter ty F.entry_zip_iter (show wpAny _ _ (ret (.ref z)) _ _ s from wpAny_pure ⟨_, rfl, "zip", _, ty, F.slot_zip_next.lookup, h⟩) (F.args_zip_iter_1 _))
def iZipN (K : PySem.W.Frag) (ta : TA) : TI := fun σ H R => ta σ H fun vs H1 => ∃ a b xs ys, vs = [.ref a, .ref b] ∧ SqL K H1 a xs ∧ SqL K H1 b ys ∧ R (Izn K a b) H1
theorem pi_zipN {X : Cx} {e e2 : Expr} {ta : TA} {nm : Str} {p pos tp : Pos} (hg : Gl X "zip") (hm : X.mg "zip" = none) (ha : PA X [e, e2] ta)
    (hs : starEach [e, e2] X.env = (false, eval e X.env) :: starEach [e2] X.env := by rfl) (hpl : (backTo pos (starEach [e2] X.env)).any (·.1) = false := by rfl) : PI X (.Name nm tp) (.Call (.Name "zip" p) [e, e2] [] pos) (iZipN X.K ta) := by
  refine ⟨fun pins s σ H R I h => Call_ (ld_blt I hg hm PyProof.Rows.boot_zip (PyProof.Rows.callWith_type1 (thn (ha.run pos pins s σ H _ I h) fun us z1 ⟨vs, H1, I1, r1, q1⟩ => ?_) hs hpl))⟩
  obtain ⟨a, b, xs, ys, rfl, qx, qy, q⟩ := q1
  obtain ⟨u1, u2, rfl, ra, rb⟩ := vals2 r1
  cases ra
  cases rb
  obtain ⟨_, _, p1, _⟩ := I1.list qx
  obtain ⟨_, _, p2, _⟩ := I1.list qy
  have la : a < z1.heap.objs.size := p1.lt
  have lb : b < z1.heap.objs.size := p2.lt
  refine call_zip_2 p1.isList p2.isList fun h' hz hp hq i1 i2 _ kp => wpAny_pyIter_zip hz ?_
  have I2 : Inv X pins σ H1 { z1 with heap := h' } := I1.kept (t' := z1.toks) kp
  refine ⟨z1.heap.objs.size + 4, [z1.heap.objs.size + 4, z1.heap.objs.size + 2, z1.heap.objs.size + 3, z1.heap.objs.size, z1.heap.objs.size + 1], _, _, H1, rfl, I2, turn_zn (PySem.W.ktu_apart z1.heap.objs.size a b la lb), ⟨.inl hz, hp, ⟨_, _, hq⟩, i1, i2⟩, fun c hc => ?_, q⟩
  have le : z1.heap.objs.size ≤ c := by
    simp only [List.mem_cons, List.not_mem_nil, or_false] at hc
    rcases hc with e | e | e | e | e <;> (rw [e]; first | exact Nat.le_add_right _ _ | exact Nat.le_refl _)
  exact I1.fpOk le (I1.hok.fresh le)
/-- a comprehension over it; the pair is new at t -/
theorem lc_zn {K : PySem.W.Frag} {a b : Addr} {xs ys : List V} {g : TG} {tt : TT} {te : TE} {vs : List Nat} {σ : L2.St} {H1 : Hp} {D : Addr} {Qd : Hp → Prop} (hl : xs.length = ys.length) (Pv : Nat → Hp → Prop) (h0 : Pv 0 (upd H1 D (.lst []))) (hq : ∀ i H, Pv i H → SqL K H a xs ∧ SqL K H b ys)
    (hs : ∀ (i : Nat) (x y : V) (t : Addr) (H : Hp), xs[i]? = some x → ys[i]? = some y → Pv i H → H t = none → g (.ref t) (wipe σ vs) (upd H t (.tup [x, y])) fun σ2 H2 => wipe σ2 vs = wipe σ vs ∧ tt σ2 H2 fun b H3 =>
      if b = true then te σ2 H3 fun y H4 => ∃ acc, H4 D = some (.lst acc) ∧ acc.length < sizeLine ∧ Pv (i + 1) (upd H4 D (.lst (acc ++ [y]))) else Pv (i + 1) H3) (hd : ∀ H, Pv xs.length H → Qd H) :
    ∃ W : Nat → Nat → Hp → Prop, (∃ m, W 0 m (upd H1 D (.lst []))) ∧ ∀ i m H, W i m H →
      ((Izn K a b).stop i H ∧ Qd H) ∨ ((Izn K a b).go i H ∧ ∃ Nx : Hp → Prop, (∀ H', Nx H' → ∃ m', m' < m ∧ W (i + 1) m' H') ∧ ∀ x H', (Izn K a b).yld i H x H' → g x (wipe σ vs) H' fun σ2 H2 => wipe σ2 vs = wipe σ vs ∧ tt σ2 H2 fun b H3 =>
        if b = true then te σ2 H3 fun y H4 => ∃ acc, H4 D = some (.lst acc) ∧ acc.length < sizeLine ∧ Nx (upd H4 D (.lst (acc ++ [y]))) else Nx H3) := by
  refine ⟨fun i m H => m = xs.length - i ∧ i ≤ xs.length ∧ Pv i H, ⟨xs.length, by simp, Nat.zero_le _, h0⟩, ?_⟩
  rintro i m H ⟨rfl, hi, p⟩
  obtain ⟨q1, q2⟩ := hq i H p
  by_cases hlt : i < xs.length
  · have hx : xs[i]? = some xs[i] := List.getElem?_eq_getElem hlt
    have hlt2 : i < ys.length := by omega
    have hy : ys[i]? = some ys[i] := List.getElem?_eq_getElem hlt2
    refine .inr ⟨⟨xs, ys, _, _, q1, q2, hx, hy⟩, Pv (i + 1), fun H' p' => ⟨xs.length - (i + 1), by omega, rfl, hlt, p'⟩, fun v H' z => ?_⟩
    obtain ⟨t, x', y', rfl, ht, rfl, f1, f2⟩ := z
    exact hs i x' y' t H (f1 xs q1) (f2 ys q2) p ht
  · have e : i = xs.length := by omega
    subst e
    exact .inl ⟨⟨xs, ys, q1, q2, Nat.le_refl _⟩, hd H p⟩
end Cu

namespace Cu
open PySem PySem.Spec PyProof.Rows L2
/-! min(t) of a tuple of two ints -/
def rMinT2 (K : PySem.W.Frag) : List V → Hp → VK → Prop := fun vs H Q => ∃ (a : Addr) (i j : Int), vs = [.ref a] ∧ SqT K H a [.int i, .int j] ∧ Q (.int (min i j)) H
theorem cr_minT2 {X : Cx} (hc : X.calm = true) (hu : X.A.units + 64 < cLine) : CallR X (.builtin "min") (rMinT2 X.K) := by
  intro pins s σ H vs us Q I r h
  obtain ⟨a, i, j, rfl, ha, go⟩ := h
  rw [Vals.ref1 r]
  obtain ⟨its, rv, p, _⟩ := I.tuple ha
  obtain ⟨u1, u2, rfl, r1, r2⟩ := vals2 rv
  obtain ⟨t1, rfl⟩ := r1
  obtain ⟨t2, rfl⟩ := r2
  have pT : s.heap.IsTuple a #[.int i t1, .int j t2] := let ⟨o, ho, hc, n, hd⟩ := p; ⟨o, ho, hc, n, hd⟩
  have al : PySem.W.AlikeAll [.int i, .int j] := ⟨fun x hx y hy => by
    simp only [List.mem_cons, List.not_mem_nil, or_false] at hx hy
    rcases hx with rfl | rfl <;> rcases hy with rfl | rfl <;> rfl, fun x hx => by
    simp only [List.mem_cons, List.not_mem_nil, or_false] at hx
    rcases hx with rfl | rfl <;> (intro e; cases e)⟩
  refine PySem.W.min_tuple_data (I.ok.hd hc) pT (x := .int i) (xs := [.int j]) (.cons (.int _ _) (.cons (.int _ _) .nil)) al (by
    have : PyData.depthAll [.int i, .int j] = 0 := by simp [PyData.depthAll, PyData.depth]
    rw [this]
    omega) fun k v h' tk bs hv hr kp => ?_
  rw [show PySem.W.minD (.int i) [.int j] = .int (min i j) from PySem.W.minD_ints i [j]] at hr
  cases hr
  exact ⟨.int _, H, I.kept kp, ⟨_, rfl⟩, go⟩
theorem cr_minT2K (K : PySem.W.Frag) {X : Cx} (h : X.K = K) (hc : X.calm = true) (hu : X.A.units + 64 < cLine) : CallR X (.builtin "min") (rMinT2 K) := h ▸ cr_minT2 hc hu
end Cu

namespace Cu
open PySem PySem.Spec PyProof.Rows L2
abbrev s_law : Stmt := (top 26)
theorem sc_law : FnScope ["_law_script", "_law_d", "_law_keys", "_law_keep", "_law_changes_here", "_law_board", "_law_letters", "_law_one", "_law_two", "_law_key", "_law_word", "_law_worth_here", "_law_letter", "_law_hearer", "_law_begin", "_law_known", "_law_look", "_law_pair"] ["_law_script"] (defScope s_law) := ⟨rfl, rfl, rfl, by decide +kernel, rfl, by decide +kernel, by decide +kernel⟩

theorem flat_at {α : Type} : ∀ {cks : List (List α)} {j : Nat} {c : List α}, cks[j]? = some c → cks.flatten.Perm (c ++ (cks.eraseIdx j).flatten)
  | [], _, _, e => by simp at e
  | x :: xs, 0, c, e => by
    have e : x = c := by simpa using e
    subst e
    exact List.Perm.refl _
  | x :: xs, j + 1, c, e => by
    have ih := flat_at (cks := xs) (j := j) (c := c) (by simpa using e)
    rw [List.flatten_cons, List.eraseIdx_cons_succ, List.flatten_cons, ← List.append_assoc]
    refine (List.Perm.append_left x ih).trans ?_
    rw [← List.append_assoc]
    exact List.Perm.append_right _ List.perm_append_comm
theorem flat_set {α : Type} {cks : List (List α)} {j : Nat} {c c' : List α} (e : cks[j]? = some c) : (cks.set j c').flatten.Perm (c' ++ (cks.eraseIdx j).flatten) := by
  have h := flat_at (cks := cks.set j c') (j := j) (c := c') (List.getElem?_set_self (List.getElem?_eq_some_iff.mp e).1)
  rwa [List.eraseIdx_set_eq] at h
/-! hearers, side by side -/
structure Sd where
  A : HA
  hs : List HK
  k : Lg
def kS (S : List Sd) : Lg := (S.map Sd.k).flatten
def rS (S : List Sd) (j : Nat) : Lg := ((S.map Sd.k).eraseIdx j).flatten
structure Sds (K : PySem.W.Frag) (C : Addr) (nk : Nat) (cs : List Ch) (S : List Sd) (H : Hp) : Prop where
  at_ : ∀ sd ∈ S, HR K C sd.A sd.hs H sd.k ∧ AllI nk cs sd.hs
section
variable {K : PySem.W.Frag} {C : Addr} {nk : Nat} {cs : List Ch} {S : List Sd} {H H' : Hp} {j : Nat} {sd sd' : Sd} {R : Lg} {A1 A2 : HA} {a : Addr}
theorem Sds.mono (s : Sds K C nk cs S H) (m : Mono H H') : Sds K C nk cs S H' := ⟨fun sd h => ⟨(s.at_ sd h).1.mono m, (s.at_ sd h).2⟩⟩
theorem Sds.set (s : Sds K C nk cs S H) (r : HR K C sd'.A sd'.hs H sd'.k) (i : AllI nk cs sd'.hs) : Sds K C nk cs (S.set j sd') H := ⟨fun sd h => by
  rcases List.mem_or_eq_of_mem_set h with h | rfl
  · exact s.at_ sd h
  · exact ⟨r, i⟩⟩
theorem kS_at (e : S[j]? = some sd) : (kS S ++ R).Perm (sd.k ++ (rS S j ++ R)) := by
  rw [← List.append_assoc]
  exact List.Perm.append_right R (flat_at (by rw [List.getElem?_map, e]; rfl))
theorem kS_set (e : S[j]? = some sd) : (sd'.k ++ (rS S j ++ R)).Perm (kS (S.set j sd') ++ R) := by
  rw [← List.append_assoc]
  refine List.Perm.append_right R ?_
  unfold kS
  rw [List.map_set]
  exact (flat_set (c := sd.k) (by rw [List.getElem?_map, e]; rfl)).symm
theorem Dice.pick (d : Dice K H a (kS S ++ R)) (e : S[j]? = some sd) : Dice K H a (sd.k ++ (rS S j ++ R)) := d.perm (kS_at e)
theorem Dice.back (d : Dice K H a (sd'.k ++ (rS S j ++ R))) (e : S[j]? = some sd) : Dice K H a (kS (S.set j sd') ++ R) := d.perm (kS_set e)
theorem two_get {x : V} (h : S.map Sd.A = [A1, A2]) (e : [V.ref A1.p, .ref A2.p][j]? = some x) : ∃ sd, S[j]? = some sd ∧ x = .ref sd.A.p := by
  have e2 : [V.ref A1.p, .ref A2.p] = S.map fun sd => V.ref sd.A.p := by
    have : (S.map Sd.A).map (fun A => V.ref A.p) = [V.ref A1.p, .ref A2.p] := by rw [h]; rfl
    rw [← this, List.map_map]
    rfl
  rw [e2, List.getElem?_map] at e
  cases es : S[j]? with
  | none =>
    rw [es] at e
    cases e
  | some sd =>
    rw [es] at e
    exact ⟨sd, rfl, (Option.some.inj e).symm⟩
theorem two_set (h : S.map Sd.A = [A1, A2]) (e : S[j]? = some sd) (q : sd'.A = sd.A) : (S.set j sd').map Sd.A = [A1, A2] := by
  rw [List.map_set, q]
  rw [← h]
  apply List.ext_getElem?
  intro i
  by_cases hi : j = i
  · subst hi
    rw [List.getElem?_set_self (by rw [List.length_map]; exact (List.getElem?_eq_some_iff.mp e).1), List.getElem?_map, e]
    rfl
  · rw [List.getElem?_set_ne hi]
theorem two_inv (h : S.map Sd.A = [A1, A2]) : ∃ s1 s2, S = [s1, s2] ∧ s1.A = A1 ∧ s2.A = A2 := by
  match S, h with
  | [s1, s2], h => 
    simp at h
    exact ⟨s1, s2, rfl, h.1, h.2⟩
end
def loU (us1 us2 : List Int) : List Int := List.zipWith min us1 us2
section
variable {P : Program} {w : World} {K : PySem.W.Frag} {mg : Str → Option Value} {base : Heap} {C CB : Addr}
theorem ok_law {f : Addr} {fd : FuncData} (F : Fun K "law" "law" s_law f fd) (Bm : Blt mg) (CHearer : CHr K C) (CBoard : CBo K CB) (g_dice : Gf P w K mg base 1 "_law_dice" ["_law_script"] (spDice K)) (g_next : Gf P w K mg base 1 "_law_next" ["_law_dice_here", "_law_many"] (spNext K))
    (g_counts : Gf P w K mg base 2 "_law_counts" ["_law_d"] (spCounts K)) (g_changes : Gf P w K mg base 3 "_law_changes" ["_law_d", "_law_keys", "_law_most"] (spChanges K)) (g_answer : Gf P w K mg base 4 "answer" ["board", "known"] (spAnswer K CB)) (g_mixed : Gf P w K mg base 2 "_law_mixed" ["_law_d", "_law_row"] (spShuf K))
    (k_Board : Kf P w K mg base 1 "Board" CB ["self", "keys", "keep"] (spBinit K CB)) (m_Board_number : Mf P w K mg base 1 CB "number" ["self"] (spBnumber K CB)) (m_Board_part : Mf P w K mg base 1 CB "part" ["self", "begin", "end"] (spBpart K CB))
    (m_Board_change : Mf P w K mg base 1 CB "change" ["self", "key", "word", "worth"] (spBchange K CB)) (m_Board_worths : Mf P w K mg base 1 CB "worths" ["self"] (spBworths K CB)) (m_Board_lasts : Mf P w K mg base 1 CB "lasts" ["self"] (spBlasts K CB)) (m_Board_beat : Mf P w K mg base 1 CB "beat" ["self"] (spBbeat K CB))
    (k_Hearer : Kf P w K mg base 1 "Hearer" C ["self", "keys"] (spHinit K C)) (m_Hearer_hear : Mf P w K mg base 4 C "hear" ["self", "letter"] (spHear K C)) (m_Hearer_held : Mf P w K mg base 1 C "held" ["self"] (spHeld K C)) (m_Hearer_known : Mf P w K mg base 1 C "known" ["self"] (spKnown K C))
    (m_Hearer_look : Mf P w K mg base 1 C "look" ["self", "key"] (spLook K C)) (m_Hearer_whole : Mf P w K mg base 1 C "whole" ["self"] (spWhole K C)) : FnOk P w K mg base CX0 5 f fd ["_law_script"] (spLaw K) := by
  refine F.ok sc_law len_of fun cdv A0 outer s H vs Q E hr h => ?_
  obtain ⟨_, c, ns, rfl, hns, fc, go⟩ := h
  refine ⟨_, (pss_cons (ps_set (i := 1) sc_law.nd rfl (Or.inl rfl) (pc g_dice hr (pa_cons (pv 0) pa_nil)))
      (pss_cons (ps_asg (pc g_counts hr (pa_cons (pv 1) pa_nil)) (pg_tup rfl (pgs_cons (pg_name (i := 2) sc_law.nd rfl (Or.inl rfl)) (pgs_cons (pg_name (i := 3) sc_law.nd rfl (Or.inl rfl)) pgs_nil))))
      (pss_cons (ps_set (i := 4) sc_law.nd rfl (Or.inl rfl) (pc g_changes hr (pa_cons (pv 1) (pa_cons (pv 2) (pa_cons pe_int pa_nil)))))
      (pss_cons (ps_par (i := 5) (j := 6) rfl sc_law.nd rfl rfl (by decide) rfl rfl (pa_cons (pk k_Board hr (pa_cons (pv 2) (pa_cons (pv 3) pa_nil))) (pa_cons (pe_lst pa_nil) pa_nil)) rfl)
      (pss_cons (ps_par (i := 7) (j := 8) rfl sc_law.nd rfl rfl (by decide) rfl rfl (pa_cons (pk k_Hearer hr (pa_cons (pv 2) pa_nil)) (pa_cons (pk k_Hearer hr (pa_cons (pv 2) pa_nil)) pa_nil)) rfl)
      (pss_cons (ps_for PassesOwn.never rfl (pi_list (pv 4)) (pg_tup rfl (pgs_cons (pg_name (i := 9) sc_law.nd rfl (Or.inl rfl)) (pgs_cons (pg_name (i := 10) sc_law.nd rfl (Or.inl rfl)) (pgs_cons (pg_name (i := 11) sc_law.nd rfl (Or.inl rfl)) pgs_nil))))
        (pss_cons (ps_set (i := 12) sc_law.nd rfl (Or.inl rfl) (pm (pv 5) CBoard.cl m_Board_change hr (pa_cons (pv 9) (pa_cons (pv 10) (pa_cons (pv 11) pa_nil)))))
        (pss_one (ps_for PassesOwn.never rfl (pi_tup (pe_tup (pa_cons (pv 7) (pa_cons (pv 8) pa_nil)))) (pg_name (i := 13) sc_law.nd rfl (Or.inl rfl))
          (pss_cons (ps_mid (ps_if (pt_cmpR op_gt (pc g_next hr (pa_cons (pv 1) (pa_cons pe_int pa_nil))) pe_int (nomark _))
            (pss_one (ps_expr (pm (pv 13) CHearer.cl m_Hearer_hear hr (pa_cons (pv 12) pa_nil))))
            pss_nil))
          (pss_one (ps_if (pt_cmpR op_eq (pc g_next hr (pa_cons (pv 1) (pa_cons pe_int pa_nil))) pe_int (nomark _))
            (pss_cons (ps_set (i := 14) sc_law.nd rfl (Or.inl rfl) (pc g_next hr (pa_cons (pv 1) (pa_cons (pv 2) pa_nil))))
            (pss_one (ps_expr (pm (pv 13) CHearer.cl m_Hearer_hear hr (pa_cons (pm (pv 5) CBoard.cl m_Board_part hr (pa_cons (pv 14) (pa_cons (pe_op op_add (pe_op op_add (pv 14) pe_int) (pc g_next hr (pa_cons (pv 1) (pa_cons (pe_op op_sub (pv 2) (pv 14)) pa_nil)))) pa_nil))) pa_nil)))))
            pss_nil)))))))
      (pss_cons (ps_setLc (i := 15) (own := [("_law_pair", 17)]) (g := (gName 17)) (tt := tYes) rfl sc_law.nd rfl rfl (sw_true rfl rfl rfl (by decide +kernel)) (pi_zipN rfl Bm.zip (pa_cons (pe_fz (pm0 (pv 7) CHearer.cl m_Hearer_known hr)) (pa_cons (pe_fz (pm0 (pv 8) CHearer.cl m_Hearer_known hr)) pa_nil))) (blkOk_by (N := ["_law_script", "_law_d", "_law_keys", "_law_keep", "_law_changes_here", "_law_board", "_law_letters", "_law_one", "_law_two", "_law_key", "_law_word", "_law_worth_here", "_law_letter", "_law_hearer", "_law_begin", "_law_known", "_law_look", "_law_pair"]) (sc := defScope s_law) (by decide +kernel)) (fun _ _ _ _ _ => (pg_name (i := 17) sc_law.nd rfl (Or.inl rfl))) (fun _ _ _ _ _ => pts_nil) (fun _ _ _ _ _ => (pe_callB (cr_minT2K K rfl rfl hr.units) rfl Bm.min (by decide +kernel) (pa_cons (pv 17) pa_nil))))
      (pss_cons (ps_set (i := 6) sc_law.nd rfl (Or.inl rfl) (pc g_answer hr (pa_cons (pv 5) (pa_cons (pv 15) pa_nil))))
      (pss_cons (ps_for PassesOwn.never rfl (pi_tup (pe_tup (pa_cons (pv 7) (pa_cons (pv 8) pa_nil)))) (pg_name (i := 13) sc_law.nd rfl (Or.inl rfl))
        (pss_cons (ps_for PassesOwn.never rfl (pi_list (pc g_mixed hr (pa_cons (pv 1) (pa_cons (pv 6) pa_nil)))) (pg_name (i := 12) sc_law.nd rfl (Or.inl rfl))
          (pss_one (ps_expr (pm (pv 13) CHearer.cl m_Hearer_hear hr (pa_cons (pv 12) pa_nil)))))
        (pss_cons (ps_for PassesOwn.never rfl (pi_range1 rfl Bm.range (pa_cons (pv 2) pa_nil)) (pg_name (i := 9) sc_law.nd rfl (Or.inl rfl))
          (pss_cons (ps_set (i := 16) sc_law.nd rfl (Or.inl rfl) (pm (pv 13) CHearer.cl m_Hearer_look hr (pa_cons (pv 9) pa_nil)))
          (pss_cons (ps_if (PW.pt (pw_and (pt_cmpR op_isN (pv 16) pe_non (nomark _)) (pw_and1 (pt_cmpR op_gt (pe_ix ix_list (pe_fz (pm0 (pv 5) CBoard.cl m_Board_lasts hr)) (pv 9) (fun _ _ => rfl)) pe_int (nomark _)))))
            (pss_one (ps_ret pe_bl))
            pss_nil)
          (pss_cons (ps_if (PW.pt (pw_and (pt_cmpR op_notN (pv 16) pe_non (nomark _)) (pw_and1 (pt_cmpR op_lt (pe_ix ix_tup (pv 16) pe_int (fun _ _ => rfl)) (pe_ix ix_list (pe_fz (pm0 (pv 5) CBoard.cl m_Board_lasts hr)) (pv 9) (fun _ _ => rfl)) (nomark _)))))
            (pss_one (ps_ret pe_bl))
            pss_nil)
          (pss_one (ps_if (PW.pt (pw_and (pt_cmpR op_notN (pv 16) pe_non (nomark _)) (pw_and1 (pt_cmpR op_ne (pe_ix ix_tup (pv 16) pe_int (fun _ _ => rfl)) (pe_ix ix_list (pe_fz (pm0 (pv 5) CBoard.cl m_Board_worths hr)) (pv 9) (fun _ _ => rfl)) (nomark _)))))
            (pss_one (ps_ret pe_bl))
            pss_nil))))))
        (pss_cons (ps_for PassesOwn.never rfl (pi_list (pc g_mixed hr (pa_cons (pv 1) (pa_cons (pe_lst (pa_cons (pm (pv 5) CBoard.cl m_Board_part hr (pa_cons pe_int (pa_cons (pv 2) pa_nil))) (pa_cons (pm0 (pv 5) CBoard.cl m_Board_beat hr) pa_nil))) pa_nil)))) (pg_name (i := 12) sc_law.nd rfl (Or.inl rfl))
          (pss_one (ps_expr (pm (pv 13) CHearer.cl m_Hearer_hear hr (pa_cons (pv 12) pa_nil)))))
        (pss_cons (ps_expr (pm (pv 13) CHearer.cl m_Hearer_hear hr (pa_cons (pm0 (pv 5) CBoard.cl m_Board_beat hr) pa_nil)))
        (pss_one (ps_if (pt_cmpR (op_neD hr.units) (pe_fzw (pm0 (pv 13) CHearer.cl m_Hearer_whole hr)) (pe_tup (pa_cons (pm0 (pv 5) CBoard.cl m_Board_number hr) (pa_cons (pe_fz (pm0 (pv 5) CBoard.cl m_Board_worths hr)) pa_nil))) (nomark _))
          (pss_one (ps_ret pe_bl))
          pss_nil)))))))
      (pss_one (ps_ret (pe_and (pe_cmpR (op_eqD hr.units) (pe_fz (pm0 (pv 7) CHearer.cl m_Hearer_held hr)) (pe_lst pa_nil) (nomark _)) (pe_one (pe_cmpR (op_eqD hr.units) (pe_fz (pm0 (pv 8) CHearer.cl m_Hearer_held hr)) (pe_lst pa_nil) (nomark _))))))))))))))), ?_⟩
  have z0 : 0 ≤ sizeLine := by decide
  refine ⟨_, rfl, rfl, c, ns, [], rfl, by omega, fc, .nil, fun a H1 m1 d1 => ?_⟩
  refine ⟨_, rfl, rfl, a, [], rfl, d1, fun nk keep tc H2 hk hk8 hkp m2 d2 htc => ?_⟩
  refine ⟨tc, _, rfl, SqT.of htc, rfl, _, _, rfl, _, _, rfl, rfl, ?_⟩
  refine ⟨_, rfl, _, rfl, rfl, a, nk, 40, _, rfl, hk, hk8, by decide, d2, fun cs v0 H3 hcl hck m3 d3 r0 => ?_⟩
  obtain ⟨al, xl, rfl, fl, rxl⟩ := r0.lst_inv
  have hxl : xl.length = cs.length := by rw [rxl.length, List.length_map]
  -- board, letters = Board(keys, keep), []
  refine ⟨_, rfl, _, rfl, fun x1 dx1 hx1 hd1 hn1 => ?_⟩
  have t4 := mk_tr (C := CB) hx1 hd1 hn1
  refine ⟨rfl, x1, dx1, nk, keep, rfl, hk, hk8, hkp, upd_same, fun B cb H4 e1 R4 u4 => ⟨rfl, z0, fun l6 hl6 => ⟨_, _, rfl, ?_⟩⟩⟩
  subst e1
  have t4 := (t4.trans u4).old (o := .lst []) hl6
  have R4 := R4.mono (Mono.new (o := .lst []) hl6)
  have d4 := d3.tr0 t4
  -- one, two = Hearer(keys), Hearer(keys)
  refine ⟨_, rfl, fun x2 dx2 hx2 hd2 hn2 => ?_⟩
  have t5 := mk_tr (C := C) hx2 hd2 hn2
  refine ⟨rfl, x2, dx2, nk, rfl, hk, hk8, upd_same, fun A1 k1 H5 e2 R5 u5 => ⟨rfl, ?_⟩⟩
  subst e2
  have t5 := t5.trans u5
  have d5 := Dice.tr (C := []) d4 t5
  refine ⟨_, rfl, fun x3 dx3 hx3 hd3 hn3 => ?_⟩
  have t6 := mk_tr (C := C) hx3 hd3 hn3
  refine ⟨rfl, x3, dx3, nk, rfl, hk, hk8, upd_same, fun A2 k2 H6 e3 R6 u6 => ⟨rfl, _, _, rfl, ?_⟩⟩
  subst e3
  have t6 := t6.trans u6
  have d6 := Dice.tr (C := []) d5 t6
  have m46 := t5.mono.trans t6.mono
  have m36 := t4.mono.trans m46
  -- for key, word, worth in changes_here
  refine ⟨_, rfl, al, rfl, ⟨_, (fl.mono m36).sq⟩, for_list (K := K) (a := al) (xs := xl) (fun i σ H => ∃ (S : List Sd) (cb : Lg) (v9 v10 v11 v12 v13 v14 : Option V), σ = [some (.ref c), some (.ref a), some (.int nk), some (.int keep), some (.ref al), some (.ref B.p), some (.ref l6), some (.ref A1.p), some (.ref A2.p), v9, v10, v11, v12, v13, v14, none, none, none] ∧
      Mono H6 H ∧ Dice K H a (kS S ++ cb) ∧ BR K CB B nk keep (cs.take i) H cb ∧ Sds K C nk cs S H ∧ S.map Sd.A = [A1, A2])
    ⟨[⟨A1, List.replicate nk HK.ini, k1⟩, ⟨A2, List.replicate nk HK.ini, k2⟩], cb, none, none, none, none, none, none, rfl, Mono.refl _, ?_, R4.mono m46, ⟨fun sd h => ?_⟩, rfl⟩ (fun i σ H _ ⟨_, _, _, _, _, _, _, _, _, m, _⟩ => (fl.mono (m36.trans m)).sq) ?_ ?_⟩
  · refine d6.perm ?_
    show (k2 ++ (k1 ++ cb)).Perm ((k1 ++ (k2 ++ [])) ++ cb)
    rw [List.append_nil, ← List.append_assoc]
    exact List.Perm.append_right _ List.perm_append_comm
  · simp only [List.mem_cons, List.not_mem_nil, or_false] at h
    rcases h with rfl | rfl
    · exact ⟨R5.mono t6.mono, AllI.ini nk cs⟩
    · exact ⟨R6, AllI.ini nk cs⟩
  · rintro i x σ H hi ⟨S, cb, v9, v10, v11, v12, v13, v14, rfl, mH, dH, RB, sds, hA⟩
    have hi' : i < cs.length := by
      have := (List.getElem?_eq_some_iff.mp hi).1
      omega
    obtain ⟨ch, ec⟩ : ∃ ch, cs[i]? = some ch := ⟨cs[i], List.getElem?_eq_getElem hi'⟩
    obtain ⟨u, eu, ru⟩ := (rxl.mono (m36.trans mH)).get (i := i) (d := ch.enc) (by rw [List.getElem?_map, ec]; rfl)
    rw [hi] at eu
    cases eu
    obtain ⟨ac, rfl, hac⟩ := ru.ch_inv
    refine ⟨ac, _, rfl, SqT.of hac, rfl, _, _, rfl, _, _, rfl, _, _, rfl, rfl, ?_⟩
    have hb : Has H cb := dH.has.right
    have elen : (cs.take i).length = i := by
      rw [List.length_take]
      omega
    refine ⟨_, rfl, B.p, _, _, rfl, RB.at_p hb, bFno, _, rfl, _, rfl, _, rfl, rfl, B, nk, keep, cs.take i, cb, ch, rfl, RB, hb, hck ch (List.mem_of_getElem? ec), hk8, hkp, fun v12 cb' H10 R10 t10 r10 => ?_⟩
    have d10 : Dice K H10 a (kS S ++ cb') := dH.tr0 (t10.left (D := kS S))
    rw [elen] at r10
    rw [← take_snoc ec] at R10
    have il : IsLet nk cs (.change (i + 1) ch (lof (cs.take i) ch.key)) := .change ec
    have s10 := sds.mono t10.mono
    have up : ∀ {n : Nat} {l : Letter}, IsLet nk (cs.take n) l → IsLet nk cs l := fun {n l} h => by
      have := h.on (ds := cs.drop n)
      rwa [List.take_append_drop] at this
    -- for hearer in (one, two)
    refine ⟨_, rfl, _, rfl, (by show 2 ≤ sizeLine; decide), fun t ht => ?_⟩
    have m11 := Mono.new (o := .tup [.ref A1.p, .ref A2.p]) ht
    have hT : (upd H10 t (.tup [.ref A1.p, .ref A2.p])) t = some (.tup [.ref A1.p, .ref A2.p]) := upd_same
    have d11 := d10.old (o := .tup [.ref A1.p, .ref A2.p]) ht
    have s11 := s10.mono m11
    have R11 := R10.mono m11
    have r11 := r10.mono m11
    have mH11 := t10.mono.trans m11
    generalize upd H10 t (.tup [.ref A1.p, .ref A2.p]) = H11 at *
    refine ⟨t, rfl, ⟨_, SqT.of hT⟩, for_tup (K := K) (a := t) (xs := [.ref A1.p, .ref A2.p]) (fun j σ H => ∃ (S : List Sd) (v13 v14 : Option V), σ = [some (.ref c), some (.ref a), some (.int nk), some (.int keep), some (.ref al), some (.ref B.p), some (.ref l6), some (.ref A1.p), some (.ref A2.p), some (.int ch.key), some (.str (wd ch.set)), some (.int ch.worth), some v12, v13, v14, none, none, none] ∧
        Mono H11 H ∧ Dice K H a (kS S ++ cb') ∧ Sds K C nk cs S H ∧ S.map Sd.A = [A1, A2])
      ⟨S, v13, v14, rfl, Mono.refl _, d11, s11, hA⟩ (fun j σ H _ ⟨_, _, _, _, m, _⟩ => SqT.of (m _ _ hT trivial)) ?_ ?_⟩
    · rintro j x σ H hj ⟨S, v13, v14, rfl, mJ, dJ, sJ, hA⟩
      obtain ⟨sd, es, rfl⟩ := two_get hA hj
      have hear1 : ∀ {H' : Hp} {l : Letter} {v : V}, Dice K H' a (kS S ++ cb') → Sds K C nk cs S H' → Rp K H' l.enc v → IsLet nk cs l → ∀ {σ : L2.St} {Q : VK} {ta : TA}, True := fun _ _ _ _ => trivial
      -- if next(d, 3) > 0: hearer.hear(letter)
      refine rd_mid (fun σ' H' => σ' = [some (.ref c), some (.ref a), some (.int nk), some (.int keep), some (.ref al), some (.ref B.p), some (.ref l6), some (.ref A1.p), some (.ref A2.p), some (.int ch.key), some (.str (wd ch.set)), some (.int ch.worth), some v12, some (.ref sd.A.p), v14, none, none, none] ∧
        ∃ (S : List Sd) (sd' : Sd), S[j]? = some sd' ∧ sd'.A = sd.A ∧ Mono H11 H' ∧ Dice K H' a (kS S ++ cb') ∧ Sds K C nk cs S H' ∧ S.map Sd.A = [A1, A2]) ?_ ?_
      · refine ⟨_, rfl, rfl, a, 3, _, rfl, by decide, by decide, dJ, fun r14 H14 p14 q14 m14 d14 => ⟨_, _, rfl, rfl, _, rfl, ite2 (fun h => ?_) fun h => ?_⟩⟩
        · have dp := d14.pick es
          obtain ⟨r, ai⟩ := (sJ.mono m14).at_ sd (List.mem_of_getElem? es)
          refine ⟨_, rfl, sd.A.p, _, _, rfl, r.at_p dp.has.left, hFno, _, rfl, rfl, sd.A, sd.hs, sd.k, v12, _, rfl, r, dp.has.left, r11.mono (mJ.trans m14), by rw [ai.1]; exact hk8, ai.wf (by omega), let_ok hck ai.1 il, fun f1 k' H15 r15 t15 => ?_⟩
          have d15 := (dp.tr t15).tail
          refine ⟨rfl, S.set j ⟨sd.A, hear sd.hs _, k'⟩, ⟨sd.A, hear sd.hs _, k'⟩, List.getElem?_set_self (List.getElem?_eq_some_iff.mp es).1, rfl, (mJ.trans m14).trans t15.mono, Dice.back (sd' := ⟨sd.A, hear sd.hs _, k'⟩) d15 es, ((sJ.mono m14).mono t15.mono).set r15 (ai.hear il), two_set hA es rfl⟩
        · exact ⟨rfl, S, sd, es, rfl, mJ.trans m14, d14, sJ.mono m14, hA⟩
      clear es dJ sJ hA mJ hear1
      rintro _ H14 ⟨rfl, S, sd', es, ea, m14, d14, s14, hA⟩
      rw [← ea]
      refine ⟨_, rfl, rfl, a, 9, _, rfl, by decide, by decide, d14, fun r15 H15 p15 q15 m15 d15 => ⟨rfl, _, rfl, ite2 (fun h => ?_) fun h => ?_⟩⟩
      · refine ⟨_, rfl, _, rfl, rfl, a, (nk : Int), _, rfl, by omega, by omega, d15, fun r16 H16 p16 q16 m16 d16 => ?_⟩
        obtain ⟨b, rfl, hb⟩ : ∃ b : Nat, r16 = b ∧ b < nk := ⟨r16.toNat, by omega, by omega⟩
        have mm := (m14.trans m15).trans m16
        have dp := d16.pick es
        obtain ⟨r, ai⟩ := (s14.mono (m15.trans m16)).at_ sd' (List.mem_of_getElem? es)
        have RB16 := R11.mono mm
        refine ⟨_, rfl, sd'.A.p, _, _, rfl, r.at_p dp.has.left, hFno, _, rfl, B.p, _, _, rfl, RB16.at_p dp.has.right.right, bFno, _, rfl, _, rfl, _, _, rfl, rfl, _, rfl, _, rfl, _, rfl, _, _, rfl, rfl, rfl, a, (nk : Int) - b, _, rfl, by omega, by omega, dp, fun r17 H17 p17 q17 m17 d17 => ⟨_, _, rfl, rfl, ?_⟩⟩
        obtain ⟨e, ee⟩ : ∃ e : Nat, (b : Int) + 1 + r17 = e := ⟨((b : Int) + 1 + r17).toNat, by omega⟩
        refine ⟨rfl, B, nk, keep, cs.take (i + 1), cb', b, e, (by rw [← ee]; rfl), RB16.mono m17, d17.has.right.right, by omega, by omega, hk8, fun v18 H18 g18 r18 => ?_⟩
        have d18 := d17.grow g18
        have il2 : IsLet nk cs (partL (cs.take (i + 1)) (cs.take (i + 1)).length b e) := up (.part (Nat.le_refl _) (by omega) (by omega))
        have r' := (r.mono m17).mono g18.mono
        refine ⟨rfl, sd'.A, sd'.hs, sd'.k, v18, _, rfl, r', d18.has.left, r18, by rw [ai.1]; exact hk8, ai.wf (by omega), let_ok hck ai.1 il2, fun f1 k' H19 r19 t19 => ?_⟩
        have d19 := (d18.tr t19).tail
        exact ⟨S.set j ⟨sd'.A, hear sd'.hs _, k'⟩, _, _, rfl, ((mm.trans m17).trans g18.mono).trans t19.mono, Dice.back (sd' := ⟨sd'.A, hear sd'.hs _, k'⟩) d19 es, ((((s14.mono (m15.trans m16)).mono m17).mono g18.mono).mono t19.mono).set r19 (ai.hear il2), two_set hA es rfl⟩
      · exact ⟨S, _, _, rfl, m14.trans m15, d15, s14.mono m15, hA⟩
    · rintro σ H ⟨S, v13, v14, rfl, mJ, dJ, sJ, hA⟩
      exact ⟨S, cb', _, _, _, _, _, _, rfl, mH.trans (mH11.trans mJ), dJ, R11.mono mJ, sJ, hA⟩
  rintro σ H ⟨S, cb, v9, v10, v11, v12, v13, v14, rfl, mH, dH, RB, sds, hA⟩
  rw [hxl, List.take_length] at RB
  obtain ⟨s1, s2, rfl, rfl, rfl⟩ := two_inv hA
  obtain ⟨r1, ai1⟩ := sds.at_ s1 (by simp)
  obtain ⟨r2, ai2⟩ := sds.at_ s2 (by simp)
  have b1 : ∀ {H' : Hp} {R : Lg}, Has H' (kS [s1, s2] ++ R) → Has H' s1.k ∧ Has H' s2.k := fun h => ⟨(h.perm (kS_at (j := 0) (sd := s1) rfl)).left, (h.perm (kS_at (j := 1) (sd := s2) rfl)).left⟩
  -- known = [min(pair) for pair in zip(one.known(), two.known())]
  refine rd_known (by rfl) r1 (b1 dH.has).1 fun p1 H7 g7 f7 => rd_known (by rfl) (r2.mono g7.mono) (b1 (dH.grow g7).has).2 fun p2 H8 g8 f8 => ?_
  have f7 := f7.mono g8.mono
  have d8 := (dH.grow g7).grow g8
  have m8 := mH.trans (g7.mono.trans g8.mono)
  have sds8 := (sds.mono g7.mono).mono g8.mono
  have kn1 := ai1.kn
  have kn2 := ai2.kn
  refine ⟨p1, p2, _, _, rfl, f7.sq, f8.sq, fun D hD => ?_⟩
  refine lc_zn (by simp only [List.length_map]; rw [ai1.1, ai2.1]) (fun i H => Tr H8 [] H [(D, .lst (((loU (s1.hs.map fun h => h.upto) (s2.hs.map fun h => h.upto)).take i).map V.int))]) ((Tr.refl H8 []).new hD nl) (fun i H t => ⟨(f7.mono t.mono).sq, (f8.mono t.mono).sq⟩) ?_ ?_
  · rintro i x y t H hx hy tr ht
    obtain ⟨z1, e1, rfl⟩ := int_get hx
    obtain ⟨z2, e2, rfl⟩ := int_get hy
    have tr2 := tr.old (o := .tup [.int z1, .int z2]) ht
    have hi1 := (List.getElem?_eq_some_iff.mp e1).1
    refine ⟨rfl, _, rfl, t, z1, z2, rfl, SqT.of upd_same, _, tr2.own.head, ?_, ?_⟩
    · rw [List.length_map, List.length_take]
      have := kn1.len
      exact small1000 (by omega)
    · have e3 : (loU (s1.hs.map fun h => h.upto) (s2.hs.map fun h => h.upto))[i]? = some (min z1 z2) := by
        rw [loU, List.getElem?_zipWith, e1, e2]
      rw [take_snoc e3, List.map_append]
      exact tr2.put .nil nl
  rintro H9 t9
  have hlo : (loU (s1.hs.map fun h => h.upto) (s2.hs.map fun h => h.upto)).length = nk := by
    rw [loU, List.length_zipWith, kn1.len, kn2.len]
    omega
  rw [List.length_map, kn1.len, List.take_of_length_le (by omega)] at t9
  have loAt : ∀ (k : Nat) (g h : HK), s1.hs[k]? = some g → s2.hs[k]? = some h → (loU (s1.hs.map fun h => h.upto) (s2.hs.map fun h => h.upto)).getD k 0 = min g.upto h.upto := fun k g h e1 e2 => by
    rw [List.getD_eq_getElem?_getD, loU, List.getElem?_zipWith, List.getElem?_map, List.getElem?_map, e1, e2]
    rfl
  have kn : Kn nk cs (loU (s1.hs.map fun h => h.upto) (s2.hs.map fun h => h.upto)) := ⟨hlo, fun n hn => by
    obtain ⟨i, hi⟩ := List.getElem?_of_mem hn
    rw [loU, List.getElem?_zipWith] at hi
    cases e1 : (s1.hs.map fun h => h.upto)[i]? with
    | none =>
      rw [e1] at hi
      simp at hi
    | some z1 =>
      cases e2 : (s2.hs.map fun h => h.upto)[i]? with
      | none =>
        rw [e1, e2] at hi
        simp at hi
      | some z2 =>
        rw [e1, e2] at hi
        have hi : min z1 z2 = n := by simpa using hi
        have := kn1.bd z1 (List.mem_of_getElem? e1)
        have := kn2.bd z2 (List.mem_of_getElem? e2)
        omega⟩
  have hns : ∀ sd ∈ [s1, s2], ∀ (k : Nat) (h : HK), sd.hs[k]? = some h → (loU (s1.hs.map fun h => h.upto) (s2.hs.map fun h => h.upto)).getD k 0 ≤ h.upto := fun sd hsd k h e => by
    have hl1 := ai1.1
    have hl2 := ai2.1
    simp only [List.mem_cons, List.not_mem_nil, or_false] at hsd
    rcases hsd with rfl | rfl
    · have := (List.getElem?_eq_some_iff.mp e).1
      obtain ⟨g, eg⟩ : ∃ g, s2.hs[k]? = some g := ⟨s2.hs[k]'(by omega), List.getElem?_eq_getElem _⟩
      rw [loAt k h g e eg]
      omega
    · have := (List.getElem?_eq_some_iff.mp e).1
      obtain ⟨g, eg⟩ : ∃ g, s1.hs[k]? = some g := ⟨s1.hs[k]'(by omega), List.getElem?_eq_getElem _⟩
      rw [loAt k g h eg e]
      omega
  generalize loU (s1.hs.map fun h => h.upto) (s2.hs.map fun h => h.upto) = zs at *
  have d9 := Dice.tr (C := []) d8 t9
  have RB9 := (RB.mono (g7.mono.trans g8.mono)).mono t9.mono
  -- letters = answer(board, known)
  refine ⟨_, rfl, _, rfl, rfl, B, nk, keep, cs, cb, D, zs, rfl, RB9, d9.has.right.right, StL.has d9.has List.mem_cons_self, kn, hk8, hkp, fun r13 xs ls H13 t13 rx13 br _ hl13 => ?_⟩
  have d13 := (Dice.tr (C := []) d9 t13).sub (R' := (r13, .lst xs) :: (kS [s1, s2] ++ cb)) (List.Sublist.cons_cons _ (List.sublist_cons_self _ _))
  have d13 : Dice K H13 a (kS [s1, s2] ++ ((r13, .lst xs) :: cb)) := d13.perm List.perm_middle.symm
  have RB13 := RB9.mono t13.mono
  have sds13 := (sds8.mono t9.mono).mono t13.mono
  have hxs : xs.length = ls.length := by rw [rx13.length, List.length_map]
  -- for hearer in (one, two)
  refine ⟨_, rfl, _, rfl, (by show 2 ≤ sizeLine; decide), fun t ht => ?_⟩
  have m14 := Mono.new (o := .tup [.ref s1.A.p, .ref s2.A.p]) ht
  have hT : (upd H13 t (.tup [.ref s1.A.p, .ref s2.A.p])) t = some (.tup [.ref s1.A.p, .ref s2.A.p]) := upd_same
  have d14 := d13.old (o := .tup [.ref s1.A.p, .ref s2.A.p]) ht
  have sds14 := sds13.mono m14
  have RB14 := RB13.mono m14
  have rx14 := rx13.mono m14
  generalize upd H13 t (.tup [.ref s1.A.p, .ref s2.A.p]) = H14 at *
  refine ⟨t, rfl, ⟨_, SqT.of hT⟩, for_tup (K := K) (a := t) (xs := [.ref s1.A.p, .ref s2.A.p]) (fun j σ H => ∃ (S : List Sd) (v9 v12 v13 v16 : Option V), σ = [some (.ref c), some (.ref a), some (.int nk), some (.int keep), some (.ref al), some (.ref B.p), some (.ref r13), some (.ref s1.A.p), some (.ref s2.A.p), v9, v10, v11, v12, v13, v14, some (.ref D), v16, none] ∧
      Mono H14 H ∧ Dice K H a (kS S ++ ((r13, .lst xs) :: cb)) ∧ Sds K C nk cs S H ∧ S.map Sd.A = [s1.A, s2.A] ∧ (∀ sd ∈ S, ∀ (k : Nat) (h : HK), sd.hs[k]? = some h → zs.getD k 0 ≤ h.upto) ∧ (∀ (i : Nat) (sd : Sd), i < j → S[i]? = some sd → ∀ (k : Nat) (h : HK), sd.hs[k]? = some h → (lof cs k : Int) ≤ h.upto))
    ⟨[s1, s2], v9, v12, v13, none, rfl, Mono.refl _, d14, sds14, rfl, hns, fun i sd h => absurd h (Nat.not_lt_zero _)⟩ (fun j σ H _ ⟨_, _, _, _, _, _, m, _⟩ => SqT.of (m _ _ hT trivial)) ?_ ?_⟩
  · rintro j x σ H hj ⟨S, v9, v12, v13, v16, rfl, mJ, dJ, sJ, hA, hnJ, hup⟩
    obtain ⟨sd, es, rfl⟩ := two_get hA hj
    obtain ⟨r, ai⟩ := sJ.at_ sd (List.mem_of_getElem? es)
    -- for letter in mixed(d, letters): hearer.hear(letter)
    refine ⟨_, rfl, _, rfl, rfl, a, r13, ls, xs, _, rfl, dJ, SqL.of dJ.has.right.head, rx14.mono mJ, by omega, fun p15 ys ms H15 m15 d15 ry15 hml hin hout => ?_⟩
    have d15 : Dice K H15 a ((p15, .lst ys) :: (sd.k ++ (rS S j ++ ((r13, .lst xs) :: cb)))) := d15.perm (List.Perm.cons _ (kS_at es))
    have hmL : ∀ l ∈ ms, IsLet nk cs l := fun l hl => br.lets (Nat.le_refl nk) l (hout l hl)
    refine ⟨p15, rfl, ⟨_, SqL.of d15.at_⟩, for_hear (σ := [some (.ref c), some (.ref a), some (.int nk), some (.int keep), some (.ref al), some (.ref B.p), some (.ref r13), some (.ref s1.A.p), some (.ref s2.A.p), v9, v10, v11, v12, some (.ref sd.A.p), v14, some (.ref D), v16, none]) (by decide : 12 < 18) (fun _ => rfl) d15.has ry15 (r.mono m15) ai hk8 (by omega) hck hmL fun w12 k2 H16 t16 HR16 => ?_⟩
    have hd := heard_all ai hmL
    have d16 : Dice K H16 a (k2 ++ (rS S j ++ ((r13, .lst xs) :: cb))) := (d15.tr0 ((t16.right (D := rS S j ++ ((r13, .lst xs) :: cb))).left (D := [(p15, .lst ys)]))).tail
    have m16 : Mono H H16 := m15.trans t16.mono
    have up := bring_up0 hd.ai br kn (fun k h e => by
      have hk' : k < nk := by
        have := (List.getElem?_eq_some_iff.mp e).1
        have := hd.ai.1
        omega
      obtain ⟨g, eg⟩ : ∃ g, sd.hs[k]? = some g := ⟨sd.hs[k]'(by rw [ai.1]; exact hk'), List.getElem?_eq_getElem _⟩
      exact Int.le_trans (hnJ sd (List.mem_of_getElem? es) k g eg) (hd.up k g h eg e)) hin hd.got
    have ai' := hd.ai
    have up1 := hd.up
    clear hd
    generalize ms.foldl hear sd.hs = hs' at *
    have R16 := (RB14.mono mJ).mono m16
    have hcb : ∀ {H : Hp} {X Y : Lg}, Has H (X ++ (Y ++ ((r13, HO.lst xs) :: cb))) → Has H cb := fun h => h.right.right.tail
    show tSeq _ _ _ [some (.ref c), some (.ref a), some (.int nk), some (.int keep), some (.ref al), some (.ref B.p), some (.ref r13), some (.ref s1.A.p), some (.ref s2.A.p), v9, v10, v11, w12, some (.ref sd.A.p), v14, some (.ref D), v16, none] H16
    -- for key in range(keys)
    refine ⟨_, rfl, _, rfl, by omega, by omega, for_range (lo := 0) (n := (nk : Int).toNat) (fun j σ H => ∃ v9 v16, σ = [some (.ref c), some (.ref a), some (.int nk), some (.int keep), some (.ref al), some (.ref B.p), some (.ref r13), some (.ref s1.A.p), some (.ref s2.A.p), v9, v10, v11, w12, some (.ref sd.A.p), v14, some (.ref D), v16, none] ∧ Grow H16 H)
      ⟨v9, v16, rfl, Grow.refl _⟩ ?_ ?_⟩
    · rintro q σ H17 hq ⟨v9, v16, rfl, g17⟩
      have hq' : q < nk := by omega
      have ez : ((0 : Int) + q) = (q : Int) := by omega
      obtain ⟨h, eh⟩ : ∃ h, hs'[q]? = some h := ⟨hs'[q]'(by rw [ai'.1]; exact hq'), List.getElem?_eq_getElem _⟩
      have hu := up q h eh
      obtain ⟨w1, w2⟩ := full_look (ai'.2 q h eh) hu
      have d17 := d16.grow g17
      refine rd_look (by rfl) (HR16.mono g17.mono) d17.has.left (by rfl) ez eh fun v18 H18 g18 r18 => ?_
      obtain ⟨t18, rfl, ht18⟩ := r18.look_inv (by omega)
      have g18' := g17.trans g18
      have d18 := d16.grow g18'
      refine ⟨_, rfl, rfl, _, rfl, iteM (by simp) (iteM (by simp) ⟨_, rfl, rfl, _, rfl, iteP (by simp) ⟨_, rfl, t18, _, _, _, rfl, rfl, SqT.of ht18, rfl, ?_⟩⟩)⟩
      refine rd_blasts (by rfl) (R16.mono g18'.mono) (hcb d18.has) fun p20 H20 g20 f20 => ?_
      have g20' := g18'.trans g20
      have d20 := d16.grow g20'
      have ht20 := g20.mono _ _ ht18 trivial
      refine ⟨_, rfl, p20, _, _, _, rfl, rfl, f20.sq, at_of (j := q) ez (by rw [List.getElem?_map, lrow_get hq']; rfl), _, _, rfl, rfl, _, rfl, iteM (by simp; omega) ⟨_, rfl, rfl, _, rfl, iteP (by simp) ⟨_, rfl, t18, _, _, _, rfl, rfl, SqT.of ht20, rfl, ?_⟩⟩⟩
      refine rd_bworths (by rfl) (R16.mono g20'.mono) (hcb d20.has) fun p21 H21 g21 f21 => ?_
      refine ⟨_, rfl, p21, _, _, _, rfl, rfl, f21.sq, at_of (j := q) ez (by rw [List.getElem?_map, wrow_get hq']; rfl), rfl, _, rfl, iteM (by rw [w1]; simp) ?_⟩
      exact ⟨_, _, rfl, g20'.trans g21⟩
    rintro σ H17 ⟨v9, v16, rfl, g17⟩
    have d17 := d16.grow g17
    have R17 := R16.mono g17.mono
    -- for letter in mixed(d, [board.part(0, keys), board.beat()]): hearer.hear(letter)
    refine ⟨_, rfl, _, rfl, B.p, _, _, rfl, R17.at_p (hcb d17.has), bFno, _, rfl, rfl, B, nk, keep, cs, cb, 0, nk, rfl, R17, hcb d17.has, hk, Nat.le_refl _, hk8, fun v18 H18 g18 r18 => ?_⟩
    have d18 := d17.grow g18
    refine rd_bbeat (by rfl) (R17.mono g18.mono) (hcb d18.has) fun v19 H19 g19 r19 => ⟨(by show 2 ≤ sizeLine; decide), fun q20 hq20 => ?_⟩
    have d20 := (d18.grow g19).new (o := .lst [v18, v19]) hq20 nl
    have mn20 := Mono.new (o := .lst [v18, v19]) hq20
    have m1720 := (g18.mono.trans g19.mono).trans mn20
    refine ⟨rfl, a, q20, [partL cs cs.length 0 nk, beatL nk cs cs.length], [v18, v19], _, rfl, d20, SqL.of d20.at_, .cons ((r18.mono g19.mono).mono mn20) (.cons (r19.mono mn20) .nil), (by show 2 ≤ 1000; decide), fun p21 ys2 ms2 H21 m21 d21 ry21 hml2 hin2 hout2 => ?_⟩
    have d21 : Dice K H21 a ((p21, .lst ys2) :: (k2 ++ (rS S j ++ ((r13, .lst xs) :: cb)))) := d21.sub (List.Sublist.cons_cons _ (List.sublist_cons_self _ _))
    have hmL2 : ∀ l ∈ ms2, IsLet nk cs l := fun l hl => by
      have := hout2 l hl
      simp only [List.mem_cons, List.not_mem_nil, or_false] at this
      rcases this with rfl | rfl
      · exact .part (Nat.le_refl _) hk (Nat.le_refl _)
      · exact .beat (Nat.le_refl _)
    have HR21 := ((HR16.mono g17.mono).mono m1720).mono m21
    refine ⟨p21, rfl, ⟨_, SqL.of d21.at_⟩, for_hear (σ := [some (.ref c), some (.ref a), some (.int nk), some (.int keep), some (.ref al), some (.ref B.p), some (.ref r13), some (.ref s1.A.p), some (.ref s2.A.p), v9, v10, v11, w12, some (.ref sd.A.p), v14, some (.ref D), v16, none]) (by decide : 12 < 18) (fun _ => rfl) d21.has ry21 HR21 ai' hk8 (by omega) hck hmL2 fun y12 k3 H22 t22 HR22 => ?_⟩
    have hd2 := heard_all ai' hmL2
    have d22 : Dice K H22 a (k3 ++ (rS S j ++ ((r13, .lst xs) :: cb))) := (d21.tr0 ((t22.right (D := rS S j ++ ((r13, .lst xs) :: cb))).left (D := [(p21, .lst ys2)]))).tail
    have m22 : Mono H16 H22 := ((g17.mono.trans m1720).trans m21).trans t22.mono
    have ai2' := hd2.ai
    have up2 := hd2.up
    clear hd2
    generalize ms2.foldl hear hs' = hs2 at *
    have upB : ∀ (k : Nat) (h : HK), hs2[k]? = some h → (lof cs k : Int) ≤ h.upto := fun k h e => by
      obtain ⟨g, eg⟩ : ∃ g, hs'[k]? = some g := ⟨hs'[k]'(by have := (List.getElem?_eq_some_iff.mp e).1; have := ai'.1; have := ai2'.1; omega), List.getElem?_eq_getElem _⟩
      exact Int.le_trans (up k g eg) (up2 k g h eg e)
    show tSeq _ _ _ [some (.ref c), some (.ref a), some (.int nk), some (.int keep), some (.ref al), some (.ref B.p), some (.ref r13), some (.ref s1.A.p), some (.ref s2.A.p), v9, v10, v11, y12, some (.ref sd.A.p), v14, some (.ref D), v16, none] H22
    have R22 := R16.mono m22
    -- hearer.hear(board.beat())
    refine ⟨_, rfl, sd.A.p, _, _, rfl, HR22.at_p d22.has.left, hFno, ?_⟩
    refine rd_bbeat (by rfl) R22 (hcb d22.has) fun v23 H23 g23 r23 => ?_
    have d23 := d22.grow g23
    have il : IsLet nk cs (beatL nk cs cs.length) := .beat (Nat.le_refl _)
    refine ⟨rfl, sd.A, hs2, k3, v23, _, rfl, HR22.mono g23.mono, d23.has.left, r23, by rw [ai2'.1]; exact hk8, wf_up ai2' upB, let_ok hck ai2'.1 il, fun f1 k4 H24 HR24 t24 => ?_⟩
    have d24 := (d23.tr t24).tail
    have R24 := (R22.mono g23.mono).mono t24.mono
    obtain ⟨bw, bu⟩ := beat_whole ai2' hk upB
    -- hearer.whole() != (board.number(), board.worths())
    refine rd_whole (by rfl) HR24 d24.has.left (by rw [hear_len, ai2'.1]; exact hk) fun v25 H25 g25 r25 => ?_
    have d25 := d24.grow g25
    refine rd_bnumber (by rfl) (R24.mono g25.mono) (hcb d25.has) ?_
    refine rd_bworths (by rfl) (R24.mono g25.mono) (hcb d25.has) fun p26 H26 g26 f26 => ⟨(by show 2 ≤ sizeLine; decide), fun t27 ht27 => ?_⟩
    have e25 : wholeD (hear hs2 (beatL nk cs cs.length)) = .tuple [.int cs.length, ilst (wrow nk cs)] := by
      rw [wholeD, bw]
    rw [e25] at r25
    have gd : Gd 3 (.tuple [.int cs.length, ilst (wrow nk cs)]) := .tuple (.all_cons .int (.all_cons (.ilst _) .all_nil))
    refine ⟨_, _, ((r25.mono g26.mono).mono (Mono.new ht27)).dp, (Rp.tup (ds := [.int cs.length, ilst (wrow nk cs)]) upd_same (.cons .int (.cons (.il (f26.mono (Mono.new ht27))) .nil))).dp, gd.shaped, gd.shaped, _, rfl, ?_⟩
    rw [gd.refl]
    refine iteM (by decide) ?_
    have d27 := (d25.grow g26).old (o := .tup [.int cs.length, .ref p26]) ht27
    have m2427 := (g25.mono.trans g26.mono).trans (Mono.new (o := .tup [.int cs.length, .ref p26]) ht27)
    have mE : Mono H _ := (((m16.trans m22).trans g23.mono).trans t24.mono).trans m2427
    have aiE := ai2'.hear il
    have upE : ∀ (k : Nat) (h : HK), (hear hs2 (beatL nk cs cs.length))[k]? = some h → (lof cs k : Int) ≤ h.upto := fun k h e => by
      have := bu k h e
      have := lof_le cs k
      omega
    have hsj := (List.getElem?_eq_some_iff.mp es).1
    refine ⟨S.set j ⟨sd.A, hear hs2 (beatL nk cs cs.length), k4⟩, _, _, _, _, rfl, mJ.trans mE, Dice.back (sd' := ⟨sd.A, hear hs2 (beatL nk cs cs.length), k4⟩) d27 es, (sJ.mono mE).set (HR24.mono m2427) aiE, two_set hA es rfl, fun sd2 hsd2 k h e => ?_, fun i sd2 hi e2 k h e => ?_⟩
    · rcases List.mem_or_eq_of_mem_set hsd2 with h2 | rfl
      · exact hnJ sd2 h2 k h e
      · have h1 := bu k h e
        have h2 : zs.getD k 0 ≤ cs.length := by
          rw [List.getD_eq_getElem?_getD]
          cases ez : zs[k]? with
          | none =>
            show (0 : Int) ≤ cs.length
            omega
          | some z => exact (kn.bd z (List.mem_of_getElem? ez)).2
        omega
    · by_cases hij : j = i
      · subst hij
        rw [List.getElem?_set_self hsj] at e2
        cases e2
        exact upE k h e
      · rw [List.getElem?_set_ne hij] at e2
        exact hup i sd2 (by omega) e2 k h e
  rintro σ H ⟨S, v9, v12, v13, v16, rfl, mJ, dJ, sJ, hA, hnJ, hup⟩
  obtain ⟨u1, u2, rfl, ea1, ea2⟩ := two_inv hA
  obtain ⟨r1, ai1⟩ := sJ.at_ u1 (by simp)
  obtain ⟨r2, ai2⟩ := sJ.at_ u2 (by simp)
  rw [← ea1, ← ea2]
  have b1 : ∀ {H' : Hp} {R : Lg}, Has H' (kS [u1, u2] ++ R) → Has H' u1.k ∧ Has H' u2.k := fun h => ⟨(h.perm (kS_at (j := 0) (sd := u1) rfl)).left, (h.perm (kS_at (j := 1) (sd := u2) rfl)).left⟩
  have up1 := hup 0 u1 (by show 0 < 2; decide) rfl
  have up2 := hup 1 u2 (by show 1 < 2; decide) rfl
  have n1 : heldM u1.hs = [] := held_nil fun k g ek => up_nil (ai1.2 k g ek) (up1 k g ek)
  have n2 : heldM u2.hs = [] := held_nil fun k g ek => up_nil (ai2.2 k g ek) (up2 k g ek)
  refine rd_held (by rfl) r1 (b1 dJ.has).1 (by rw [flat_up ai1 up1]; exact Nat.zero_le _) fun p3 H3 g3 f3 => ?_
  rw [n1] at f3
  refine ⟨z0, fun e1 he1 => ⟨_, _, Dp.nil' (f3.mono (Mono.new he1)), Dp.nil upd_same, (Gd.nil (n := 0)).shaped, (Gd.nil (n := 0)).shaped, _, rfl, ?_⟩⟩
  have g4 := g3.old (o := .lst []) he1
  rw [(Gd.nil (n := 0)).refl]
  refine iteP rfl ?_
  refine rd_held (by rfl) (r2.mono g4.mono) (b1 (dJ.grow g4).has).2 (by rw [flat_up ai2 up2]; exact Nat.zero_le _) fun p5 H5 g5 f5 => ?_
  rw [n2] at f5
  refine ⟨z0, fun e2 he2 => ⟨_, _, Dp.nil' (f5.mono (Mono.new he2)), Dp.nil upd_same, (Gd.nil (n := 0)).shaped, (Gd.nil (n := 0)).shaped, ?_⟩⟩
  rw [(Gd.nil (n := 0)).refl]
  exact go _
end
end Cu

namespace Cu
open PySem PySem.Spec PyProof.Rows L2
theorem facts {l : PySem.W.OpenLaw} {w : World} {K : PySem.W.Frag} {h : Heap} {mg : Str → Option Value} {fa C_Hearer C_Board f1 f2 f3 f4 f5 f6 f7 f8 f9 f10 f11 f12 f13 f14 f15 f16 f17 f18 f19 f20 f21 f22 f23 f24 f25 f26 f27 f28 f29 f30 : Addr} (X : K.In h) (G : h.Ns mainGlobals mg) (hfa : mg "law" = some (.ref fa))
    {od1 an1 od2 an2 od3 an3 od4 an4 od5 an5 od6 an6 od7 an7 od8 an8 od9 an9 od10 an10 od11 an11 od12 an12 od13 an13 od14 an14 od15 an15 od16 an16 od17 an17 od18 an18 od19 an19 od20 an20 od21 an21 od22 an22 od23 an23 od24 an24 od25 an25 od26 an26 od27 an27 od28 an28 od29 an29 od30 an30 : Option Addr} {sl1 sl2 sl3 sl4 sl5 sl6 sl7 sl8 sl9 sl10 sl11 sl12 sl13 sl14 sl15 sl16 sl17 sl18 sl19 sl20 sl21 sl22 sl23 sl24 sl25 sl26 sl27 sl28 sl29 sl30 : Array (Option Value)} {oc1 kV1 dc1 pm1 cd1 ct1 oc2 kV2 dc2 pm2 cd2 ct2 oc3 kV3 dc3 pm3 cd3 ct3 oc4 kV4 dc4 pm4 cd4 ct4 oc5 kV5 dc5 pm5 cd5 ct5 oc6 kV6 dc6 pm6 cd6 ct6 oc7 kV7 dc7 pm7 cd7 ct7 oc8 kV8 dc8 pm8 cd8 ct8 oc9 kV9 dc9 pm9 cd9 ct9 oc10 kV10 dc10 pm10 cd10 ct10 oc11 kV11 dc11 pm11 cd11 ct11 oc12 kV12 dc12 pm12 cd12 ct12 oc13 kV13 dc13 pm13 cd13 ct13 oc14 kV14 dc14 pm14 cd14 ct14 oc15 kV15 dc15 pm15 cd15 ct15 oc16 kV16 dc16 pm16 cd16 ct16 oc17 kV17 dc17 pm17 cd17 ct17 oc18 kV18 dc18 pm18 cd18 ct18 oc19 kV19 dc19 pm19 cd19 ct19 oc20 kV20 dc20 pm20 cd20 ct20 oc21 kV21 dc21 pm21 cd21 ct21 oc22 kV22 dc22 pm22 cd22 ct22 oc23 kV23 dc23 pm23 cd23 ct23 oc24 kV24 dc24 pm24 cd24 ct24 oc25 kV25 dc25 pm25 cd25 ct25 oc26 kV26 dc26 pm26 cd26 ct26 oc27 kV27 dc27 pm27 cd27 ct27 oc28 kV28 dc28 pm28 cd28 ct28 oc29 kV29 dc29 pm29 cd29 ct29 oc30 kV30 dc30 pm30 cd30 ct30 : Value} {tk_PART tk_MOST_KEYS tk_MOST_TAIL : Tok}
    (b_len : PySem.W.nsIn K mainGlobals "len" = some none)
    (b_range : PySem.W.nsIn K mainGlobals "range" = some none)
    (b_int : PySem.W.nsIn K mainGlobals "int" = some none)
    (b_list : PySem.W.nsIn K mainGlobals "list" = some none)
    (b_tuple : PySem.W.nsIn K mainGlobals "tuple" = some none)
    (b_sorted : PySem.W.nsIn K mainGlobals "sorted" = some none)
    (b_min : PySem.W.nsIn K mainGlobals "min" = some none)
    (b_max : PySem.W.nsIn K mainGlobals "max" = some none)
    (b_sum : PySem.W.nsIn K mainGlobals "sum" = some none)
    (b_set : PySem.W.nsIn K mainGlobals "set" = some none)
    (b_str : PySem.W.nsIn K mainGlobals "str" = some none)
    (b_isinstance : PySem.W.nsIn K mainGlobals "isinstance" = some none)
    (b_enumerate : PySem.W.nsIn K mainGlobals "enumerate" = some none)
    (b_zip : PySem.W.nsIn K mainGlobals "zip" = some none)
    (b_bool : PySem.W.nsIn K mainGlobals "bool" = some none)
    (b_dict : PySem.W.nsIn K mainGlobals "dict" = some none)
    (c_PART : PySem.W.nsIn K mainGlobals "PART" = some (some (.int 2 tk_PART)))
    (c_MOST_KEYS : PySem.W.nsIn K mainGlobals "MOST_KEYS" = some (some (.int 8 tk_MOST_KEYS)))
    (c_MOST_TAIL : PySem.W.nsIn K mainGlobals "MOST_TAIL" = some (some (.int 20 tk_MOST_TAIL)))
    (ac_Hearer : PySem.W.nsIn K mainGlobals "Hearer" = some (some (.ref C_Hearer)))
    (pg_Hearer : PySem.W.plainGet K C_Hearer Str.empty = true)
    (hd_Hearer : PySem.W.hasDictIn K C_Hearer = true)
    (po_Hearer : PySem.W.plainOver K C_Hearer = true)
    (sa_Hearer : PySem.W.findIn K (.ref C_Hearer) "__setattr__" = some (some (.builtin "object.__setattr__")))
    (no0_Hearer : PySem.W.findIn K (.ref C_Hearer) "worth" = some none)
    (no1_Hearer : PySem.W.findIn K (.ref C_Hearer) "since" = some none)
    (no2_Hearer : PySem.W.findIn K (.ref C_Hearer) "upto" = some none)
    (no3_Hearer : PySem.W.findIn K (.ref C_Hearer) "aside" = some none)
    (ac_Board : PySem.W.nsIn K mainGlobals "Board" = some (some (.ref C_Board)))
    (pg_Board : PySem.W.plainGet K C_Board Str.empty = true)
    (hd_Board : PySem.W.hasDictIn K C_Board = true)
    (po_Board : PySem.W.plainOver K C_Board = true)
    (sa_Board : PySem.W.findIn K (.ref C_Board) "__setattr__" = some (some (.builtin "object.__setattr__")))
    (no0_Board : PySem.W.findIn K (.ref C_Board) "now" = some none)
    (no1_Board : PySem.W.findIn K (.ref C_Board) "keep" = some none)
    (no2_Board : PySem.W.findIn K (.ref C_Board) "rows" = some none)
    (no3_Board : PySem.W.findIn K (.ref C_Board) "many" = some none)
    (no4_Board : PySem.W.findIn K (.ref C_Board) "last" = some none)
    (a1 : PySem.W.nsIn K mainGlobals "_law_dice" = some (some (.ref f1)))
    (l1 : K.lookup f1 = some ⟨oc1, od1, .func (PySem.W.fnOf "_law_dice" "_law_dice" (defArgs s_dice) (defBody s_dice) (defScope s_dice) .none kV1 dc1 pm1 an1 cd1 ct1), sl1⟩)
    (d1 : PySem.W.codeIn K cd1 "_law_dice" = true)
    (k1 : PySem.W.keepIn K (.ref f1) = true)
    (a2 : PySem.W.nsIn K mainGlobals "_law_next" = some (some (.ref f2)))
    (l2 : K.lookup f2 = some ⟨oc2, od2, .func (PySem.W.fnOf "_law_next" "_law_next" (defArgs s_next) (defBody s_next) (defScope s_next) .none kV2 dc2 pm2 an2 cd2 ct2), sl2⟩)
    (d2 : PySem.W.codeIn K cd2 "_law_next" = true)
    (k2 : PySem.W.keepIn K (.ref f2) = true)
    (a3 : PySem.W.nsIn K mainGlobals "_law_counts" = some (some (.ref f3)))
    (l3 : K.lookup f3 = some ⟨oc3, od3, .func (PySem.W.fnOf "_law_counts" "_law_counts" (defArgs s_counts) (defBody s_counts) (defScope s_counts) .none kV3 dc3 pm3 an3 cd3 ct3), sl3⟩)
    (d3 : PySem.W.codeIn K cd3 "_law_counts" = true)
    (k3 : PySem.W.keepIn K (.ref f3) = true)
    (a4 : PySem.W.nsIn K mainGlobals "_law_worth" = some (some (.ref f4)))
    (l4 : K.lookup f4 = some ⟨oc4, od4, .func (PySem.W.fnOf "_law_worth" "_law_worth" (defArgs s_worth) (defBody s_worth) (defScope s_worth) .none kV4 dc4 pm4 an4 cd4 ct4), sl4⟩)
    (d4 : PySem.W.codeIn K cd4 "_law_worth" = true)
    (k4 : PySem.W.keepIn K (.ref f4) = true)
    (a5 : PySem.W.nsIn K mainGlobals "_law_changes" = some (some (.ref f5)))
    (l5 : K.lookup f5 = some ⟨oc5, od5, .func (PySem.W.fnOf "_law_changes" "_law_changes" (defArgs s_changes) (defBody s_changes) (defScope s_changes) .none kV5 dc5 pm5 an5 cd5 ct5), sl5⟩)
    (d5 : PySem.W.codeIn K cd5 "_law_changes" = true)
    (k5 : PySem.W.keepIn K (.ref f5) = true)
    (a6 : PySem.W.findIn K (.ref C_Board) "size" = some (some (.ref f6)))
    (i6 : PySem.W.isFn K (.ref f6) = true)
    (l6 : K.lookup f6 = some ⟨oc6, od6, .func (PySem.W.fnOf "size" "Board.size" (defArgs s_Board_size) (defBody s_Board_size) (defScope s_Board_size) .none kV6 dc6 pm6 an6 cd6 ct6), sl6⟩)
    (d6 : PySem.W.codeIn K cd6 "Board.size" = true)
    (k6 : PySem.W.keepIn K (.ref f6) = true)
    (a7 : PySem.W.findIn K (.ref C_Board) "number" = some (some (.ref f7)))
    (i7 : PySem.W.isFn K (.ref f7) = true)
    (l7 : K.lookup f7 = some ⟨oc7, od7, .func (PySem.W.fnOf "number" "Board.number" (defArgs s_Board_number) (defBody s_Board_number) (defScope s_Board_number) .none kV7 dc7 pm7 an7 cd7 ct7), sl7⟩)
    (d7 : PySem.W.codeIn K cd7 "Board.number" = true)
    (k7 : PySem.W.keepIn K (.ref f7) = true)
    (a8 : PySem.W.nsIn K mainGlobals "need_known" = some (some (.ref f8)))
    (l8 : K.lookup f8 = some ⟨oc8, od8, .func (PySem.W.fnOf "need_known" "need_known" (defArgs s_need_known) (defBody s_need_known) (defScope s_need_known) .none kV8 dc8 pm8 an8 cd8 ct8), sl8⟩)
    (d8 : PySem.W.codeIn K cd8 "need_known" = true)
    (k8 : PySem.W.keepIn K (.ref f8) = true)
    (a9 : PySem.W.findIn K (.ref C_Board) "lasts" = some (some (.ref f9)))
    (i9 : PySem.W.isFn K (.ref f9) = true)
    (l9 : K.lookup f9 = some ⟨oc9, od9, .func (PySem.W.fnOf "lasts" "Board.lasts" (defArgs s_Board_lasts) (defBody s_Board_lasts) (defScope s_Board_lasts) .none kV9 dc9 pm9 an9 cd9 ct9), sl9⟩)
    (d9 : PySem.W.codeIn K cd9 "Board.lasts" = true)
    (k9 : PySem.W.keepIn K (.ref f9) = true)
    (a10 : PySem.W.findIn K (.ref C_Board) "tail" = some (some (.ref f10)))
    (i10 : PySem.W.isFn K (.ref f10) = true)
    (l10 : K.lookup f10 = some ⟨oc10, od10, .func (PySem.W.fnOf "tail" "Board.tail" (defArgs s_Board_tail) (defBody s_Board_tail) (defScope s_Board_tail) .none kV10 dc10 pm10 an10 cd10 ct10), sl10⟩)
    (d10 : PySem.W.codeIn K cd10 "Board.tail" = true)
    (k10 : PySem.W.keepIn K (.ref f10) = true)
    (a11 : PySem.W.nsIn K mainGlobals "wanted" = some (some (.ref f11)))
    (l11 : K.lookup f11 = some ⟨oc11, od11, .func (PySem.W.fnOf "wanted" "wanted" (defArgs s_wanted) (defBody s_wanted) (defScope s_wanted) .none kV11 dc11 pm11 an11 cd11 ct11), sl11⟩)
    (d11 : PySem.W.codeIn K cd11 "wanted" = true)
    (k11 : PySem.W.keepIn K (.ref f11) = true)
    (a12 : PySem.W.nsIn K mainGlobals "levels" = some (some (.ref f12)))
    (l12 : K.lookup f12 = some ⟨oc12, od12, .func (PySem.W.fnOf "levels" "levels" (defArgs s_levels) (defBody s_levels) (defScope s_levels) .none kV12 dc12 pm12 an12 cd12 ct12), sl12⟩)
    (d12 : PySem.W.codeIn K cd12 "levels" = true)
    (k12 : PySem.W.keepIn K (.ref f12) = true)
    (a13 : PySem.W.findIn K (.ref C_Board) "part" = some (some (.ref f13)))
    (i13 : PySem.W.isFn K (.ref f13) = true)
    (l13 : K.lookup f13 = some ⟨oc13, od13, .func (PySem.W.fnOf "part" "Board.part" (defArgs s_Board_part) (defBody s_Board_part) (defScope s_Board_part) .none kV13 dc13 pm13 an13 cd13 ct13), sl13⟩)
    (d13 : PySem.W.codeIn K cd13 "Board.part" = true)
    (k13 : PySem.W.keepIn K (.ref f13) = true)
    (a14 : PySem.W.nsIn K mainGlobals "answer" = some (some (.ref f14)))
    (l14 : K.lookup f14 = some ⟨oc14, od14, .func (PySem.W.fnOf "answer" "answer" (defArgs s_answer) (defBody s_answer) (defScope s_answer) .none kV14 dc14 pm14 an14 cd14 ct14), sl14⟩)
    (d14 : PySem.W.codeIn K cd14 "answer" = true)
    (k14 : PySem.W.keepIn K (.ref f14) = true)
    (a15 : PySem.W.nsIn K mainGlobals "_law_mixed" = some (some (.ref f15)))
    (l15 : K.lookup f15 = some ⟨oc15, od15, .func (PySem.W.fnOf "_law_mixed" "_law_mixed" (defArgs s_mixed) (defBody s_mixed) (defScope s_mixed) .none kV15 dc15 pm15 an15 cd15 ct15), sl15⟩)
    (d15 : PySem.W.codeIn K cd15 "_law_mixed" = true)
    (k15 : PySem.W.keepIn K (.ref f15) = true)
    (a16 : PySem.W.findIn K (.ref C_Board) "__init__" = some (some (.ref f16)))
    (i16 : PySem.W.isFn K (.ref f16) = true)
    (l16 : K.lookup f16 = some ⟨oc16, od16, .func (PySem.W.fnOf "__init__" "Board.__init__" (defArgs s_Board_init) (defBody s_Board_init) (defScope s_Board_init) .none kV16 dc16 pm16 an16 cd16 ct16), sl16⟩)
    (d16 : PySem.W.codeIn K cd16 "Board.__init__" = true)
    (k16 : PySem.W.keepIn K (.ref f16) = true)
    (mk_Board : PySem.W.makesIn K C_Board = true)
    (kc_Board : PySem.W.keepIn K (.ref C_Board) = true)
    (a17 : PySem.W.findIn K (.ref C_Board) "change" = some (some (.ref f17)))
    (i17 : PySem.W.isFn K (.ref f17) = true)
    (l17 : K.lookup f17 = some ⟨oc17, od17, .func (PySem.W.fnOf "change" "Board.change" (defArgs s_Board_change) (defBody s_Board_change) (defScope s_Board_change) .none kV17 dc17 pm17 an17 cd17 ct17), sl17⟩)
    (d17 : PySem.W.codeIn K cd17 "Board.change" = true)
    (k17 : PySem.W.keepIn K (.ref f17) = true)
    (a18 : PySem.W.findIn K (.ref C_Board) "worths" = some (some (.ref f18)))
    (i18 : PySem.W.isFn K (.ref f18) = true)
    (l18 : K.lookup f18 = some ⟨oc18, od18, .func (PySem.W.fnOf "worths" "Board.worths" (defArgs s_Board_worths) (defBody s_Board_worths) (defScope s_Board_worths) .none kV18 dc18 pm18 an18 cd18 ct18), sl18⟩)
    (d18 : PySem.W.codeIn K cd18 "Board.worths" = true)
    (k18 : PySem.W.keepIn K (.ref f18) = true)
    (a19 : PySem.W.findIn K (.ref C_Board) "beat" = some (some (.ref f19)))
    (i19 : PySem.W.isFn K (.ref f19) = true)
    (l19 : K.lookup f19 = some ⟨oc19, od19, .func (PySem.W.fnOf "beat" "Board.beat" (defArgs s_Board_beat) (defBody s_Board_beat) (defScope s_Board_beat) .none kV19 dc19 pm19 an19 cd19 ct19), sl19⟩)
    (d19 : PySem.W.codeIn K cd19 "Board.beat" = true)
    (k19 : PySem.W.keepIn K (.ref f19) = true)
    (a20 : PySem.W.findIn K (.ref C_Hearer) "__init__" = some (some (.ref f20)))
    (i20 : PySem.W.isFn K (.ref f20) = true)
    (l20 : K.lookup f20 = some ⟨oc20, od20, .func (PySem.W.fnOf "__init__" "Hearer.__init__" (defArgs s_Hearer_init) (defBody s_Hearer_init) (defScope s_Hearer_init) .none kV20 dc20 pm20 an20 cd20 ct20), sl20⟩)
    (d20 : PySem.W.codeIn K cd20 "Hearer.__init__" = true)
    (k20 : PySem.W.keepIn K (.ref f20) = true)
    (mk_Hearer : PySem.W.makesIn K C_Hearer = true)
    (kc_Hearer : PySem.W.keepIn K (.ref C_Hearer) = true)
    (a21 : PySem.W.findIn K (.ref C_Hearer) "do" = some (some (.ref f21)))
    (i21 : PySem.W.isFn K (.ref f21) = true)
    (l21 : K.lookup f21 = some ⟨oc21, od21, .func (PySem.W.fnOf "do" "Hearer.do" (defArgs s_Hearer_do) (defBody s_Hearer_do) (defScope s_Hearer_do) .none kV21 dc21 pm21 an21 cd21 ct21), sl21⟩)
    (d21 : PySem.W.codeIn K cd21 "Hearer.do" = true)
    (k21 : PySem.W.keepIn K (.ref f21) = true)
    (a22 : PySem.W.findIn K (.ref C_Hearer) "freed" = some (some (.ref f22)))
    (i22 : PySem.W.isFn K (.ref f22) = true)
    (l22 : K.lookup f22 = some ⟨oc22, od22, .func (PySem.W.fnOf "freed" "Hearer.freed" (defArgs s_Hearer_freed) (defBody s_Hearer_freed) (defScope s_Hearer_freed) .none kV22 dc22 pm22 an22 cd22 ct22), sl22⟩)
    (d22 : PySem.W.codeIn K cd22 "Hearer.freed" = true)
    (k22 : PySem.W.keepIn K (.ref f22) = true)
    (a23 : PySem.W.findIn K (.ref C_Hearer) "changed" = some (some (.ref f23)))
    (i23 : PySem.W.isFn K (.ref f23) = true)
    (l23 : K.lookup f23 = some ⟨oc23, od23, .func (PySem.W.fnOf "changed" "Hearer.changed" (defArgs s_Hearer_changed) (defBody s_Hearer_changed) (defScope s_Hearer_changed) .none kV23 dc23 pm23 an23 cd23 ct23), sl23⟩)
    (d23 : PySem.W.codeIn K cd23 "Hearer.changed" = true)
    (k23 : PySem.W.keepIn K (.ref f23) = true)
    (a24 : PySem.W.findIn K (.ref C_Hearer) "copied" = some (some (.ref f24)))
    (i24 : PySem.W.isFn K (.ref f24) = true)
    (l24 : K.lookup f24 = some ⟨oc24, od24, .func (PySem.W.fnOf "copied" "Hearer.copied" (defArgs s_Hearer_copied) (defBody s_Hearer_copied) (defScope s_Hearer_copied) .none kV24 dc24 pm24 an24 cd24 ct24), sl24⟩)
    (d24 : PySem.W.codeIn K cd24 "Hearer.copied" = true)
    (k24 : PySem.W.keepIn K (.ref f24) = true)
    (a25 : PySem.W.findIn K (.ref C_Hearer) "hear" = some (some (.ref f25)))
    (i25 : PySem.W.isFn K (.ref f25) = true)
    (l25 : K.lookup f25 = some ⟨oc25, od25, .func (PySem.W.fnOf "hear" "Hearer.hear" (defArgs s_Hearer_hear) (defBody s_Hearer_hear) (defScope s_Hearer_hear) .none kV25 dc25 pm25 an25 cd25 ct25), sl25⟩)
    (d25 : PySem.W.codeIn K cd25 "Hearer.hear" = true)
    (k25 : PySem.W.keepIn K (.ref f25) = true)
    (a26 : PySem.W.findIn K (.ref C_Hearer) "held" = some (some (.ref f26)))
    (i26 : PySem.W.isFn K (.ref f26) = true)
    (l26 : K.lookup f26 = some ⟨oc26, od26, .func (PySem.W.fnOf "held" "Hearer.held" (defArgs s_Hearer_held) (defBody s_Hearer_held) (defScope s_Hearer_held) .none kV26 dc26 pm26 an26 cd26 ct26), sl26⟩)
    (d26 : PySem.W.codeIn K cd26 "Hearer.held" = true)
    (k26 : PySem.W.keepIn K (.ref f26) = true)
    (a27 : PySem.W.findIn K (.ref C_Hearer) "known" = some (some (.ref f27)))
    (i27 : PySem.W.isFn K (.ref f27) = true)
    (l27 : K.lookup f27 = some ⟨oc27, od27, .func (PySem.W.fnOf "known" "Hearer.known" (defArgs s_Hearer_known) (defBody s_Hearer_known) (defScope s_Hearer_known) .none kV27 dc27 pm27 an27 cd27 ct27), sl27⟩)
    (d27 : PySem.W.codeIn K cd27 "Hearer.known" = true)
    (k27 : PySem.W.keepIn K (.ref f27) = true)
    (a28 : PySem.W.findIn K (.ref C_Hearer) "look" = some (some (.ref f28)))
    (i28 : PySem.W.isFn K (.ref f28) = true)
    (l28 : K.lookup f28 = some ⟨oc28, od28, .func (PySem.W.fnOf "look" "Hearer.look" (defArgs s_Hearer_look) (defBody s_Hearer_look) (defScope s_Hearer_look) .none kV28 dc28 pm28 an28 cd28 ct28), sl28⟩)
    (d28 : PySem.W.codeIn K cd28 "Hearer.look" = true)
    (k28 : PySem.W.keepIn K (.ref f28) = true)
    (a29 : PySem.W.findIn K (.ref C_Hearer) "whole" = some (some (.ref f29)))
    (i29 : PySem.W.isFn K (.ref f29) = true)
    (l29 : K.lookup f29 = some ⟨oc29, od29, .func (PySem.W.fnOf "whole" "Hearer.whole" (defArgs s_Hearer_whole) (defBody s_Hearer_whole) (defScope s_Hearer_whole) .none kV29 dc29 pm29 an29 cd29 ct29), sl29⟩)
    (d29 : PySem.W.codeIn K cd29 "Hearer.whole" = true)
    (k29 : PySem.W.keepIn K (.ref f29) = true)
    (a30 : PySem.W.nsIn K mainGlobals "law" = some (some (.ref f30)))
    (l30 : K.lookup f30 = some ⟨oc30, od30, .func (PySem.W.fnOf "law" "law" (defArgs s_law) (defBody s_law) (defScope s_law) .none kV30 dc30 pm30 an30 cd30 ct30), sl30⟩)
    (d30 : PySem.W.codeIn K cd30 "law" = true)
    (k30 : PySem.W.keepIn K (.ref f30) = true)
    : ∃ fd : FuncData, (∀ (s : Shared) (v : Value), BindsTo s fd ⟨[v], []⟩ [("_law_script", v)]) ∧ ∀ base : Heap, K.In base → base.Ns mainGlobals mg → FnOk l.prog w K mg base CX0 5 fa fd ["_law_script"] (spLaw K) := by
  have e := hfa.symm.trans (PySem.W.mg_of X G a30)
  cases e
  have Bm : Blt mg := ⟨PySem.W.mg_none_of X G b_len, PySem.W.mg_none_of X G b_range, PySem.W.mg_none_of X G b_int, PySem.W.mg_none_of X G b_list, PySem.W.mg_none_of X G b_tuple, PySem.W.mg_none_of X G b_sorted, PySem.W.mg_none_of X G b_min, PySem.W.mg_none_of X G b_max, PySem.W.mg_none_of X G b_sum, PySem.W.mg_none_of X G b_set, PySem.W.mg_none_of X G b_str, PySem.W.mg_none_of X G b_isinstance, PySem.W.mg_none_of X G b_enumerate, PySem.W.mg_none_of X G b_zip, PySem.W.mg_none_of X G b_bool, PySem.W.mg_none_of X G b_dict⟩
  have km_PART := PySem.W.mg_of X G c_PART
  have km_MOST_KEYS := PySem.W.mg_of X G c_MOST_KEYS
  have km_MOST_TAIL := PySem.W.mg_of X G c_MOST_TAIL
  have CHearer : CHr K C_Hearer := ⟨⟨pg_Hearer, hd_Hearer, po_Hearer, sa_Hearer⟩, no0_Hearer, no1_Hearer, no2_Hearer, no3_Hearer⟩
  have CBoard : CBo K C_Board := ⟨⟨pg_Board, hd_Board, po_Board, sa_Board⟩, no0_Board, no1_Board, no2_Board, no3_Board, no4_Board⟩
  have F1 : Fd K mg "_law_dice" s_dice := ⟨_, _, fun_mk (st := s_dice) l1 d1 k1, PySem.W.mg_of X G a1⟩
  have F2 : Fd K mg "_law_next" s_next := ⟨_, _, fun_mk (st := s_next) l2 d2 k2, PySem.W.mg_of X G a2⟩
  have F3 : Fd K mg "_law_counts" s_counts := ⟨_, _, fun_mk (st := s_counts) l3 d3 k3, PySem.W.mg_of X G a3⟩
  have F4 : Fd K mg "_law_worth" s_worth := ⟨_, _, fun_mk (st := s_worth) l4 d4 k4, PySem.W.mg_of X G a4⟩
  have F5 : Fd K mg "_law_changes" s_changes := ⟨_, _, fun_mk (st := s_changes) l5 d5 k5, PySem.W.mg_of X G a5⟩
  have F6 : Md K C_Board "size" "Board.size" s_Board_size := ⟨_, _, fun_mk (st := s_Board_size) l6 d6 k6, ⟨a6, i6, k6⟩⟩
  have F7 : Md K C_Board "number" "Board.number" s_Board_number := ⟨_, _, fun_mk (st := s_Board_number) l7 d7 k7, ⟨a7, i7, k7⟩⟩
  have F8 : Fd K mg "need_known" s_need_known := ⟨_, _, fun_mk (st := s_need_known) l8 d8 k8, PySem.W.mg_of X G a8⟩
  have F9 : Md K C_Board "lasts" "Board.lasts" s_Board_lasts := ⟨_, _, fun_mk (st := s_Board_lasts) l9 d9 k9, ⟨a9, i9, k9⟩⟩
  have F10 : Md K C_Board "tail" "Board.tail" s_Board_tail := ⟨_, _, fun_mk (st := s_Board_tail) l10 d10 k10, ⟨a10, i10, k10⟩⟩
  have F11 : Fd K mg "wanted" s_wanted := ⟨_, _, fun_mk (st := s_wanted) l11 d11 k11, PySem.W.mg_of X G a11⟩
  have F12 : Fd K mg "levels" s_levels := ⟨_, _, fun_mk (st := s_levels) l12 d12 k12, PySem.W.mg_of X G a12⟩
  have F13 : Md K C_Board "part" "Board.part" s_Board_part := ⟨_, _, fun_mk (st := s_Board_part) l13 d13 k13, ⟨a13, i13, k13⟩⟩
  have F14 : Fd K mg "answer" s_answer := ⟨_, _, fun_mk (st := s_answer) l14 d14 k14, PySem.W.mg_of X G a14⟩
  have F15 : Fd K mg "_law_mixed" s_mixed := ⟨_, _, fun_mk (st := s_mixed) l15 d15 k15, PySem.W.mg_of X G a15⟩
  have F16 : Kd K mg "Board" C_Board "Board.__init__" s_Board_init := ⟨_, _, fun_mk (st := s_Board_init) l16 d16 k16, ⟨mk_Board, a16, i16, kc_Board⟩, PySem.W.mg_of X G ac_Board⟩
  have F17 : Md K C_Board "change" "Board.change" s_Board_change := ⟨_, _, fun_mk (st := s_Board_change) l17 d17 k17, ⟨a17, i17, k17⟩⟩
  have F18 : Md K C_Board "worths" "Board.worths" s_Board_worths := ⟨_, _, fun_mk (st := s_Board_worths) l18 d18 k18, ⟨a18, i18, k18⟩⟩
  have F19 : Md K C_Board "beat" "Board.beat" s_Board_beat := ⟨_, _, fun_mk (st := s_Board_beat) l19 d19 k19, ⟨a19, i19, k19⟩⟩
  have F20 : Kd K mg "Hearer" C_Hearer "Hearer.__init__" s_Hearer_init := ⟨_, _, fun_mk (st := s_Hearer_init) l20 d20 k20, ⟨mk_Hearer, a20, i20, kc_Hearer⟩, PySem.W.mg_of X G ac_Hearer⟩
  have F21 : Md K C_Hearer "do" "Hearer.do" s_Hearer_do := ⟨_, _, fun_mk (st := s_Hearer_do) l21 d21 k21, ⟨a21, i21, k21⟩⟩
  have F22 : Md K C_Hearer "freed" "Hearer.freed" s_Hearer_freed := ⟨_, _, fun_mk (st := s_Hearer_freed) l22 d22 k22, ⟨a22, i22, k22⟩⟩
  have F23 : Md K C_Hearer "changed" "Hearer.changed" s_Hearer_changed := ⟨_, _, fun_mk (st := s_Hearer_changed) l23 d23 k23, ⟨a23, i23, k23⟩⟩
  have F24 : Md K C_Hearer "copied" "Hearer.copied" s_Hearer_copied := ⟨_, _, fun_mk (st := s_Hearer_copied) l24 d24 k24, ⟨a24, i24, k24⟩⟩
  have F25 : Md K C_Hearer "hear" "Hearer.hear" s_Hearer_hear := ⟨_, _, fun_mk (st := s_Hearer_hear) l25 d25 k25, ⟨a25, i25, k25⟩⟩
  have F26 : Md K C_Hearer "held" "Hearer.held" s_Hearer_held := ⟨_, _, fun_mk (st := s_Hearer_held) l26 d26 k26, ⟨a26, i26, k26⟩⟩
  have F27 : Md K C_Hearer "known" "Hearer.known" s_Hearer_known := ⟨_, _, fun_mk (st := s_Hearer_known) l27 d27 k27, ⟨a27, i27, k27⟩⟩
  have F28 : Md K C_Hearer "look" "Hearer.look" s_Hearer_look := ⟨_, _, fun_mk (st := s_Hearer_look) l28 d28 k28, ⟨a28, i28, k28⟩⟩
  have F29 : Md K C_Hearer "whole" "Hearer.whole" s_Hearer_whole := ⟨_, _, fun_mk (st := s_Hearer_whole) l29 d29 k29, ⟨a29, i29, k29⟩⟩
  have F30 := fun_mk (st := s_law) l30 d30 k30
  refine ⟨PySem.W.fnOf "law" "law" (defArgs s_law) (defBody s_law) (defScope s_law) .none kV30 dc30 pm30 an30 cd30 ct30, fun s v => .of_eq rfl, fun base _ _ => ?_⟩
  have g_dice := ok_dice (P := l.prog) (w := w) (base := base) F1 Bm
  have g_next := ok_next (P := l.prog) (w := w) (base := base) F2 Bm
  have g_counts := ok_counts (P := l.prog) (w := w) (base := base) F3 Bm g_next
  have g_worth := ok_worth (P := l.prog) (w := w) (base := base) F4 Bm g_next
  have g_changes := ok_changes (P := l.prog) (w := w) (base := base) F5 Bm g_next g_worth
  have m_Board_size := ok_Bsize (P := l.prog) (w := w) (base := base) F6 Bm CBoard
  have m_Board_number := ok_Bnumber (P := l.prog) (w := w) (base := base) F7 Bm CBoard
  have g_need_known := ok_need_known (P := l.prog) (w := w) (base := base) F8 Bm CBoard m_Board_size m_Board_number
  have m_Board_lasts := ok_Blasts (P := l.prog) (w := w) (base := base) F9 Bm CBoard
  have m_Board_tail := ok_Btail (P := l.prog) (w := w) (base := base) F10 Bm CBoard
  have g_wanted := ok_wanted (P := l.prog) (w := w) (base := base) F11 Bm CBoard m_Board_lasts m_Board_tail
  have g_levels := ok_levels (P := l.prog) (w := w) (base := base) F12 Bm CBoard km_PART m_Board_size g_wanted
  have m_Board_part := ok_Bpart (P := l.prog) (w := w) (base := base) F13 Bm CBoard
  have g_answer := ok_answer (P := l.prog) (w := w) (base := base) F14 Bm CBoard g_need_known g_levels g_wanted m_Board_size m_Board_part
  have g_mixed := ok_mixed (P := l.prog) (w := w) (base := base) F15 Bm g_next
  have k_Board := ok_Binit (P := l.prog) (w := w) (base := base) F16 Bm CBoard km_MOST_KEYS km_MOST_TAIL
  have m_Board_change := ok_Bchange (P := l.prog) (w := w) (base := base) F17 Bm CBoard
  have m_Board_worths := ok_Bworths (P := l.prog) (w := w) (base := base) F18 Bm CBoard
  have m_Board_beat := ok_Bbeat (P := l.prog) (w := w) (base := base) F19 Bm CBoard
  have k_Hearer := ok_Hinit (P := l.prog) (w := w) (base := base) F20 Bm CHearer km_MOST_KEYS
  have m_Hearer_do := ok_do (P := l.prog) (w := w) (base := base) F21 Bm CHearer
  have m_Hearer_freed := ok_freed (P := l.prog) (w := w) (base := base) F22 Bm CHearer m_Hearer_do
  have m_Hearer_changed := ok_changed (P := l.prog) (w := w) (base := base) F23 Bm CHearer m_Hearer_do m_Hearer_freed
  have m_Hearer_copied := ok_copied (P := l.prog) (w := w) (base := base) F24 Bm CHearer m_Hearer_freed
  have m_Hearer_hear := ok_hear (P := l.prog) (w := w) (base := base) F25 Bm CHearer m_Hearer_changed m_Hearer_copied
  have m_Hearer_held := ok_held (P := l.prog) (w := w) (base := base) F26 Bm CHearer
  have m_Hearer_known := ok_known (P := l.prog) (w := w) (base := base) F27 Bm CHearer
  have m_Hearer_look := ok_look (P := l.prog) (w := w) (base := base) F28 Bm CHearer
  have m_Hearer_whole := ok_whole (P := l.prog) (w := w) (base := base) F29 Bm CHearer
  exact ok_law (P := l.prog) (w := w) (base := base) F30 Bm CHearer CBoard g_dice g_next g_counts g_changes g_answer g_mixed k_Board m_Board_number m_Board_part m_Board_change m_Board_worths m_Board_lasts m_Board_beat k_Hearer m_Hearer_hear m_Hearer_held m_Hearer_known m_Hearer_look m_Hearer_whole
theorem walked {l : PySem.W.OpenLaw} {q : Program} {loose : List Str} {XP : (Str → Option Value) → Heap → Prop} {YP : World → Heap → Prop} {d : DefRec} {K : Params → PySem.W.Frag} (hn : l.most = some 63) (hdf : d.params.defaults = [])
    (hY : ∀ (w : World) (h : Heap), YP w h → (K w.params).In h)
    (F : ∀ (w : World) (mg : Str → Option Value) (fa : Addr) (h : Heap), (K w.params).In h → h.Ns mainGlobals mg → mg d.name = some (.ref fa) →
      ∃ fd : FuncData, (∀ (s : Shared) (u : Value), BindsTo s fd ⟨[u], []⟩ [("_law_script", u)]) ∧ ∀ base : Heap, (K w.params).In base → base.Ns mainGlobals mg → FnOk l.prog w (K w.params) mg base CX0 5 fa fd ["_law_script"] (spLaw (K w.params))) :
    PySem.W.WalkO q loose XP YP l.row.toRowW d [] (fun f vs => PySem.call f vs) :=
  L2.walk_of (n := 63) (k := 5) (x := "_law_script") (CX := fun _ => CX0) (sp := fun w => spLaw (K w.params)) hn (by decide) hdf ⟨rfl, by decide, by decide⟩ hY F (fun _ _ a ns hl hO hS => ⟨rfl, a, ns, rfl, hl, FzL.only hO hS, fun _ => rfl⟩) fun _ _ _ _ _ z => z
end Cu
open PySem PySem.W PyProof.Rows
set_option maxHeartbeats 0 in
theorem PySem.Challenge.cw_catchup_k38_whole_two_hearers_one_answer_holds : PySem.Challenge.rw_catchup_k38_whole_two_hearers_one_answer.Holds := by
  w_on; o_law; k_head; (case hw => w_witness2)
  k_fill
  refine Cu.walked (l := PySem.Challenge.rw_catchup_k38_whole_two_hearers_one_answer) rfl rfl (fun w h Y => PySem.W.kIn_of Y) ?F
  case F =>
    intro w mg fa h KX G hmg
    refine' Cu.facts KX G hmg ?b_len ?b_range ?b_int ?b_list ?b_tuple ?b_sorted ?b_min ?b_max ?b_sum ?b_set ?b_str ?b_isinstance ?b_enumerate ?b_zip ?b_bool ?b_dict ?c_PART ?c_MOST_KEYS ?c_MOST_TAIL ?ac_Hearer ?pg_Hearer ?hd_Hearer ?po_Hearer ?sa_Hearer ?no0_Hearer ?no1_Hearer ?no2_Hearer ?no3_Hearer ?ac_Board ?pg_Board ?hd_Board ?po_Board ?sa_Board ?no0_Board ?no1_Board ?no2_Board ?no3_Board ?no4_Board ?a1 ?l1 ?d1 ?k1 ?a2 ?l2 ?d2 ?k2 ?a3 ?l3 ?d3 ?k3 ?a4 ?l4 ?d4 ?k4 ?a5 ?l5 ?d5 ?k5 ?a6 ?i6 ?l6 ?d6 ?k6 ?a7 ?i7 ?l7 ?d7 ?k7 ?a8 ?l8 ?d8 ?k8 ?a9 ?i9 ?l9 ?d9 ?k9 ?a10 ?i10 ?l10 ?d10 ?k10 ?a11 ?l11 ?d11 ?k11 ?a12 ?l12 ?d12 ?k12 ?a13 ?i13 ?l13 ?d13 ?k13 ?a14 ?l14 ?d14 ?k14 ?a15 ?l15 ?d15 ?k15 ?a16 ?i16 ?l16 ?d16 ?k16 ?mk_Board ?kc_Board ?a17 ?i17 ?l17 ?d17 ?k17 ?a18 ?i18 ?l18 ?d18 ?k18 ?a19 ?i19 ?l19 ?d19 ?k19 ?a20 ?i20 ?l20 ?d20 ?k20 ?mk_Hearer ?kc_Hearer ?a21 ?i21 ?l21 ?d21 ?k21 ?a22 ?i22 ?l22 ?d22 ?k22 ?a23 ?i23 ?l23 ?d23 ?k23 ?a24 ?i24 ?l24 ?d24 ?k24 ?a25 ?i25 ?l25 ?d25 ?k25 ?a26 ?i26 ?l26 ?d26 ?k26 ?a27 ?i27 ?l27 ?d27 ?k27 ?a28 ?i28 ?l28 ?d28 ?k28 ?a29 ?i29 ?l29 ?d29 ?k29 ?a30 ?l30 ?d30 ?k30
    (case b_len => k_is)
    (case b_range => k_is)
    (case b_int => k_is)
    (case b_list => k_is)
    (case b_tuple => k_is)
    (case b_sorted => k_is)
    (case b_min => k_is)
    (case b_max => k_is)
    (case b_sum => k_is)
    (case b_set => k_is)
    (case b_str => k_is)
    (case b_isinstance => k_is)
    (case b_enumerate => k_is)
    (case b_zip => k_is)
    (case b_bool => k_is)
    (case b_dict => k_is)
    (case c_PART => k_is)
    (case c_MOST_KEYS => k_is)
    (case c_MOST_TAIL => k_is)
    (case ac_Hearer => k_is)
    (case pg_Hearer => k_is)
    (case hd_Hearer => k_is)
    (case po_Hearer => k_is)
    (case sa_Hearer => k_is)
    (case no0_Hearer => k_is)
    (case no1_Hearer => k_is)
    (case no2_Hearer => k_is)
    (case no3_Hearer => k_is)
    (case ac_Board => k_is)
    (case pg_Board => k_is)
    (case hd_Board => k_is)
    (case po_Board => k_is)
    (case sa_Board => k_is)
    (case no0_Board => k_is)
    (case no1_Board => k_is)
    (case no2_Board => k_is)
    (case no3_Board => k_is)
    (case no4_Board => k_is)
    (case a1 => k_is)
    (case l1 => k_is)
    (case d1 => k_is)
    (case k1 => k_is)
    (case a2 => k_is)
    (case l2 => k_is)
    (case d2 => k_is)
    (case k2 => k_is)
    (case a3 => k_is)
    (case l3 => k_is)
    (case d3 => k_is)
    (case k3 => k_is)
    (case a4 => k_is)
    (case l4 => k_is)
    (case d4 => k_is)
    (case k4 => k_is)
    (case a5 => k_is)
    (case l5 => k_is)
    (case d5 => k_is)
    (case k5 => k_is)
    (case a6 => k_is)
    (case i6 => k_is)
    (case l6 => k_is)
    (case d6 => k_is)
    (case k6 => k_is)
    (case a7 => k_is)
    (case i7 => k_is)
    (case l7 => k_is)
    (case d7 => k_is)
    (case k7 => k_is)
    (case a8 => k_is)
    (case l8 => k_is)
    (case d8 => k_is)
    (case k8 => k_is)
    (case a9 => k_is)
    (case i9 => k_is)
    (case l9 => k_is)
    (case d9 => k_is)
    (case k9 => k_is)
    (case a10 => k_is)
    (case i10 => k_is)
    (case l10 => k_is)
    (case d10 => k_is)
    (case k10 => k_is)
    (case a11 => k_is)
    (case l11 => k_is)
    (case d11 => k_is)
    (case k11 => k_is)
    (case a12 => k_is)
    (case l12 => k_is)
    (case d12 => k_is)
    (case k12 => k_is)
    (case a13 => k_is)
    (case i13 => k_is)
    (case l13 => k_is)
    (case d13 => k_is)
    (case k13 => k_is)
    (case a14 => k_is)
    (case l14 => k_is)
    (case d14 => k_is)
    (case k14 => k_is)
    (case a15 => k_is)
    (case l15 => k_is)
    (case d15 => k_is)
    (case k15 => k_is)
    (case a16 => k_is)
    (case i16 => k_is)
    (case l16 => k_is)
    (case d16 => k_is)
    (case k16 => k_is)
    (case mk_Board => k_is)
    (case kc_Board => k_is)
    (case a17 => k_is)
    (case i17 => k_is)
    (case l17 => k_is)
    (case d17 => k_is)
    (case k17 => k_is)
    (case a18 => k_is)
    (case i18 => k_is)
    (case l18 => k_is)
    (case d18 => k_is)
    (case k18 => k_is)
    (case a19 => k_is)
    (case i19 => k_is)
    (case l19 => k_is)
    (case d19 => k_is)
    (case k19 => k_is)
    (case a20 => k_is)
    (case i20 => k_is)
    (case l20 => k_is)
    (case d20 => k_is)
    (case k20 => k_is)
    (case mk_Hearer => k_is)
    (case kc_Hearer => k_is)
    (case a21 => k_is)
    (case i21 => k_is)
    (case l21 => k_is)
    (case d21 => k_is)
    (case k21 => k_is)
    (case a22 => k_is)
    (case i22 => k_is)
    (case l22 => k_is)
    (case d22 => k_is)
    (case k22 => k_is)
    (case a23 => k_is)
    (case i23 => k_is)
    (case l23 => k_is)
    (case d23 => k_is)
    (case k23 => k_is)
    (case a24 => k_is)
    (case i24 => k_is)
    (case l24 => k_is)
    (case d24 => k_is)
    (case k24 => k_is)
    (case a25 => k_is)
    (case i25 => k_is)
    (case l25 => k_is)
    (case d25 => k_is)
    (case k25 => k_is)
    (case a26 => k_is)
    (case i26 => k_is)
    (case l26 => k_is)
    (case d26 => k_is)
    (case k26 => k_is)
    (case a27 => k_is)
    (case i27 => k_is)
    (case l27 => k_is)
    (case d27 => k_is)
    (case k27 => k_is)
    (case a28 => k_is)
    (case i28 => k_is)
    (case l28 => k_is)
    (case d28 => k_is)
    (case k28 => k_is)
    (case a29 => k_is)
    (case i29 => k_is)
    (case l29 => k_is)
    (case d29 => k_is)
    (case k29 => k_is)
    (case a30 => k_is)
    (case l30 => k_is)
    (case d30 => k_is)
    (case k30 => k_is)
#print axioms PySem.Challenge.cw_catchup_k38_whole_two_hearers_one_answer_holds
