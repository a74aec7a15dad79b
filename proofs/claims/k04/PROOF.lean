import PyProof.Rows.All
import Wide.All
import OpenK.AllK
import Wide.FinOn
import HandS.ForMost
import HandS.Conv
import HandS.More
import HandS.SortInts
import HandS.Wide
import HandS.Walk
import HandS.Style
import HandS.Flow
import HandS.Deep
import HandS.TupAny
import KE.GoesMore
import KE.KSortedM
import HandS.Strs
import HandS.SetFor
import HandS.TupSets
import HandS.IsInst
import HandS.NoneIn
import KE.DataMinMax
import KE.KDictZip
import PySem.Challenge.RW_catchup_k04_whole_never_wrong
set_option Elab.async false
set_option linter.all false
set_option autoImplicit false
set_option maxRecDepth 100000
set_option maxHeartbeats 4000000
/-! Part 0: what stays, what changes; data as they lie; calls by name -/
namespace Cu
open PySem PySem.Spec PyProof.Rows L2

/-- what never changes -/
def Imm : HO → Prop
  | .tup _ => True
  | .frz _ _ => True
  | _ => False
theorem nl {xs : List V} : ¬ Imm (.lst xs) := fun h => h
theorem ndk {xs : List (Key × V)} : ¬ Imm (.dK xs) := fun h => h
def Mono (H H' : Hp) : Prop := ∀ b o, H b = some o → Imm o → H' b = some o
theorem Mono.refl (H : Hp) : Mono H H := fun _ _ h _ => h
theorem Mono.trans {H H1 H2 : Hp} (a : Mono H H1) (b : Mono H1 H2) : Mono H H2 := fun c o h i => b c o (a c o h i) i
theorem Mono.new {H : Hp} {p : Addr} {o : HO} (h : H p = none) : Mono H (upd H p o) := fun b u e _ => by
  rw [upd_ne (ne_of_none e h)]
  exact e
theorem Mono.put {H : Hp} {a : Addr} {o o' : HO} (h : H a = some o) (n : ¬ Imm o) : Mono H (upd H a o') := fun b u e i => by
  by_cases hb : b = a
  · subst hb
    rw [h] at e
    cases e
    exact absurd i n
  · rw [upd_ne hb]
    exact e

/-- the changing objects one owns -/
abbrev Lg := List (Addr × HO)
structure Has (H : Hp) (l : Lg) : Prop where
  nd : (l.map Prod.fst).Nodup
  at_ : ∀ p ∈ l, H p.1 = some p.2 ∧ ¬ Imm p.2
section
variable {H H' : Hp} {l l' : Lg} {a p : Addr} {o o' : HO}
theorem Has.nil : Has H [] := ⟨List.nodup_nil, fun _ h => (nomatch h)⟩
theorem Has.mem (h : Has H l) (m : (a, o) ∈ l) : H a = some o := (h.at_ _ m).1
theorem Has.head (h : Has H ((a, o) :: l)) : H a = some o := (h.at_ _ List.mem_cons_self).1
theorem Has.tail (h : Has H ((a, o) :: l)) : Has H l := ⟨(List.nodup_cons.mp h.nd).2, fun p m => h.at_ p (List.mem_cons_of_mem _ m)⟩
theorem Has.notin (h : Has H l) (f : H p = none) : p ∉ l.map Prod.fst := fun m => by
  obtain ⟨q, hq, e⟩ := List.mem_map.mp m
  have := (h.at_ q hq).1
  rw [e, f] at this
  cases this
theorem Has.ne (h : Has H l) (f : H p = none) {q : Addr × HO} (m : q ∈ l) : q.1 ≠ p := fun e => h.notin f (by rw [← e]; exact List.mem_map_of_mem m)
/-- an object that is not ours is made or written -/
theorem Has.off (h : Has H l) (n : p ∉ l.map Prod.fst) : Has (upd H p o) l := ⟨h.nd, fun q m => ⟨by
  rw [upd_ne (fun e => n (by rw [← e]; exact List.mem_map_of_mem m))]
  exact (h.at_ q m).1, (h.at_ q m).2⟩⟩
theorem Has.old (h : Has H l) (f : H p = none) : Has (upd H p o) l := h.off (h.notin f)
theorem Has.new (h : Has H l) (f : H p = none) (n : ¬ Imm o) : Has (upd H p o) ((p, o) :: l) :=
  ⟨List.nodup_cons.mpr ⟨h.notin f, h.nd⟩, fun q m => by
    rcases List.mem_cons.mp m with e | m
    · subst e
      exact ⟨upd_same, n⟩
    · exact (h.old f).at_ q m⟩
theorem Has.put (h : Has H ((a, o) :: l)) (n : ¬ Imm o') : Has (upd H a o') ((a, o') :: l) :=
  ⟨h.nd, fun q m => by
    rcases List.mem_cons.mp m with e | m
    · subst e
      exact ⟨upd_same, n⟩
    · exact (h.tail.off (List.nodup_cons.mp h.nd).1).at_ q m⟩
theorem Has.perm (h : Has H l) (e : l.Perm l') : Has H l' := ⟨(e.map Prod.fst).nodup_iff.mp h.nd, fun q m => h.at_ q (e.mem_iff.mpr m)⟩
theorem Has.sub (h : Has H l) (e : l'.Sublist l) : Has H l' := ⟨h.nd.sublist (e.map Prod.fst), fun q m => h.at_ q (e.subset m)⟩
theorem Has.mono_put (h : Has H ((a, o) :: l)) : Mono H (upd H a o') := Mono.put h.head (h.at_ _ List.mem_cons_self).2
theorem Has.right {l2 : Lg} (h : Has H (l ++ l2)) : Has H l2 := h.sub (List.sublist_append_right _ _)
theorem Has.left {l2 : Lg} (h : Has H (l ++ l2)) : Has H l := h.sub (List.sublist_append_left _ _)
theorem Has.comm {l2 : Lg} (h : Has H (l ++ l2)) : Has H (l2 ++ l) := h.perm List.perm_append_comm
/-- the first part goes behind the second -/
theorem Has.swap {l2 l3 : Lg} (h : Has H (l ++ (l2 ++ l3))) : Has H (l2 ++ (l ++ l3)) := h.perm (by
  rw [← List.append_assoc, ← List.append_assoc]
  exact List.Perm.append_right _ List.perm_append_comm)
theorem Has.swap1 {q : Addr × HO} {l3 : Lg} (h : Has H (q :: (l ++ l3))) : Has H (l ++ (q :: l3)) := h.perm List.perm_middle.symm
theorem Has.unswap1 {q : Addr × HO} {l3 : Lg} (h : Has H (l ++ (q :: l3))) : Has H (q :: (l ++ l3)) := h.perm List.perm_middle
theorem Has.swap2 {q r : Addr × HO} (h : Has H (q :: r :: l)) : Has H (r :: q :: l) := h.perm (List.Perm.swap _ _ _)
end

section
variable {K : PySem.W.Frag} {H H' : Hp} {a : Addr} {xs : List V}
/-- a list that stays -/
def FzL (K : PySem.W.Frag) (H : Hp) (a : Addr) (xs : List V) : Prop := ∀ H', Mono H H' → SqL K H' a xs
theorem FzL.mono (h : FzL K H a xs) (m : Mono H H') : FzL K H' a xs := fun H2 m2 => h H2 (m.trans m2)
theorem FzL.sq (h : FzL K H a xs) : SqL K H a xs := h H (Mono.refl H)
theorem FzL.of {o : Obj} (h : H a = some (.frz o (.lst xs))) : FzL K H a xs := fun H' m => Or.inl (Or.inr ⟨o, m _ _ h trivial⟩)
theorem FzL.only (h : Only H) (s : SqL K H a xs) : FzL K H a xs := by
  rcases s with (s | ⟨o, s⟩) | s
  · rcases h a with e | ⟨o, ys, e⟩
    · rw [e] at s
      cases s
    · rw [e] at s
      cases s
  · exact FzL.of s
  · exact fun _ _ => Or.inr s
theorem FzL.frz {o : Obj} : FzL K (upd H a (.frz o (.lst xs))) a xs := FzL.of upd_same
end

/-- a reading that is opened by its own lemma alone -/
@[irreducible] def tI (t : TE) : TE := t
theorem rd_I {t : TE} {σ : L2.St} {H : Hp} {Q : VK} (h : t σ H Q) : tI t σ H Q := by
  unfold tI
  exact h
theorem pe_I {X : Cx} {e : Expr} {t : TE} (h : PE X e t) : PE X e (tI t) := by
  unfold tI
  exact h
/-- e, a new list, from now on never changed -/
@[irreducible] def tFz (t : TE) : TE := fun σ H Q => t σ H fun v H1 => ∃ a xs, v = .ref a ∧ H1 a = some (.lst xs) ∧ ∀ o, Q (.ref a) (upd H1 a (.frz o (.lst xs)))
theorem rd_fz {t : TE} {σ : L2.St} {H : Hp} {Q : VK} (h : t σ H fun v H1 => ∃ a xs, v = .ref a ∧ H1 a = some (.lst xs) ∧ ∀ o, Q (.ref a) (upd H1 a (.frz o (.lst xs)))) : tFz t σ H Q := by
  unfold tFz
  exact h
theorem pe_fz {X : Cx} {e : Expr} {t : TE} (h : PE X e t) : PE X e (tFz t) := ⟨fun pins s σ H Q I hw => by
  unfold tFz at hw
  exact thn (h.run pins s σ H _ I hw) fun u s1 ⟨v, H1, I1, r, a, xs, ev, ha, q⟩ => by
    subst ev
    obtain ⟨od, I2⟩ := I1.lock ha trivial
    exact ⟨_, _, I2, r, q od⟩⟩

/-! ### data -/
mutual
def Rp (K : PySem.W.Frag) (H : Hp) : PyData → V → Prop
  | .none, v => v = .non
  | .bool b, v => v = .bl b
  | .int i, v => v = .int i
  | .str s, v => v = .str s
  | .list ds, v => ∃ a xs, v = .ref a ∧ FzL K H a xs ∧ RpL K H ds xs
  | .tuple ds, v => ∃ a xs, v = .ref a ∧ H a = some (.tup xs) ∧ RpL K H ds xs
  | .dict _, _ => False
def RpL (K : PySem.W.Frag) (H : Hp) : List PyData → List V → Prop
  | [], vs => vs = []
  | d :: ds, vs => ∃ v r, vs = v :: r ∧ Rp K H d v ∧ RpL K H ds r
end
section
variable {K : PySem.W.Frag} {H H' : Hp}
mutual
theorem Rp.mono (m : Mono H H') : ∀ {d : PyData} {v : V}, Rp K H d v → Rp K H' d v
  | .none, _, h => by rw [Rp] at h ⊢; exact h
  | .bool _, _, h => by rw [Rp] at h ⊢; exact h
  | .int _, _, h => by rw [Rp] at h ⊢; exact h
  | .str _, _, h => by rw [Rp] at h ⊢; exact h
  | .list ds, _, h => by
    rw [Rp] at h ⊢
    obtain ⟨a, xs, e, f, r⟩ := h
    exact ⟨a, xs, e, f.mono m, RpL.mono m r⟩
  | .tuple ds, _, h => by
    rw [Rp] at h ⊢
    obtain ⟨a, xs, e, f, r⟩ := h
    exact ⟨a, xs, e, m _ _ f trivial, RpL.mono m r⟩
  | .dict _, _, h => by rw [Rp] at h; exact h.elim
theorem RpL.mono (m : Mono H H') : ∀ {ds : List PyData} {vs : List V}, RpL K H ds vs → RpL K H' ds vs
  | [], _, h => by rw [RpL] at h ⊢; exact h
  | d :: ds, _, h => by
    rw [RpL] at h ⊢
    obtain ⟨v, r, e, h1, h2⟩ := h
    exact ⟨v, r, e, Rp.mono m h1, RpL.mono m h2⟩
end
mutual
theorem Rp.dp : ∀ {d : PyData} {v : V}, Rp K H d v → Dp K H v d
  | .none, _, h => by rw [Rp] at h; subst h; exact .non
  | .bool _, _, h => by rw [Rp] at h; subst h; exact .bl _
  | .int _, _, h => by rw [Rp] at h; subst h; exact .int _
  | .str _, _, h => by rw [Rp] at h; subst h; exact .str _
  | .list ds, _, h => by
    rw [Rp] at h
    obtain ⟨a, xs, e, f, r⟩ := h
    subst e
    exact .lst f.sq (RpL.dp r)
  | .tuple ds, _, h => by
    rw [Rp] at h
    obtain ⟨a, xs, e, f, r⟩ := h
    subst e
    exact .tup (SqT.of f) (RpL.dp r)
  | .dict _, _, h => by rw [Rp] at h; exact h.elim
theorem RpL.dp : ∀ {ds : List PyData} {vs : List V}, RpL K H ds vs → DpAll K H vs ds
  | [], _, h => by rw [RpL] at h; subst h; exact .nil
  | d :: ds, _, h => by
    rw [RpL] at h
    obtain ⟨v, r, e, h1, h2⟩ := h
    subst e
    exact .cons (Rp.dp h1) (RpL.dp h2)
end
theorem RpL.length : ∀ {ds : List PyData} {vs : List V}, RpL K H ds vs → vs.length = ds.length
  | [], _, h => by rw [RpL] at h; subst h; rfl
  | d :: ds, _, h => by
    rw [RpL] at h
    obtain ⟨v, r, e, _, h2⟩ := h
    subst e
    rw [List.length_cons, List.length_cons, h2.length]
theorem RpL.get : ∀ {ds : List PyData} {vs : List V} {i : Nat} {d : PyData}, RpL K H ds vs → ds[i]? = some d → ∃ v, vs[i]? = some v ∧ Rp K H d v
  | [], _, _, _, _, e => by simp at e
  | d :: ds, _, i, d', h, e => by
    rw [RpL] at h
    obtain ⟨v, r, e1, h1, h2⟩ := h
    subst e1
    cases i with
    | zero =>
      have e2 : d = d' := by simpa using e
      subst e2
      exact ⟨v, rfl, h1⟩
    | succ i => exact h2.get (by simpa using e)
theorem RpL.nil : RpL K H [] [] := by rw [RpL]
theorem RpL.cons {d : PyData} {ds : List PyData} {v : V} {vs : List V} (h : Rp K H d v) (r : RpL K H ds vs) : RpL K H (d :: ds) (v :: vs) := by
  rw [RpL]
  exact ⟨v, vs, rfl, h, r⟩
theorem RpL.append : ∀ {ds es : List PyData} {vs us : List V}, RpL K H ds vs → RpL K H es us → RpL K H (ds ++ es) (vs ++ us)
  | [], _, _, _, h, g => by rw [RpL] at h; subst h; exact g
  | d :: ds, _, _, _, h, g => by
    rw [RpL] at h
    obtain ⟨v, r, e1, h1, h2⟩ := h
    subst e1
    exact .cons h1 (h2.append g)
theorem RpL.snoc {ds : List PyData} {vs : List V} {d : PyData} {v : V} (h : RpL K H ds vs) (g : Rp K H d v) : RpL K H (ds ++ [d]) (vs ++ [v]) := h.append (.cons g .nil)
theorem RpL.take : ∀ {ds : List PyData} {vs : List V} (n : Nat), RpL K H ds vs → RpL K H (ds.take n) (vs.take n)
  | [], _, n, h => by rw [RpL] at h; subst h; simpa using RpL.nil
  | d :: ds, _, n, h => by
    rw [RpL] at h
    obtain ⟨v, r, e1, h1, h2⟩ := h
    subst e1
    cases n with
    | zero => exact .nil
    | succ n => exact .cons h1 (h2.take n)
theorem RpL.drop : ∀ {ds : List PyData} {vs : List V} (n : Nat), RpL K H ds vs → RpL K H (ds.drop n) (vs.drop n)
  | [], _, n, h => by rw [RpL] at h; subst h; simpa using RpL.nil
  | d :: ds, _, n, h => by
    rw [RpL] at h
    obtain ⟨v, r, e1, h1, h2⟩ := h
    subst e1
    cases n with
    | zero => exact .cons h1 h2
    | succ n => exact h2.drop n
theorem Rp.int_iff {i : Int} {v : V} : Rp K H (.int i) v ↔ v = .int i := by rw [Rp]
theorem Rp.str_iff {i : Str} {v : V} : Rp K H (.str i) v ↔ v = .str i := by rw [Rp]
theorem Rp.bool_iff {i : Bool} {v : V} : Rp K H (.bool i) v ↔ v = .bl i := by rw [Rp]
theorem Rp.none_iff {v : V} : Rp K H .none v ↔ v = .non := by rw [Rp]
theorem Rp.int {i : Int} : Rp K H (.int i) (.int i) := by rw [Rp]
theorem Rp.str {i : Str} : Rp K H (.str i) (.str i) := by rw [Rp]
theorem Rp.bool {i : Bool} : Rp K H (.bool i) (.bl i) := by rw [Rp]
theorem Rp.non : Rp K H .none .non := by rw [Rp]
theorem Rp.tup {ds : List PyData} {a : Addr} {xs : List V} (h : H a = some (.tup xs)) (r : RpL K H ds xs) : Rp K H (.tuple ds) (.ref a) := by
  rw [Rp]
  exact ⟨a, xs, rfl, h, r⟩
theorem Rp.lst {ds : List PyData} {a : Addr} {xs : List V} (h : FzL K H a xs) (r : RpL K H ds xs) : Rp K H (.list ds) (.ref a) := by
  rw [Rp]
  exact ⟨a, xs, rfl, h, r⟩
theorem Rp.tup_inv {ds : List PyData} {v : V} (h : Rp K H (.tuple ds) v) : ∃ a xs, v = .ref a ∧ H a = some (.tup xs) ∧ RpL K H ds xs := by rwa [Rp] at h
theorem Rp.lst_inv {ds : List PyData} {v : V} (h : Rp K H (.list ds) v) : ∃ a xs, v = .ref a ∧ FzL K H a xs ∧ RpL K H ds xs := by rwa [Rp] at h
theorem RpL.nil_inv {vs : List V} (h : RpL K H [] vs) : vs = [] := by rwa [RpL] at h
theorem RpL.cons_inv {d : PyData} {ds : List PyData} {vs : List V} (h : RpL K H (d :: ds) vs) : ∃ v r, vs = v :: r ∧ Rp K H d v ∧ RpL K H ds r := by rwa [RpL] at h
theorem RpL.ints : ∀ {ns : List Int} {vs : List V}, RpL K H (ns.map PyData.int) vs → vs = ns.map V.int
  | [], _, h => h.nil_inv
  | n :: ns, _, h => by
    obtain ⟨v, r, e, h1, h2⟩ := h.cons_inv
    rw [Rp.int_iff] at h1
    rw [e, h1, h2.ints]
    rfl
theorem RpL.of_ints : ∀ (ns : List Int), RpL K H (ns.map PyData.int) (ns.map V.int)
  | [] => .nil
  | n :: ns => .cons .int (RpL.of_ints ns)
theorem Dp.ints {a : Addr} {ns : List Int} (h : SqL K H a (ns.map V.int)) : Dp K H (.ref a) (.list (ns.map PyData.int)) := .lst h (RpL.dp (RpL.of_ints ns))
end

/-! ### a def of the top, a method, a class, by name -/
section
variable (P : Program) (w : World) (K : PySem.W.Frag) (mg : Str → Option Value) (base : Heap)
structure Gf (j : Nat) (x : Str) (ps : List Str) (sp : Sp) : Prop where
  ex : ∃ f fd, FnOk P w K mg base CX0 j f fd ps sp ∧ mg x = some (.ref f) ∧ PySem.W.keepIn K (.ref f) = true ∧ Binds K fd ps []
structure Mf (j : Nat) (C : Addr) (m : Str) (ps : List Str) (sp : Sp) : Prop where
  ex : ∃ f fd, FnOk P w K mg base CX0 j f fd ps sp ∧ Meth K C m f ∧ Binds K fd ps []
structure Kf (j : Nat) (x : Str) (C : Addr) (ps : List Str) (sp : Sp) : Prop where
  ex : ∃ f fd, FnOk P w K mg base CX0 j f fd ps sp ∧ Mk K C f ∧ mg x = some (.ref C) ∧ Binds K fd ps []
end
section
variable {X : Cx} {j k : Nat} {x m : Str} {C : Addr} {ps : List Str} {sp : Sp} {p pos apos : Pos} {e o : Expr} {es : List Expr} {t : TA} {to : TE}
theorem pc (g : Gf X.prog X.w X.K X.mg X.base j x ps sp) (hr : Room k X.A) (ha : PA X (e :: es) t) (hg : Gl X x := by rfl) (hj : j ≤ k := by decide) (hdb : (x == ("__debug__" : Str)) = false := by decide)
    (he : starEach (e :: es) X.env = (false, eval e X.env) :: starEach es X.env := by rfl) (hpl : (backTo pos (starEach es X.env)).any (·.1) = false := by rfl) :
    PE X (.Call (.Name x p) (e :: es) [] pos) (tCall sp [] E0 t) := by
  obtain ⟨f, fd, F, hm, hk, hb⟩ := g.ex
  exact pe_call F (hr.mono hj) hg hm hk hb .nil pass0 ha hdb he hpl
theorem pc0 (g : Gf X.prog X.w X.K X.mg X.base j x ps sp) (hr : Room k X.A) (hg : Gl X x := by rfl) (hj : j ≤ k := by decide) (hdb : (x == ("__debug__" : Str)) = false := by decide) :
    PE X (.Call (.Name x p) [] [] pos) (tCall sp [] E0 tNil) := by
  obtain ⟨f, fd, F, hm, hk, hb⟩ := g.ex
  exact pe_call0 F (hr.mono hj) hg hm hk hb .nil pass0 hdb
theorem pm {pl : Sem Bool} (ho : PE X o to) (c : Cls X.K C) (g : Mf X.prog X.w X.K X.mg X.base j C m ps sp) (hr : Room k X.A) (ha : PA X (e :: es) t) (hj : j ≤ k := by decide)
    (hst : starEach (e :: es) X.env = (false, eval e X.env) :: starEach es X.env := by rfl) (hpl : (backTo pos (starEach es X.env)).any (·.1) = false := by rfl)
    (ht : eval (.Call (.Attribute o m apos) (e :: es) [] pos) X.env = (do
      let ov ← eval o X.env
      standAt apos.atName
      let (f, first) ← holding [ov] (getMethod ov m pl)
      callWith pos f first (backTo pos (starEach (e :: es) X.env)) (backToKw pos (keywordEach [] X.env))) := by rfl) :
    PE X (.Call (.Attribute o m apos) (e :: es) [] pos) (tMeth C m sp [] E0 to t) := by
  obtain ⟨f, fd, F, hm, hb⟩ := g.ex
  exact pe_meth ho c hm F (hr.mono hj) hb .nil pass0 ha hst hpl ht
theorem pm0 {pl : Sem Bool} (ho : PE X o to) (c : Cls X.K C) (g : Mf X.prog X.w X.K X.mg X.base j C m ps sp) (hr : Room k X.A) (hj : j ≤ k := by decide)
    (ht : eval (.Call (.Attribute o m apos) [] [] pos) X.env = (do
      let ov ← eval o X.env
      standAt apos.atName
      let (f, first) ← holding [ov] (getMethod ov m pl)
      callWith pos f first (backTo pos (starEach [] X.env)) (backToKw pos (keywordEach [] X.env))) := by rfl) :
    PE X (.Call (.Attribute o m apos) [] [] pos) (tMeth C m sp [] E0 to tNil) := by
  obtain ⟨f, fd, F, hm, hb⟩ := g.ex
  exact pe_meth0 ho c hm F (hr.mono hj) hb .nil pass0 ht
theorem pk (g : Kf X.prog X.w X.K X.mg X.base j x C ps sp) (hr : Room k X.A) (ha : PA X (e :: es) t) (hg : Gl X x := by rfl) (hj : j + 1 ≤ k := by decide) (hdb : (x == ("__debug__" : Str)) = false := by decide)
    (he : starEach (e :: es) X.env = (false, eval e X.env) :: starEach es X.env := by rfl) (hpl : (backTo pos (starEach es X.env)).any (·.1) = false := by rfl) :
    PE X (.Call (.Name x p) (e :: es) [] pos) (tMake C sp [] E0 t) := by
  obtain ⟨f, fd, F, M, hm, hb⟩ := g.ex
  exact pe_make M F (hr.mono hj) hg hm hb .nil pass0 ha hdb he hpl
end

/-! ### the dice -/
/-- the dice at a, beside what else is owned -/
def Dice (K : PySem.W.Frag) (H : Hp) (a : Addr) (R : Lg) : Prop := ∃ (c : Addr) (ns : List Int) (i m r : Int), 0 ≤ i ∧ ns.length ≤ 1000 ∧ FzL K H c (ns.map V.int) ∧ Has H ((a, .lst [.ref c, .int i, .int m, .int r]) :: R)
section
variable {K : PySem.W.Frag} {H H' : Hp} {a p : Addr} {R R' : Lg} {o o' : HO}
theorem Dice.has (d : Dice K H a R) : Has H R := let ⟨_, _, _, _, _, _, _, _, h⟩ := d; h.tail
theorem Dice.new (d : Dice K H a R) (f : H p = none) (n : ¬ Imm o) : Dice K (upd H p o) a ((p, o) :: R) :=
  let ⟨c, ns, i, m, r, h1, h2, h3, h⟩ := d
  ⟨c, ns, i, m, r, h1, h2, h3.mono (Mono.new f), (h.new f n).swap2⟩
theorem Dice.old (d : Dice K H a R) (f : H p = none) : Dice K (upd H p o) a R :=
  let ⟨c, ns, i, m, r, h1, h2, h3, h⟩ := d
  ⟨c, ns, i, m, r, h1, h2, h3.mono (Mono.new f), h.old f⟩
theorem Dice.put (d : Dice K H a ((p, o) :: R)) (n : ¬ Imm o') : Dice K (upd H p o') a ((p, o') :: R) :=
  let ⟨c, ns, i, m, r, h1, h2, h3, h⟩ := d
  ⟨c, ns, i, m, r, h1, h2, h3.mono h.swap2.mono_put, (h.swap2.put n).swap2⟩
theorem Dice.at_ (d : Dice K H a ((p, o) :: R)) : H p = some o := d.has.head
theorem Dice.mput (d : Dice K H a ((p, o) :: R)) : Mono H (upd H p o') := d.has.mono_put
theorem Dice.perm (d : Dice K H a R) (e : R.Perm R') : Dice K H a R' :=
  let ⟨c, ns, i, m, r, h1, h2, h3, h⟩ := d
  ⟨c, ns, i, m, r, h1, h2, h3, h.perm (e.cons _)⟩
theorem Dice.sub (d : Dice K H a R) (e : R'.Sublist R) : Dice K H a R' :=
  let ⟨c, ns, i, m, r, h1, h2, h3, h⟩ := d
  ⟨c, ns, i, m, r, h1, h2, h3, h.sub (e.cons_cons _)⟩
theorem Dice.tail (d : Dice K H a ((p, o) :: R)) : Dice K H a R := d.sub (List.sublist_cons_self _ _)
/-- an owned list is let go, and stays from now on -/
theorem Dice.fz {xs : List V} {ob : Obj} (d : Dice K H a ((p, .lst xs) :: R)) : Dice K (upd H p (.frz ob (.lst xs))) a R :=
  let ⟨c, ns, i, m, r, h1, h2, h3, h⟩ := d
  ⟨c, ns, i, m, r, h1, h2, h3.mono h.swap2.mono_put, h.swap2.tail.off (List.nodup_cons.mp h.swap2.nd).1⟩
theorem Dice.mfz {xs : List V} {ob : Obj} (d : Dice K H a ((p, .lst xs) :: R)) : Mono H (upd H p (.frz ob (.lst xs))) := d.mput
/-- what others do with what is owned beside -/
theorem Dice.go (d : Dice K H a R) (h : ∀ S, Has H (R ++ S) → Mono H H' ∧ Has H' (R' ++ S)) : Dice K H' a R' := by
  obtain ⟨c, ns, i, m, r, h1, h2, h3, hh⟩ := d
  have q : Has H (R ++ [(a, .lst [.ref c, .int i, .int m, .int r])]) := hh.perm (List.perm_append_singleton _ _).symm
  obtain ⟨m1, q1⟩ := h _ q
  exact ⟨c, ns, i, m, r, h1, h2, h3.mono m1, q1.perm (List.perm_append_singleton _ _)⟩
end
end Cu

/-! Part 1: a def as it stands behind the top -/
namespace Cu
open PySem PySem.Spec PyProof.Rows L2
def top (i : Nat) : Stmt := PySem.Challenge.pw_catchup_k04_whole_never_wrong.main.body.getD i (.Pass ⟨0, 0, 0, 0⟩)
/-- no built-in's name is the module's -/
structure Blt (mg : Str → Option Value) : Prop where
  len : mg "len" = none
  range : mg "range" = none
  int : mg "int" = none
  list : mg "list" = none
  tuple : mg "tuple" = none
  sorted : mg "sorted" = none
  min : mg "min" = none
  max : mg "max" = none
  sum : mg "sum" = none
  set : mg "set" = none
  str : mg "str" = none
  isinstance : mg "isinstance" = none
  enumerate : mg "enumerate" = none
  zip : mg "zip" = none
  bool : mg "bool" = none
  dict : mg "dict" = none
section
variable (K : PySem.W.Frag) (mg : Str → Option Value)
structure Fd (x : Str) (st : Stmt) : Prop where
  ex : ∃ f fd, Fun K x x st f fd ∧ mg x = some (.ref f)
structure Md (C : Addr) (m qual : Str) (st : Stmt) : Prop where
  ex : ∃ f fd, Fun K m qual st f fd ∧ Meth K C m f
structure Kd (x : Str) (C : Addr) (qual : Str) (st : Stmt) : Prop where
  ex : ∃ f fd, Fun K "__init__" qual st f fd ∧ Mk K C f ∧ mg x = some (.ref C)
end
section
variable {P : Program} {w : World} {K : PySem.W.Frag} {mg : Str → Option Value} {base : Heap} {x m qual : Str} {C : Addr} {st : Stmt} {N ps : List Str} {k : Nat} {sp : Sp}
/-- how the written arguments come to the parameters -/
abbrev Bnd (x qual : Str) (st : Stmt) (ps : List Str) : Prop := ∀ (kV doc pm : Value) (an : Option Addr) (cdv ct : Value) (us : List Value), us.length = ps.length → bindArgs (PySem.W.fnOf x qual (defArgs st) (defBody st) (defScope st) .none kV doc pm an cdv ct) ⟨us, []⟩ = pure (ps.zip us)
theorem Fd.ok (F : Fd K mg x st) (S : FnScope N ps (defScope st)) (b : Bnd x x st ps) (len : ∀ vs H Q E, sp vs H Q E → vs.length = ps.length)
    (hbody : ∀ (qual : Str) (f : Addr) (cdv : Value) (A : Around) (outer : List Env) (s : Shared) (H : Hp) (vs : List V) (Q : VK) (E : XK), Room k (A.deeper (envOfC qual (defScope st) s.heap.objs.size f cdv)) → sp vs H Q E →
      ∃ t, PSs (cxOf CX0 P w K mg base N qual (defScope st) f cdv A outer s H E).nox (defBody st) t ∧ t { nx := fun _ H' => Q .non H', rt := Q } (start N vs) H) : Gf P w K mg base (k + 1) x ps sp := by
  obtain ⟨f, fd, F, hm⟩ := F.ex
  exact ⟨f, fd, F.ok S len fun cdv A outer s H vs Q E hr h => hbody x f cdv A outer s H vs Q E hr h, hm, F.kp, F.binds b⟩
theorem Md.ok (F : Md K C m qual st) (S : FnScope N ps (defScope st)) (b : Bnd m qual st ps) (len : ∀ vs H Q E, sp vs H Q E → vs.length = ps.length)
    (hbody : ∀ (qual : Str) (f : Addr) (cdv : Value) (A : Around) (outer : List Env) (s : Shared) (H : Hp) (vs : List V) (Q : VK) (E : XK), Room k (A.deeper (envOfC qual (defScope st) s.heap.objs.size f cdv)) → sp vs H Q E →
      ∃ t, PSs (cxOf CX0 P w K mg base N qual (defScope st) f cdv A outer s H E).nox (defBody st) t ∧ t { nx := fun _ H' => Q .non H', rt := Q } (start N vs) H) : Mf P w K mg base (k + 1) C m ps sp := by
  obtain ⟨f, fd, F, hm⟩ := F.ex
  exact ⟨f, fd, F.ok S len fun cdv A outer s H vs Q E hr h => hbody qual f cdv A outer s H vs Q E hr h, hm, F.binds b⟩
theorem Kd.ok (F : Kd K mg x C qual st) (S : FnScope N ps (defScope st)) (b : Bnd "__init__" qual st ps) (len : ∀ vs H Q E, sp vs H Q E → vs.length = ps.length)
    (hbody : ∀ (qual : Str) (f : Addr) (cdv : Value) (A : Around) (outer : List Env) (s : Shared) (H : Hp) (vs : List V) (Q : VK) (E : XK), Room k (A.deeper (envOfC qual (defScope st) s.heap.objs.size f cdv)) → sp vs H Q E →
      ∃ t, PSs (cxOf CX0 P w K mg base N qual (defScope st) f cdv A outer s H E).nox (defBody st) t ∧ t { nx := fun _ H' => Q .non H', rt := Q } (start N vs) H) : Kf P w K mg base (k + 1) x C ps sp := by
  obtain ⟨f, fd, F, hm, hx⟩ := F.ex
  exact ⟨f, fd, F.ok S len fun cdv A outer s H vs Q E hr h => hbody qual f cdv A outer s H vs Q E hr h, hm, hx, F.binds b⟩
end
theorem len_of {n : Nat} {ps : List Str} {p : List V → Hp → VK → XK → Prop} (e : n = ps.length := by rfl) : ∀ vs H Q E, (vs.length = n ∧ p vs H Q E) → vs.length = ps.length := fun _ _ _ _ h => h.1.trans e
end Cu

namespace Cu
open PySem PySem.Spec PyProof.Rows L2
/-! sorted(d) of a dict with int keys, any number of them: the keys are taken out as HandS.More does it, and sorted by the order rule of HandS.SortOrd -/
theorem call_sortedDIw {X : Cx} (hcalm : X.calm = true) : CallR X (.builtin "sorted") (fun xs H Q => ∃ (a : Addr) (kvs : List (Key × V)) (ks : List Int), xs = [.ref a] ∧ Rd H a (.dK kvs) ∧ kvs.map (·.1) = ks.map Sum.inl ∧ ks.length ≤ sizeLine ∧
    ∀ (ys : List Int) (p : Addr), ys.Perm ks → ys.Pairwise (· ≤ ·) → H p = none → Q (.ref p) (upd H p (.lst (ys.map V.int)))) := by
  intro pins s σ H xs us Q I r ⟨a, kvs, ks, ex, hd, hks, h64, q⟩
  subst ex
  obtain ⟨u, eu, rx⟩ := vals1 r
  subst eu
  cases rx
  obtain ⟨z, lo, vs, rel, dd⟩ := dk_rd I.hok hd
  obtain ⟨ep, hat⟩ := dd.dictAt
  have hkeys : vs.map (·.1) = ks.map Sum.inl := rel.keys.symm.trans hks
  have hl : vs.length = ks.length := by
    have e := congrArg List.length hkeys
    rwa [List.length_map, List.length_map] at e
  refine Calls.call_function_entry PyProof.Rows.kind_sorted PyProof.Rows.plain_sorted PyProof.Rows.entry_sorted (PyProof.Rows.args_sorted1 _) ?_
  unfold Builtin.«sorted»
  refine wpAny_bind (m := checkCount "sorted" 1 1 _) (wpAny_pure ?_)
  refine wpAny_bind (PySem.W.kdu_collect (A := X.A.in1) (PySem.W.kdl_dict (knd := mixKind X.prog X.w) (kvs := vs) (ep := ep) lo) (I.ok.hd hcalm) hat (by rw [hl]; exact h64) fun h' tk acc hk hacc => ?_)
  have hal : acc.toList.length = ks.length := by rw [Array.length_toList, hacc.1, hl]
  have hS : IntsAre acc.toList ks := ints_each hal fun j v e => by
    obtain ⟨k, x, e1, e2⟩ := hacc.2 j v (by rw [← Array.getElem?_toList]; exact e)
    have e3 : (vs.map (·.1))[j]? = some k := by rw [List.getElem?_map, e1]; rfl
    rw [hkeys, List.getElem?_map] at e3
    cases e4 : ks[j]? with
    | none =>
      rw [e4] at e3
      cases e3
    | some y =>
      rw [e4] at e3
      have e5 : Sum.inl y = k := Option.some.inj e3
      subst e5
      rcases keyIs_shape (show keyIs (Sum.inl y) v = true from e2) with ⟨i, t, ek, ev⟩ | ⟨z, t, ek, ev⟩
      · cases ek
        exact ⟨y, t, rfl, ev⟩
      · cases ek
  have I1 : Inv X pins σ H { s with heap := h', toks := tk } := I.kept hk
  refine wpAny_bind (wpAny_newList ?_ (by rw [hal]; exact h64))
  have hoL : (h'.push (seqObj "list" acc.toList.toArray 0)).get? h'.objs.size = some (seqObj "list" acc.toList.toArray 0) := Heap.get?_push_size _ rfl
  show wpAny _ _ _ _ _ { s with heap := h'.push (seqObj "list" acc.toList.toArray 0), toks := tk }
  refine wpAny_bind (wpAny_holding (wpAny_call_entry PyProof.Rows.slot_list_sort ⟨_, hoL, rfl⟩ PyProof.Rows.entry_list_sort
    (SrtO.list_sort_ord (s := { s with heap := h'.push (seqObj "list" acc.toList.toArray 0), toks := tk }) SrtO.swo_int hoL (by rw [hal]; exact h64) (fun h2 => SrtO.ints_sortable hS h2) fun out h1 h2 => ⟨_, rfl, ?_⟩) (PyProof.Rows.args_list_sort _)))
  obtain ⟨k1, k2, k3⟩ := SrtO.ints_out hS h1 h2
  obtain ⟨e', he'⟩ := PyProof.Rows.sortedHeap_at (vs := acc.toList) (out := out.toArray) hoL
  have hlen : ((out.map SrtO.iv).map V.int).length ≤ sizeLine := by
    rw [List.length_map, k2.length_eq]
    exact h64
  refine wpAny_pure ⟨_, rfl, .ref h'.objs.size, upd H h'.objs.size (.lst ((out.map SrtO.iv).map V.int)), I1.laid (t' := tk) (fun b u e => ?_) (Nat.le_refl _)
    (show ObjOk X.prog X.w _ _ _ (.lst ((out.map SrtO.iv).map V.int)) from ⟨hlen, out, e', vals_of_ints k1, he'⟩), rfl, q _ _ k2 k3 (I1.hok.fresh (Nat.le_refl _))⟩
  have hb : b < h'.objs.size := Heap.lt_size e
  rw [PyProof.Rows.sortedHeap_old (Nat.ne_of_lt hb) (by rw [size_push']; exact Nat.lt_succ_of_lt hb)]
  exact Heap.get?_push_of_some _ e
end Cu

namespace Cu
open PySem PySem.Spec PyProof.Rows L2
/-- a statement of several ends: what stands behind all of them -/
@[irreducible] def tMid (t : TS) : TS := fun D σ H => ∃ N : L2.St → Hp → Prop, t { D with nx := N } σ H ∧ ∀ σ' H', N σ' H' → D.nx σ' H'
theorem rd_mid {t : TS} {D : Ends} {σ : L2.St} {H : Hp} (N : L2.St → Hp → Prop) (h : t { D with nx := N } σ H) (k : ∀ σ' H', N σ' H' → D.nx σ' H') : tMid t D σ H := by
  unfold tMid
  exact ⟨N, h, k⟩
theorem ps_mid {X : Cx} {st : Stmt} {t : TS} (h : PS X st t) : PS X st (tMid t) := ⟨fun pins s σ H D I hw => by
  unfold tMid at hw
  obtain ⟨N, h1, k⟩ := hw
  refine thn (h.run pins s σ H _ I h1) fun f s1 q => ?_
  cases f with
  | next =>
    obtain ⟨σ', H', I', q⟩ := q
    exact ⟨σ', H', I', k _ _ q⟩
  | brk => exact q
  | cont => exact q
  | ret u => exact q⟩
/-- e, and a list in it, if there is one, from now on never changed -/
@[irreducible] def tFzw (t : TE) : TE := fun σ H Q => t σ H fun v H1 => Q v H1 ∨ ∃ a xs, H1 a = some (.lst xs) ∧ ∀ o, Q v (upd H1 a (.frz o (.lst xs)))
theorem rd_fzw {t : TE} {σ : L2.St} {H : Hp} {Q : VK} (h : t σ H fun v H1 => Q v H1 ∨ ∃ a xs, H1 a = some (.lst xs) ∧ ∀ o, Q v (upd H1 a (.frz o (.lst xs)))) : tFzw t σ H Q := by
  unfold tFzw
  exact h
theorem pe_fzw {X : Cx} {e : Expr} {t : TE} (h : PE X e t) : PE X e (tFzw t) := ⟨fun pins s σ H Q I hw => by
  unfold tFzw at hw
  refine thn (h.run pins s σ H _ I hw) fun u s1 ⟨v, H1, I1, r, q⟩ => ?_
  rcases q with q | ⟨a, xs, ha, q⟩
  · exact ⟨_, _, I1, r, q⟩
  · obtain ⟨od, I2⟩ := I1.lock ha trivial
    exact ⟨_, _, I2, r, q od⟩⟩
end Cu

namespace Cu
open PySem PySem.Spec PyProof.Rows L2
/-! rules for a comprehension's element: the written part by its own name -/
section
variable {X : Cx} {tg e o l : Expr} {f : Str} {pos : Pos} {ta tl : TE}
theorem ix_listK (K : PySem.W.Frag) (h : X.K = K) : IxR X (rIxL K) := h ▸ ix_list
theorem ix_tupK (K : PySem.W.Frag) (h : X.K = K) : IxR X (rIxT K) := h ▸ ix_tup
theorem sl_listK (K : PySem.W.Frag) (h : X.K = K) : SlR X (rSlL K) := h ▸ sl_list
theorem op_eqDK (K : PySem.W.Frag) (h : X.K = K) (hu : X.A.units + 64 < cLine) : OpR X (compareOp .Eq) (rEqD K) := h ▸ op_eqD hu
theorem op_neDK (K : PySem.W.Frag) (h : X.K = K) (hu : X.A.units + 64 < cLine) : OpR X (compareOp .NotEq) (rNeD K) := h ▸ op_neD hu
theorem op_in_seqK (K : PySem.W.Frag) (h : X.K = K) : OpR X (compareOp .In) (rIn K false) := h ▸ op_in_seq
theorem op_notIn_seqK (K : PySem.W.Frag) (h : X.K = K) : OpR X (compareOp .NotIn) (rIn K true) := h ▸ op_notIn_seq
theorem call_len_seqK (K : PySem.W.Frag) (h : X.K = K) : CallR X (.builtin "len") (fun xs H Q => ∃ p ys, xs = [.ref p] ∧ (SqL K H p ys ∨ SqT K H p ys) ∧ Q (.int ys.length) H) := h ▸ call_len_seq
theorem call_list_ofK (K : PySem.W.Frag) (h : X.K = K) : CallR X (.type "list") (fun xs H Q => ∃ p ys, xs = [.ref p] ∧ (SqL K H p ys ∨ SqT K H p ys) ∧ ∀ l, H l = none → Q (.ref l) (upd H l (.lst ys))) := h ▸ call_list_of
theorem call_tuple_ofK (K : PySem.W.Frag) (h : X.K = K) : CallR X (.type "tuple") (fun xs H Q => ∃ p ys, xs = [.ref p] ∧ ((SqL K H p ys ∧ ∀ l, H l = none → Q (.ref l) (upd H l (.tup ys))) ∨ (SqT K H p ys ∧ Q (.ref p) H))) := h ▸ call_tuple_of
theorem cr_sumK (K : PySem.W.Frag) (h : X.K = K) (hc : X.calm = true) : CallR X (.builtin "sum") (rSum K) := h ▸ cr_sum hc
theorem cr_minK' (K : PySem.W.Frag) (h : X.K = K) (hc : X.calm = true) : CallR X (.builtin "min") (rMin K) := h ▸ cr_min hc
theorem cr_maxK' (K : PySem.W.Frag) (h : X.K = K) (hc : X.calm = true) : CallR X (.builtin "max") (rMax K) := h ▸ cr_max hc
theorem cr_sortedIK (K : PySem.W.Frag) (h : X.K = K) : CallR X (.builtin "sorted") (rSortedI K) := h ▸ cr_sortedI
theorem pi_listK (K : PySem.W.Frag) (h : X.K = K) (hl : PE X l tl) : PI X tg l (iList K tl) := h ▸ pi_list hl
theorem pe_fldK (K : PySem.W.Frag) (h : X.K = K) (he : PE X e ta) (hb : attributeBase e f X.env (eval e X.env) = eval e X.env) : PE X (.Attribute e f pos) (tFld K ta f) := h ▸ pe_fld he hb
end
end Cu

namespace Cu
open PySem PySem.Spec PyProof.Rows L2
abbrev s_dice : Stmt := (top 14)
theorem sc_dice : FnScope ["_law_script", "_law_mixed", "_law_cell"] ["_law_script"] (defScope s_dice) := ⟨rfl, rfl, rfl, by decide +kernel, rfl, by decide +kernel, by decide +kernel⟩

abbrev s_next : Stmt := (top 15)
theorem sc_next : FnScope ["_law_dice_here", "_law_many", "_law_found", "_law_cell"] ["_law_dice_here", "_law_many"] (defScope s_next) := ⟨rfl, rfl, rfl, by decide +kernel, rfl, by decide +kernel, by decide +kernel⟩

def spDice (K : PySem.W.Frag) : Sp := fun vs H Q _ => vs.length = 1 ∧ ∃ (c : Addr) (ns : List Int) (R : Lg), vs = [.ref c] ∧ ns.length ≤ 1000 ∧ FzL K H c (ns.map V.int) ∧ Has H R ∧
  ∀ (a : Addr) (H' : Hp), Mono H H' → Dice K H' a R → Q (.ref a) H'
def spNext (K : PySem.W.Frag) : Sp := fun vs H Q _ => vs.length = 2 ∧ ∃ (a : Addr) (m : Int) (R : Lg), vs = [.ref a, .int m] ∧ 0 < m ∧ m ≤ 1000000000000000000 ∧ Dice K H a R ∧
  ∀ (r : Int) (H' : Hp), 0 ≤ r → r < m → Mono H H' → Dice K H' a R → Q (.int r) H'
section
variable {P : Program} {w : World} {K : PySem.W.Frag} {mg : Str → Option Value} {base : Heap}
theorem ok_dice (F : Fd K mg "_law_dice" s_dice) (Bm : Blt mg) : Gf P w K mg base 1 "_law_dice" ["_law_script"] (spDice K) := by
  refine F.ok sc_dice (fun _ _ _ _ _ _ us hl => match us, hl with | [_], _ => rfl) len_of fun qual f cdv A outer s H vs Q E hr h => ?_
  obtain ⟨_, c, ns, R, rfl, hn, hf, hR, k⟩ := h
  refine ⟨_, (pss_cons (ps_set (i := 1) sc_dice.nd rfl (Or.inl rfl) pe_int)
      (pss_cons (ps_for PassesOwn.never rfl (pi_list (pv 0)) (pg_name (i := 2) sc_dice.nd rfl (Or.inl rfl))
        (pss_one (ps_set (i := 1) sc_dice.nd rfl (Or.inl rfl) (pe_op op_mod (pe_op op_add (pe_op op_add (pe_op op_mul (pv 1) pe_int) (pe_op op_mul (pe_op op_mod (pv 2) pe_int) pe_int)) pe_int) pe_int))))
      (pss_one (ps_ret (pe_lst (pa_cons (pv 0) (pa_cons pe_int (pa_cons (pe_op op_mul (pv 1) (pe_callTy call_int1 rfl Bm.int (by decide +kernel) (pa_cons (pe_cmpR op_gt (pe_callB call_len_seq rfl Bm.len (by decide +kernel) (pa_cons (pv 0) pa_nil)) pe_int (nomark _)) pa_nil))) (pa_cons pe_int pa_nil))))))))), ?_⟩
  refine ⟨_, rfl, c, rfl, ⟨_, hf.sq⟩, for_list (K := K) (a := c) (xs := ns.map V.int) (fun i σ H2 => ∃ (z : Int) (v : Option V), σ = [some (.ref c), some (.int z), v] ∧ H2 = H) ⟨0, none, rfl, rfl⟩ (fun i σ H2 _ ⟨_, _, _, e⟩ => by rw [e]; exact hf.sq) ?_ ?_⟩
  · rintro i x σ H2 hi ⟨z, v, rfl, rfl⟩
    obtain ⟨y, rfl⟩ : ∃ y, x = V.int y := by
      rw [List.getElem?_map] at hi
      cases e : ns[i]? with
      | none =>
        rw [e] at hi
        cases hi
      | some y =>
        rw [e] at hi
        exact ⟨y, (Option.some.inj hi).symm⟩
    refine ⟨_, rfl, _, _, rfl, rfl, .inr ⟨by decide, by decide⟩, _, rfl, _, _, rfl, rfl, (by show (0 : Int) < 2147483647; decide), _, _, rfl, rfl, .inr ⟨by decide, by decide⟩, _, _, rfl, rfl, _, _, rfl, rfl, _, _, rfl, rfl, (by show (0 : Int) < 2147483647; decide), ?_⟩
    exact ⟨_, _, rfl, rfl⟩
  · rintro σ H2 ⟨z, v, rfl, rfl⟩
    refine ⟨_, rfl, _, rfl, _, rfl, c, _, rfl, .inl hf.sq, _, _, rfl, rfl, .inr ⟨_, rfl, _, _, rfl, rfl, .inr (by split <;> exact ⟨by decide, by decide⟩), ?_⟩⟩
    refine ⟨(by show 4 ≤ sizeLine; decide), fun l hl => ?_⟩
    exact k l _ (Mono.new hl) ⟨c, ns, _, _, _, Int.le_refl 0, hn, hf.mono (Mono.new hl), hR.new hl nl⟩
theorem ok_next (F : Fd K mg "_law_next" s_next) (Bm : Blt mg) : Gf P w K mg base 1 "_law_next" ["_law_dice_here", "_law_many"] (spNext K) := by
  refine F.ok sc_next (fun _ _ _ _ _ _ us hl => match us, hl with | [_, _], _ => rfl) len_of fun qual f cdv A outer s H vs Q E hr h => ?_
  obtain ⟨_, a, m, R, rfl, hm, hm2, ⟨c, ns, i, mx, r, hi, hn, hf, hh⟩, k⟩ := h
  have hdiv : CDivW 0 m := wide_div hm (wide_le (j := 1000000000000000000) (a := 60) (by omega) (by omega) (by decide)) (by decide) (by decide)
  refine ⟨_, (pss_cons (ps_if (pt_cmpR op_gt (pe_ix ix_list (pv 0) pe_int (fun _ _ => rfl)) pe_int (nomark _))
        (pss_cons (ps_set (i := 2) sc_next.nd rfl (Or.inl rfl) (pe_op op_mod (pe_ix ix_list (pv 0) pe_int (fun _ _ => rfl)) (pv 1)))
        (pss_cons (ps_asg (pe_op op_fdivW (pe_ix ix_list (pv 0) pe_int (fun _ _ => rfl)) (pv 1)) (pg_sub (pv 0) pe_int set_list))
        (pss_one (ps_ret (pv 2)))))
        pss_nil)
      (pss_cons (ps_asg (pe_op op_add (pe_ix ix_list (pv 0) pe_int (fun _ _ => rfl)) pe_int) (pg_sub (pv 0) pe_int set_list))
      (pss_cons (ps_if (pt_cmpR op_le (pe_ix ix_list (pv 0) pe_int (fun _ _ => rfl)) (pe_callB call_len_seq rfl Bm.len (by decide +kernel) (pa_cons (pe_ix ix_list (pv 0) pe_int (fun _ _ => rfl)) pa_nil)) (nomark _))
        (pss_cons (ps_set (i := 3) sc_next.nd rfl (Or.inl rfl) (pe_ix ix_list (pe_ix ix_list (pv 0) pe_int (fun _ _ => rfl)) (pe_op op_sub (pe_ix ix_list (pv 0) pe_int (fun _ _ => rfl)) pe_int) (fun _ _ => rfl)))
        (pss_cons (ps_asg (pe_ifExp (pt_cmpR op_ge (pv 3) (pe_op op_pow pe_int pe_int) (nomark _)) (pe_op op_fdivW (pv 3) (pv 1)) pe_int) (pg_sub (pv 0) pe_int set_list))
        (pss_one (ps_ret (pe_op op_mod (pv 3) (pv 1))))))
        pss_nil)
      (pss_cons (ps_asg (pe_op op_mod (pe_op op_mul (pe_ix ix_list (pv 0) pe_int (fun _ _ => rfl)) pe_int) pe_int) (pg_sub (pv 0) pe_int set_list))
      (pss_one (ps_ret (pe_op op_mod (pe_op op_fdivW (pe_ix ix_list (pv 0) pe_int (fun _ _ => rfl)) pe_int) (pv 1)))))))), ?_⟩
  have h0 := hh.head
  refine ⟨_, rfl, _, _, _, _, rfl, rfl, SqL.of h0, rfl, _, _, rfl, rfl, _, rfl, ite2 (fun hr0 => ?_) fun hr0 => ?_⟩
  · refine ⟨_, rfl, _, _, _, _, rfl, rfl, SqL.of h0, rfl, _, rfl, _, _, rfl, rfl, hm, ?_⟩
    refine ⟨_, rfl, _, _, _, _, rfl, rfl, SqL.of h0, rfl, _, rfl, _, _, rfl, rfl, hdiv, _, rfl, _, _, _, _, rfl, rfl, h0, rfl, _, rfl, ?_⟩
    exact k _ _ (Int.emod_nonneg _ (by omega)) (Int.emod_lt_of_pos _ hm) hh.mono_put ⟨c, ns, i, mx, r / m, hi, hn, hf.mono hh.mono_put, hh.put nl⟩
  · refine ⟨_, rfl, _, _, _, _, rfl, rfl, SqL.of h0, rfl, _, _, rfl, rfl, _, rfl, _, _, _, _, rfl, rfl, h0, rfl, ?_⟩
    have h1 : Has (upd H a (.lst [.ref c, .int (i + 1), .int mx, .int r])) ((a, .lst [.ref c, .int (i + 1), .int mx, .int r]) :: R) := hh.put nl
    have m1 : Mono H (upd H a (.lst [.ref c, .int (i + 1), .int mx, .int r])) := hh.mono_put
    have f1 := hf.mono m1
    have e1 := h1.head
    refine ⟨_, rfl, _, _, _, _, rfl, rfl, SqL.of e1, rfl, _, rfl, _, _, _, _, rfl, rfl, SqL.of e1, rfl, c, _, rfl, .inl f1.sq, _, _, rfl, rfl, _, rfl, ite2 (fun hle => ?_) fun hle => ?_⟩
    · have hle' : i + 1 ≤ (ns.length : Int) := by
        have := of_decide_eq_true hle
        rw [List.length_map] at this
        exact this
      have hj : i.toNat < ns.length := by omega
      have hat : atI (ns.map V.int) (i + 1 - 1) = some (V.int ns[i.toNat]) := at_of (j := i.toNat) (by omega) (by rw [List.getElem?_map, List.getElem?_eq_getElem hj]; rfl)
      refine ⟨_, rfl, _, _, _, _, rfl, rfl, SqL.of e1, rfl, _, rfl, _, _, _, _, rfl, rfl, SqL.of e1, rfl, _, _, rfl, rfl, c, _, _, _, rfl, rfl, f1.sq, hat, ?_⟩
      refine ⟨_, rfl, _, _, rfl, rfl, ⟨by decide, by decide, by decide⟩, _, _, rfl, rfl, _, rfl, ite2 (fun hb => ?_) fun hb => ?_⟩
      · refine ⟨_, rfl, _, rfl, _, _, rfl, rfl, hdiv, _, rfl, _, _, _, _, rfl, rfl, e1, rfl, _, rfl, _, rfl, _, _, rfl, rfl, hm, ?_⟩
        exact k _ _ (Int.emod_nonneg _ (by omega)) (Int.emod_lt_of_pos _ hm) (m1.trans h1.mono_put) ⟨c, ns, i + 1, mx, ns[i.toNat] / m, by omega, hn, f1.mono h1.mono_put, h1.put nl⟩
      · refine ⟨_, rfl, _, _, _, _, rfl, rfl, e1, rfl, _, rfl, _, rfl, _, _, rfl, rfl, hm, ?_⟩
        exact k _ _ (Int.emod_nonneg _ (by omega)) (Int.emod_lt_of_pos _ hm) (m1.trans h1.mono_put) ⟨c, ns, i + 1, mx, 0, by omega, hn, f1.mono h1.mono_put, h1.put nl⟩
    · refine ⟨_, rfl, _, _, _, _, rfl, rfl, SqL.of e1, rfl, _, _, rfl, rfl, .inr ⟨by decide, by decide⟩, _, _, rfl, rfl, (by show (0 : Int) < 2147483647; decide), _, rfl, _, _, _, _, rfl, rfl, e1, rfl, ?_⟩
      have h2 := h1.put (o' := .lst [.ref c, .int (i + 1), .int (mx * 48271 % 2147483647), .int r]) nl
      have e2 := h2.head
      refine ⟨_, rfl, _, _, _, _, rfl, rfl, SqL.of e2, rfl, _, _, rfl, rfl, ⟨by decide, by decide⟩, _, rfl, _, _, rfl, rfl, hm, ?_⟩
      exact k _ _ (Int.emod_nonneg _ (by omega)) (Int.emod_lt_of_pos _ hm) (m1.trans h1.mono_put) ⟨c, ns, i + 1, _, r, by omega, hn, f1.mono h1.mono_put, h2⟩
end
end Cu

namespace Cu
open PySem PySem.Spec PyProof.Rows L2
abbrev s_worth : Stmt := (top 16)
theorem sc_worth : FnScope ["_law_d"] ["_law_d"] (defScope s_worth) := ⟨rfl, rfl, rfl, by decide +kernel, rfl, by decide +kernel, by decide +kernel⟩

abbrev s_changes : Stmt := (top 18)
theorem sc_changes : FnScope ["_law_d", "_law_keys", "_law_most", "_law_often", "_law_few", "_law_found", "_law_k", "_law_word"] ["_law_d", "_law_keys", "_law_most"] (defScope s_changes) := ⟨rfl, rfl, rfl, by decide +kernel, rfl, by decide +kernel, by decide +kernel⟩

theorem at_some {xs : List V} {r : Int} (h0 : 0 ≤ r) (h1 : r < (xs.length : Int)) : ∃ v, atI xs r = some v ∧ v ∈ xs := by
  have hj : r.toNat < xs.length := by omega
  exact ⟨xs[r.toNat], at_of (j := r.toNat) (by omega) (List.getElem?_eq_getElem hj), List.getElem_mem hj⟩
/-- a change as it is drawn -/
structure Ch where
  key : Nat
  set : Bool
  worth : Int
def wd (b : Bool) : Str := if b then "set" else "add"
def Ch.enc (c : Ch) : PyData := .tuple [.int c.key, .str (wd c.set), .int c.worth]
def spWorth (K : PySem.W.Frag) : Sp := fun vs H Q _ => vs.length = 1 ∧ ∃ (a : Addr) (R : Lg), vs = [.ref a] ∧ Dice K H a R ∧ ∀ (z : Int) (H' : Hp), Mono H H' → Dice K H' a R → Q (.int z) H'
def spChanges (K : PySem.W.Frag) : Sp := fun vs H Q _ => vs.length = 3 ∧ ∃ (a : Addr) (nk mo : Nat) (R : Lg), vs = [.ref a, .int nk, .int mo] ∧ 0 < nk ∧ nk ≤ 8 ∧ mo ≤ 1000 ∧ Dice K H a R ∧
  ∀ (cs : List Ch) (v : V) (H' : Hp), cs.length ≤ mo → (∀ c ∈ cs, c.key < nk) → Mono H H' → Dice K H' a R → Rp K H' (.list (cs.map Ch.enc)) v → Q v H'
section
variable {P : Program} {w : World} {K : PySem.W.Frag} {mg : Str → Option Value} {base : Heap}
theorem ok_worth (F : Fd K mg "_law_worth" s_worth) (Bm : Blt mg) (g_next : Gf P w K mg base 1 "_law_next" ["_law_dice_here", "_law_many"] (spNext K)) : Gf P w K mg base 2 "_law_worth" ["_law_d"] (spWorth K) := by
  refine F.ok sc_worth (fun _ _ _ _ _ _ us hl => match us, hl with | [_], _ => rfl) len_of fun qual f cdv A outer s H vs Q E hr h => ?_
  obtain ⟨_, a, R, rfl, d, k⟩ := h
  refine ⟨_, (pss_one (ps_ret (pe_ix ix_list (pe_lst (pa_cons (pe_op op_sub (pc g_next hr (pa_cons (pv 0) (pa_cons pe_int pa_nil))) pe_int) (pa_cons (pe_op op_sub (pc g_next hr (pa_cons (pv 0) (pa_cons pe_int pa_nil))) pe_int) (pa_cons (pc g_next hr (pa_cons (pv 0) (pa_cons (pe_op op_pow pe_int pe_int) pa_nil))) pa_nil)))) (pc g_next hr (pa_cons (pv 0) (pa_cons pe_int pa_nil))) (fun _ _ => rfl)))), ?_⟩
  refine ⟨_, rfl, rfl, a, 5, R, rfl, by decide, by decide, d, fun r1 H1 _ _ m1 d1 => ⟨_, _, rfl, rfl, ?_⟩⟩
  refine ⟨_, rfl, rfl, a, 2000, R, rfl, by decide, by decide, d1, fun r2 H2 _ _ m2 d2 => ⟨_, _, rfl, rfl, ?_⟩⟩
  refine ⟨_, rfl, _, _, rfl, rfl, ⟨by decide, by decide, by decide⟩, rfl, a, 1000000000000000000, R, rfl, by decide, by decide, d2, fun r3 H3 _ _ m3 d3 => ⟨(by show 3 ≤ sizeLine; decide), fun p hp => ?_⟩⟩
  refine ⟨_, rfl, rfl, a, 3, _, rfl, by decide, by decide, d3.new (o := .lst [.int (r1 - 1), .int (r2 - 1000), .int r3]) hp nl, fun r4 H4 h0 h1 m4 d4 => ?_⟩
  obtain ⟨v, hv, hm⟩ := at_some (xs := [.int (r1 - 1), .int (r2 - 1000), .int r3]) h0 h1
  obtain ⟨z, rfl⟩ : ∃ z, v = V.int z := by
    simp only [List.mem_cons, List.not_mem_nil, or_false] at hm
    rcases hm with e | e | e <;> exact ⟨_, e⟩
  exact ⟨_, _, _, _, rfl, rfl, SqL.of d4.at_, hv, k z H4 ((((m1.trans m2).trans m3).trans (Mono.new hp)).trans m4) d4.tail⟩
theorem ok_changes (F : Fd K mg "_law_changes" s_changes) (Bm : Blt mg) (g_next : Gf P w K mg base 1 "_law_next" ["_law_dice_here", "_law_many"] (spNext K)) (g_worth : Gf P w K mg base 2 "_law_worth" ["_law_d"] (spWorth K)) :
    Gf P w K mg base 3 "_law_changes" ["_law_d", "_law_keys", "_law_most"] (spChanges K) := by
  refine F.ok sc_changes (fun _ _ _ _ _ _ us hl => match us, hl with | [_, _, _], _ => rfl) len_of fun qual f cdv A outer s H vs Q E hr h => ?_
  obtain ⟨_, a, nk, mo, R, rfl, hk, hk8, hmo, d, k⟩ := h
  refine ⟨_, (pss_cons (ps_set (i := 3) sc_changes.nd rfl (Or.inl rfl) (pe_op op_add pe_int (pc g_next hr (pa_cons (pv 0) (pa_cons pe_int pa_nil)))))
      (pss_cons (ps_set (i := 4) sc_changes.nd rfl (Or.inl rfl) (pe_op op_add pe_int (pc g_next hr (pa_cons (pv 0) (pa_cons (pv 1) pa_nil)))))
      (pss_cons (ps_set (i := 5) sc_changes.nd rfl (Or.inl rfl) (pe_lst pa_nil))
      (pss_cons (ps_for PassesOwn.never rfl (pi_range1 rfl Bm.range (pa_cons (pc g_next hr (pa_cons (pv 0) (pa_cons (pe_op op_add (pv 2) pe_int) pa_nil))) pa_nil)) (pg_name (i := 6) sc_changes.nd rfl (Or.inl rfl))
        (pss_cons (ps_set (i := 7) sc_changes.nd rfl (Or.inl rfl) (pe_ix ix_list (pe_lst (pa_cons pe_str (pa_cons pe_str pa_nil))) (pe_callTy call_int1 rfl Bm.int (by decide +kernel) (pa_cons (pe_cmpR op_eq (pc g_next hr (pa_cons (pv 0) (pa_cons (pv 3) pa_nil))) pe_int (nomark _)) pa_nil)) (fun _ _ => rfl)))
        (pss_one (ps_expr (pe_bm PySem.F.plainAttrs_list PySem.F.slot_list_append PySem.F.type_list_append mt_append (pv 5) (pa_cons (pe_tup (pa_cons (pc g_next hr (pa_cons (pv 0) (pa_cons (pe_ix ix_list (pe_lst (pa_cons (pv 4) (pa_cons (pv 4) (pa_cons (pv 1) pa_nil)))) (pc g_next hr (pa_cons (pv 0) (pa_cons pe_int pa_nil))) (fun _ _ => rfl)) pa_nil))) (pa_cons (pv 7) (pa_cons (pc g_worth hr (pa_cons (pv 0) pa_nil)) pa_nil)))) pa_nil))))))
      (pss_one (ps_ret (pe_fz (pv 5)))))))), ?_⟩
  refine ⟨_, rfl, rfl, a, 4, R, rfl, by decide, by decide, d, fun r1 H1 p1 q1 m1 d1 => ⟨_, _, rfl, rfl, ?_⟩⟩
  refine ⟨_, rfl, _, rfl, rfl, a, nk, R, rfl, by omega, by omega, d1, fun r2 H2 p2 q2 m2 d2 => ⟨_, _, rfl, rfl, ?_⟩⟩
  refine ⟨(by show 0 ≤ sizeLine; decide), fun p hp => ?_⟩
  have d3 := d2.new (o := .lst []) hp nl
  have m3 := (m1.trans m2).trans (Mono.new (o := .lst []) hp)
  refine ⟨_, rfl, _, rfl, _, _, rfl, rfl, rfl, a, mo + 1, _, rfl, by omega, by omega, d3, fun r4 H4 p4 q4 m4 d4 => ⟨_, rfl, by omega, by omega, ?_⟩⟩
  refine for_range (lo := 0) (n := r4.toNat) (fun i σ H5 => ∃ (cs : List Ch) (xs : List V) (v6 v7 : Option V), σ = [some (.ref a), some (.int nk), some (.int mo), some (.int (1 + r1)), some (.int (1 + r2)), some (.ref p), v6, v7] ∧
    Mono H H5 ∧ Dice K H5 a ((p, .lst xs) :: R) ∧ RpL K H5 (cs.map Ch.enc) xs ∧ cs.length = i ∧ ∀ c ∈ cs, c.key < nk)
    ⟨[], [], none, none, rfl, m3.trans m4, d4, .nil, rfl, fun _ h => (nomatch h)⟩ ?_ ?_
  · rintro i σ H5 hi ⟨cs, xs, v6, v7, rfl, m5, d5, rp, hl, hc⟩
    refine ⟨(by show 2 ≤ sizeLine; decide), fun l hl2 => ?_⟩
    have d6 := d5.new (o := .lst [.str "add", .str "set"]) hl2 nl
    refine ⟨_, rfl, _, rfl, rfl, a, _, _, rfl, by omega, by omega, d6, fun r6 H6 _ _ m6 d7 => ⟨rfl, .inr ⟨_, rfl, ?_⟩⟩⟩
    have d8 := d7.tail
    have m8 := (Mono.new (o := .lst [.str "add", .str "set"]) hl2).trans m6
    refine ⟨_, _, _, .str (wd (decide (V.int r6 = V.int 0))), rfl, rfl, SqL.of d7.at_, (by cases decide (V.int r6 = V.int 0) <;> rfl), ?_⟩
    refine ⟨_, rfl, .inl ⟨rfl, _, SqL.of d8.at_⟩, _, rfl, _, rfl, _, rfl, _, rfl, ⟨(by show 3 ≤ sizeLine; decide), fun l2 hl3 => ?_⟩⟩
    have d9 := d8.new (o := .lst [.int (1 + r2), .int (1 + r2), .int nk]) hl3 nl
    refine ⟨_, rfl, rfl, a, 3, _, rfl, by decide, by decide, d9, fun r9 H9 p9 q9 m9 d10 => ?_⟩
    obtain ⟨v, hv, hm⟩ := at_some (xs := [.int (1 + r2), .int (1 + r2), .int nk]) p9 q9
    obtain ⟨z, rfl, hz0, hzk⟩ : ∃ z, v = V.int z ∧ 0 < z ∧ z ≤ nk := by
      simp only [List.mem_cons, List.not_mem_nil, or_false] at hm
      rcases hm with e | e | e
      · exact ⟨_, e, by omega, by omega⟩
      · exact ⟨_, e, by omega, by omega⟩
      · exact ⟨_, e, by omega, by omega⟩
    refine ⟨_, _, _, _, rfl, rfl, SqL.of d10.at_, hv, rfl, a, z, _, rfl, hz0, by omega, d10.tail, fun r11 H11 p11 q11 m11 d11 => ?_⟩
    refine ⟨_, rfl, _, rfl, rfl, a, _, rfl, d11, fun z12 H12 m12 d12 => ⟨(by show 3 ≤ sizeLine; decide), fun t ht => ?_⟩⟩
    have ms := (((m8.trans (Mono.new (o := .lst [.int (1 + r2), .int (1 + r2), .int nk]) hl3)).trans m9).trans m11).trans m12
    have d13 := d12.old (o := .tup [.int r11, .str (wd (decide (V.int r6 = V.int 0))), .int z12]) ht
    have mt : Mono H12 (upd H12 t (.tup [.int r11, .str (wd (decide (V.int r6 = V.int 0))), .int z12])) := Mono.new ht
    have hxs : xs.length = i := by rw [rp.length, List.length_map, hl]
    refine ⟨_, _, _, rfl, rfl, d13.at_, (by rw [hxs]; exact small1000 (by omega)), ?_⟩
    refine ⟨cs ++ [⟨r11.toNat, decide (V.int r6 = V.int 0), z12⟩], _, _, _, rfl, ((m5.trans ms).trans mt).trans d13.mput, d13.put nl, ?_, by rw [List.length_append, hl]; rfl, fun c hcm => ?_⟩
    · rw [List.map_append]
      refine ((rp.mono ((ms.trans mt).trans d13.mput)).append (.cons ?_ .nil))
      have e : ((r11.toNat : Nat) : Int) = r11 := by omega
      refine Rp.tup (d13.mput _ _ upd_same trivial) ?_
      show RpL K _ [.int ((r11.toNat : Nat) : Int), _, _] _
      rw [e]
      exact .cons .int (.cons .str (.cons .int .nil))
    · rcases List.mem_append.mp hcm with h | h
      · exact hc c h
      · rw [List.mem_singleton.mp h]
        show r11.toNat < nk
        omega
  · rintro σ H5 ⟨cs, xs, v6, v7, rfl, m5, d5, rp, hl, hc⟩
    refine rd_fz ⟨_, rfl, p, xs, rfl, d5.at_, fun o => ?_⟩
    exact k cs _ _ (by omega) hc (m5.trans d5.mfz) d5.fz (.lst FzL.frz (rp.mono d5.mfz))
end
end Cu

namespace Cu
open PySem PySem.Spec PyProof.Rows L2
/-! a story: worths and lasts behind changes, rows, letters -/
def wst (k : Nat) (w : Int) (c : Ch) : Int := if c.key = k then (if c.set then 0 else w) + c.worth else w
def wofR : List Ch → Nat → Int
  | [], _ => 0
  | c :: r, k => wst k (wofR r k) c
def lofR : List Ch → Nat → Nat
  | [], _ => 0
  | c :: r, k => if c.key = k then r.length + 1 else lofR r k
def wof (cs : List Ch) (k : Nat) : Int := wofR cs.reverse k
def lof (cs : List Ch) (k : Nat) : Nat := lofR cs.reverse k
theorem wof_nil (k : Nat) : wof [] k = 0 := rfl
theorem lof_nil (k : Nat) : lof [] k = 0 := rfl
theorem wof_snoc (cs : List Ch) (c : Ch) (k : Nat) : wof (cs ++ [c]) k = wst k (wof cs k) c := by
  unfold wof
  rw [List.reverse_append]
  rfl
theorem lof_snoc (cs : List Ch) (c : Ch) (k : Nat) : lof (cs ++ [c]) k = if c.key = k then cs.length + 1 else lof cs k := by
  unfold lof
  rw [List.reverse_append]
  show (if c.key = k then cs.reverse.length + 1 else lofR cs.reverse k) = _
  rw [List.length_reverse]
def wrow (nk : Nat) (cs : List Ch) : List Int := (List.range nk).map (wof cs)
def lrow (nk : Nat) (cs : List Ch) : List Int := (List.range nk).map fun k => (lof cs k : Int)
def ilst (ns : List Int) : PyData := .list (ns.map PyData.int)
def rowD (nk : Nat) (cs : List Ch) : PyData := .tuple [ilst (wrow nk cs), ilst (lrow nk cs)]
inductive Letter where
  | change (n : Nat) (c : Ch) (ahead : Nat)
  | part (n b : Nat) (rows : List (Int × Nat))
  | beat (n : Nat) (lasts : List Nat)
def Letter.enc : Letter → PyData
  | .change n c ahead => .tuple [.str "change", .int n, .int c.key, .str (wd c.set), .int c.worth, .int ahead]
  | .part n b rows => .tuple [.str "part", .int n, .int b, .tuple (rows.map fun r => .tuple [.int r.1, .int r.2])]
  | .beat n lasts => .tuple [.str "beat", .int n, .tuple (lasts.map fun k : Nat => .int k)]
def letsR : List Ch → List Letter
  | [] => []
  | c :: r => letsR r ++ [.change (r.length + 1) c (lofR r c.key)]
def rowsR (nk : Nat) : List Ch → List PyData
  | [] => [rowD nk []]
  | c :: r => rowsR nk r ++ [rowD nk (c :: r).reverse]
def lets (cs : List Ch) : List Letter := letsR cs.reverse
def rowsD (nk : Nat) (cs : List Ch) : List PyData := rowsR nk cs.reverse
theorem lets_nil : lets [] = [] := rfl
theorem lets_snoc (cs : List Ch) (c : Ch) : lets (cs ++ [c]) = lets cs ++ [.change (cs.length + 1) c (lof cs c.key)] := by
  unfold lets lof
  rw [List.reverse_append]
  show letsR cs.reverse ++ [Letter.change (cs.reverse.length + 1) c (lofR cs.reverse c.key)] = _
  rw [List.length_reverse]
theorem rowsD_nil (nk : Nat) : rowsD nk [] = [rowD nk []] := rfl
theorem rowsD_snoc (nk : Nat) (cs : List Ch) (c : Ch) : rowsD nk (cs ++ [c]) = rowsD nk cs ++ [rowD nk (cs ++ [c])] := by
  unfold rowsD
  rw [List.reverse_append]
  show rowsR nk cs.reverse ++ [rowD nk (c :: cs.reverse).reverse] = _
  rw [List.reverse_cons, List.reverse_reverse]
theorem snoc_ind {α : Type} {p : List α → Prop} (h0 : p []) (h1 : ∀ xs x, p xs → p (xs ++ [x])) (xs : List α) : p xs := by
  have q : ∀ ys : List α, p ys.reverse := fun ys => by
    induction ys with
    | nil => exact h0
    | cons y ys ih =>
      rw [List.reverse_cons]
      exact h1 _ _ ih
  have := q xs.reverse
  rwa [List.reverse_reverse] at this
theorem rowsD_last (nk : Nat) (cs : List Ch) : ∃ init, rowsD nk cs = init ++ [rowD nk cs] := by
  induction cs using snoc_ind with
  | h0 => exact ⟨[], rfl⟩
  | h1 cs c _ => exact ⟨_, rowsD_snoc nk cs c⟩
theorem rowsD_length (nk : Nat) (cs : List Ch) : (rowsD nk cs).length = cs.length + 1 := by
  induction cs using snoc_ind with
  | h0 => rfl
  | h1 cs c ih => rw [rowsD_snoc, List.length_append, ih, List.length_append]; rfl
theorem lets_length (cs : List Ch) : (lets cs).length = cs.length := by
  induction cs using snoc_ind with
  | h0 => rfl
  | h1 cs c ih => rw [lets_snoc, List.length_append, ih, List.length_append]; rfl
theorem rowsD_get {nk : Nat} : ∀ {cs : List Ch} {n : Nat}, n ≤ cs.length → (rowsD nk cs)[n]? = some (rowD nk (cs.take n)) := by
  intro cs
  induction cs using snoc_ind with
  | h0 =>
    intro n h
    have : n = 0 := by simpa using h
    subst this
    rfl
  | h1 cs c ih =>
    intro n h
    rw [rowsD_snoc]
    rw [List.length_append, List.length_singleton] at h
    by_cases e : n ≤ cs.length
    · rw [List.getElem?_append_left (by rw [rowsD_length]; omega), ih e, List.take_append_of_le_length e]
    · have e1 : n = cs.length + 1 := by omega
      subst e1
      rw [List.getElem?_append_right (by rw [rowsD_length]; exact Nat.le_refl _), rowsD_length, Nat.sub_self, List.take_of_length_le (by simp)]
      rfl
theorem lets_get : ∀ {cs : List Ch} {n : Nat} {c : Ch}, cs[n]? = some c → (lets cs)[n]? = some (.change (n + 1) c (lof (cs.take n) c.key)) := by
  intro cs
  induction cs using snoc_ind with
  | h0 =>
    intro n c h
    simp at h
  | h1 cs d ih =>
    intro n c h
    rw [lets_snoc]
    have hn : n < cs.length + 1 := by
      have := (List.getElem?_eq_some_iff.mp h).1
      simpa using this
    by_cases e : n < cs.length
    · rw [List.getElem?_append_left (by rw [lets_length]; exact e), List.take_append_of_le_length (Nat.le_of_lt e)]
      rw [List.getElem?_append_left e] at h
      exact ih h
    · have e1 : n = cs.length := by omega
      subst e1
      rw [List.getElem?_append_right (Nat.le_refl _), Nat.sub_self] at h
      have e2 : d = c := by simpa using h
      subst e2
      rw [List.getElem?_append_right (by rw [lets_length]; exact Nat.le_refl _), lets_length, Nat.sub_self, List.take_append_of_le_length (Nat.le_refl _), List.take_of_length_le (Nat.le_refl _)]
      rfl
theorem set_cut {α : Type} (xs : List α) (k : Nat) (v : α) (h : k < xs.length) : xs.take k ++ [v] ++ xs.drop (k + 1) = xs.set k v := by
  rw [List.set_eq_take_append_cons_drop, if_pos h, List.append_assoc]
  rfl
theorem wrow_snoc (nk : Nat) (cs : List Ch) (c : Ch) : wrow nk (cs ++ [c]) = (wrow nk cs).set c.key (wst c.key (wof cs c.key) c) := by
  apply List.ext_getElem?
  intro i
  unfold wrow
  rw [List.getElem?_map]
  by_cases hi : i < nk
  · rw [List.getElem?_range hi]
    by_cases e : c.key = i
    · rw [e, List.getElem?_set_self (by simpa using hi)]
      simp [wof_snoc]
    · rw [List.getElem?_set_ne e, List.getElem?_map, List.getElem?_range hi]
      simp [wof_snoc, wst, e]
  · have h1 : (List.range nk)[i]? = none := by simp; omega
    have h2 : ((List.range nk).map (wof cs)).length ≤ i := by simp; omega
    rw [h1, List.getElem?_eq_none (by rw [List.length_set]; exact h2)]
    rfl
theorem lrow_snoc (nk : Nat) (cs : List Ch) (c : Ch) : lrow nk (cs ++ [c]) = (lrow nk cs).set c.key ((cs.length + 1 : Nat) : Int) := by
  apply List.ext_getElem?
  intro i
  unfold lrow
  rw [List.getElem?_map]
  by_cases hi : i < nk
  · rw [List.getElem?_range hi]
    by_cases e : c.key = i
    · rw [e, List.getElem?_set_self (by simpa using hi)]
      simp [lof_snoc, e]
    · rw [List.getElem?_set_ne e, List.getElem?_map, List.getElem?_range hi]
      simp [lof_snoc, e]
  · have h1 : (List.range nk)[i]? = none := by simp; omega
    have h2 : ((List.range nk).map fun k => (lof cs k : Int)).length ≤ i := by simp; omega
    rw [h1, List.getElem?_eq_none (by rw [List.length_set]; exact h2)]
    rfl
theorem wrow_get {nk k : Nat} {cs : List Ch} (h : k < nk) : (wrow nk cs)[k]? = some (wof cs k) := by
  unfold wrow
  rw [List.getElem?_map, List.getElem?_range h]
  rfl
theorem lrow_get {nk k : Nat} {cs : List Ch} (h : k < nk) : (lrow nk cs)[k]? = some (lof cs k : Int) := by
  unfold lrow
  rw [List.getElem?_map, List.getElem?_range h]
  rfl
theorem wrow_len (nk : Nat) (cs : List Ch) : (wrow nk cs).length = nk := by simp [wrow]
theorem lrow_len (nk : Nat) (cs : List Ch) : (lrow nk cs).length = nk := by simp [lrow]
theorem wrow_nil (nk : Nat) : wrow nk [] = List.replicate nk 0 := by
  apply List.ext_getElem?
  intro i
  by_cases hi : i < nk
  · rw [wrow_get hi, List.getElem?_replicate, if_pos hi]
    rfl
  · rw [List.getElem?_eq_none (by rw [wrow_len]; omega), List.getElem?_eq_none (by simp; omega)]
theorem lrow_nil (nk : Nat) : lrow nk [] = List.replicate nk 0 := by
  apply List.ext_getElem?
  intro i
  by_cases hi : i < nk
  · rw [lrow_get hi, List.getElem?_replicate, if_pos hi]
    rfl
  · rw [List.getElem?_eq_none (by rw [lrow_len]; omega), List.getElem?_eq_none (by simp; omega)]
theorem take_snoc {α : Type} {xs : List α} {i : Nat} {x : α} (h : xs[i]? = some x) : xs.take (i + 1) = xs.take i ++ [x] := by
  rw [List.take_add_one, h]
  rfl

section
variable {K : PySem.W.Frag} {H H' : Hp}
theorem RpL.snoc_inv : ∀ {ds : List PyData} {d : PyData} {vs : List V}, RpL K H (ds ++ [d]) vs → ∃ us v, vs = us ++ [v] ∧ RpL K H ds us ∧ Rp K H d v
  | [], d, vs, h => by
    obtain ⟨v, r, e, h1, h2⟩ := RpL.cons_inv (show RpL K H [d] vs from h)
    have := h2.nil_inv
    subst this
    exact ⟨[], v, e, .nil, h1⟩
  | c :: ds, d, vs, h => by
    obtain ⟨v, r, e, h1, h2⟩ := RpL.cons_inv (show RpL K H (c :: (ds ++ [d])) vs from h)
    obtain ⟨us, u, e2, h3, h4⟩ := RpL.snoc_inv h2
    subst e2
    exact ⟨v :: us, u, e, .cons h1 h3, h4⟩
/-- a list of ints that stays -/
theorem Rp.il_inv {ns : List Int} {v : V} (h : Rp K H (ilst ns) v) : ∃ a, v = .ref a ∧ FzL K H a (ns.map V.int) := by
  obtain ⟨a, xs, e, f, r⟩ := h.lst_inv
  rw [r.ints] at f
  exact ⟨a, e, f⟩
theorem Rp.il {ns : List Int} {a : Addr} (h : FzL K H a (ns.map V.int)) : Rp K H (ilst ns) (.ref a) := .lst h (RpL.of_ints ns)
theorem Rp.ch_inv {c : Ch} {v : V} (h : Rp K H c.enc v) : ∃ a, v = .ref a ∧ H a = some (.tup [.int c.key, .str (wd c.set), .int c.worth]) := by
  obtain ⟨a, xs, e, f, r⟩ := h.tup_inv
  obtain ⟨v1, r1, e1, h1, r⟩ := r.cons_inv
  obtain ⟨v2, r2, e2, h2, r⟩ := r.cons_inv
  obtain ⟨v3, r3, e3, h3, r⟩ := r.cons_inv
  have := r.nil_inv
  subst this e3 e2 e1
  have h1 := Rp.int_iff.mp h1
  have h2 := Rp.str_iff.mp h2
  have h3 := Rp.int_iff.mp h3
  subst h1 h2 h3
  exact ⟨a, e, f⟩
theorem Rp.row_inv {nk : Nat} {cs : List Ch} {v : V} (h : Rp K H (rowD nk cs) v) : ∃ a p q, v = .ref a ∧ H a = some (.tup [.ref p, .ref q]) ∧ FzL K H p ((wrow nk cs).map V.int) ∧ FzL K H q ((lrow nk cs).map V.int) := by
  obtain ⟨a, xs, e, f, r⟩ := h.tup_inv
  obtain ⟨v1, r1, e1, h1, r⟩ := r.cons_inv
  obtain ⟨v2, r2, e2, h2, r⟩ := r.cons_inv
  have := r.nil_inv
  subst this e2 e1
  obtain ⟨p, e1, f1⟩ := h1.il_inv
  obtain ⟨q, e2, f2⟩ := h2.il_inv
  subst e1 e2
  exact ⟨a, p, q, e, f, f1, f2⟩
theorem Rp.row {nk : Nat} {cs : List Ch} {a p q : Addr} (h : H a = some (.tup [.ref p, .ref q])) (f1 : FzL K H p ((wrow nk cs).map V.int)) (f2 : FzL K H q ((lrow nk cs).map V.int)) : Rp K H (rowD nk cs) (.ref a) :=
  .tup h (.cons (.il f1) (.cons (.il f2) .nil))
end
theorem Dice.use {K : PySem.W.Frag} {H : Hp} {a : Addr} {R : Lg} (d : Dice K H a R) : ∃ R0, Has H R0 ∧ ∀ H', Mono H H' → Has H' R0 → Dice K H' a R :=
  let ⟨c, ns, i, m, r, h1, h2, h3, h⟩ := d
  ⟨_, h, fun _ m' h' => ⟨c, ns, i, m, r, h1, h2, h3.mono m', h'⟩⟩
end Cu

namespace Cu
open PySem PySem.Spec PyProof.Rows L2
/-- what is owned goes from C to C', whatever else is owned; nothing else changes -/
structure Tr (H : Hp) (C : Lg) (H' : Hp) (C' : Lg) : Prop where
  mono : Mono H H'
  has : ∀ R, Has H (C ++ R) → Has H' (C' ++ R)
abbrev Grow (H H' : Hp) : Prop := Tr H [] H' []
section
variable {K : PySem.W.Frag} {H H1 H2 : Hp} {C C1 C2 D : Lg} {a p : Addr} {o o' : HO} {R : Lg}
theorem Tr.refl (H : Hp) (C : Lg) : Tr H C H C := ⟨Mono.refl H, fun _ h => h⟩
theorem Tr.trans (t : Tr H C H1 C1) (u : Tr H1 C1 H2 C2) : Tr H C H2 C2 := ⟨t.mono.trans u.mono, fun R h => u.has R (t.has R h)⟩
theorem Tr.right (t : Tr H C H1 C1) : Tr H (C ++ D) H1 (C1 ++ D) := ⟨t.mono, fun R h => by
  rw [List.append_assoc] at h ⊢
  exact t.has _ h⟩
theorem Tr.left (t : Tr H C H1 C1) : Tr H (D ++ C) H1 (D ++ C1) := ⟨t.mono, fun R h => by
  rw [List.append_assoc] at h ⊢
  exact (t.has _ h.swap).swap⟩
theorem Tr.now (t : Tr H C H1 C1) (h : Has H C) : Has H1 C1 := by
  have := t.has [] (by rw [List.append_nil]; exact h)
  rwa [List.append_nil] at this
theorem Tr.own (t : Tr H [] H1 C1) : Has H1 C1 := t.now .nil
theorem Tr.grow (t : Tr H C H1 C1) (g : Grow H1 H2) : Tr H C H2 C1 := t.trans (by simpa using g.right (D := C1))
theorem Tr.new (t : Tr H C H1 C1) (f : H1 p = none) (n : ¬ Imm o) : Tr H C (upd H1 p o) ((p, o) :: C1) := ⟨t.mono.trans (Mono.new f), fun R h => (t.has R h).new f n⟩
theorem Tr.old (t : Tr H C H1 C1) (f : H1 p = none) : Tr H C (upd H1 p o) C1 := ⟨t.mono.trans (Mono.new f), fun R h => (t.has R h).old f⟩
theorem Tr.put (t : Tr H C H1 ((p, o) :: C1)) (h : Has H C) (n : ¬ Imm o') : Tr H C (upd H1 p o') ((p, o') :: C1) := ⟨t.mono.trans (t.now h).mono_put, fun R h => (t.has R h).put n⟩
theorem Tr.fz {xs : List V} {ob : Obj} (t : Tr H C H1 ((p, .lst xs) :: C1)) (h : Has H C) : Tr H C (upd H1 p (.frz ob (.lst xs))) C1 :=
  ⟨t.mono.trans (t.now h).mono_put, fun R h => (t.has R h).tail.off (List.nodup_cons.mp (t.has R h).nd).1⟩
theorem Tr.perm (t : Tr H C H1 C1) (e : C1.Perm C2) : Tr H C H1 C2 := ⟨t.mono, fun R h => (t.has R h).perm (e.append_right R)⟩
theorem Tr.sub (t : Tr H C H1 C1) (e : C2.Sublist C1) : Tr H C H1 C2 := ⟨t.mono, fun R h => (t.has R h).sub (e.append_right R)⟩
theorem Tr.tail (t : Tr H C H1 ((p, o) :: C1)) : Tr H C H1 C1 := t.sub (List.sublist_cons_self _ _)
theorem Tr.swap2 {q r : Addr × HO} (t : Tr H C H1 (q :: r :: C1)) : Tr H C H1 (r :: q :: C1) := t.perm (List.Perm.swap _ _ _)
/-- a new list, frozen at once -/
theorem Tr.nfz {xs : List V} {ob : Obj} (t : Tr H C H1 C1) (f : H1 p = none) : Tr H C (upd (upd H1 p (.lst xs)) p (.frz ob (.lst xs))) C1 :=
  ⟨t.mono.trans ((Mono.new f).trans (Mono.put upd_same fun h => h)), fun R h => ((t.has R h).old f).off ((t.has R h).notin f)⟩
theorem Grow.mono' (g : Grow H H1) : Mono H H1 := g.mono
theorem Grow.has' (g : Grow H H1) (h : Has H R) : Has H1 R := g.has R h
theorem Grow.refl (H : Hp) : Grow H H := Tr.refl H []
theorem Grow.new (f : H p = none) : Grow H (upd H p o) := (Tr.refl H []).old f
/-- a new tuple goes to the end of an owned list -/
theorem snoc_tup {l t : Addr} {ys us : List V} {ds : List PyData} (h : Has H ((l, .lst ys) :: C)) (ht : H t = none) (r : RpL K H ds us) :
    Tr H ((l, .lst ys) :: C) (upd (upd H t (.tup us)) l (.lst (ys ++ [.ref t]))) ((l, .lst (ys ++ [.ref t])) :: C) ∧ Rp K (upd (upd H t (.tup us)) l (.lst (ys ++ [.ref t]))) (.tuple ds) (.ref t) := by
  have s1 := (Tr.refl H ((l, .lst ys) :: C)).old (o := .tup us) ht
  have s2 := s1.put (o' := .lst (ys ++ [.ref t])) h nl
  exact ⟨s2, .tup ((s1.now h).mono_put _ _ upd_same trivial) (r.mono s2.mono)⟩
theorem Dice.grow (d : Dice K H a R) (g : Grow H H1) : Dice K H1 a R := by
  obtain ⟨R0, h0, back⟩ := d.use
  exact back _ g.mono (g.has _ h0)
theorem Dice.tr (d : Dice K H a (C ++ R)) (t : Tr H C H1 C1) : Dice K H1 a (C1 ++ R) :=
  let ⟨c, ns, i, m, r, h1, h2, h3, h⟩ := d
  ⟨c, ns, i, m, r, h1, h2, h3.mono t.mono, by
    have := t.has ((a, .lst [.ref c, .int i, .int m, .int r]) :: R) h.swap1
    exact this.unswap1⟩
theorem Dice.tr0 (d : Dice K H a C) (t : Tr H C H1 C1) : Dice K H1 a C1 := by
  have := Dice.tr (R := []) (by rw [List.append_nil]; exact d) t
  rwa [List.append_nil] at this
end
end Cu

namespace Cu
open PySem PySem.Spec PyProof.Rows L2
/-! data that may be compared -/
def Gd (n : Nat) (d : PyData) : Prop := d.canLay0 = true ∧ d.depth ≤ n
theorem Gd.mono {n m : Nat} {d : PyData} (h : Gd n d) (e : n ≤ m) : Gd m d := ⟨h.1, Nat.le_trans h.2 e⟩
theorem Gd.int {n : Nat} {i : Int} : Gd n (.int i) := ⟨by simp [PyData.canLay0], by simp [PyData.depth]⟩
theorem Gd.none {n : Nat} : Gd n .none := ⟨by simp [PyData.canLay0], by simp [PyData.depth]⟩
theorem Gd.bool {n : Nat} {b : Bool} : Gd n (.bool b) := ⟨by simp [PyData.canLay0], by simp [PyData.depth]⟩
theorem Gd.str {n : Nat} {s : Str} (h : PyData.strOk s = true) : Gd n (.str s) := ⟨by simpa [PyData.canLay0] using h, by simp [PyData.depth]⟩
theorem canAll : ∀ {ds : List PyData}, (∀ d ∈ ds, d.canLay0 = true) → PyData.canLayAll0 ds = true
  | [], _ => by simp [PyData.canLayAll0]
  | d :: ds, h => by
    simp only [PyData.canLayAll0, Bool.and_eq_true]
    exact ⟨h d List.mem_cons_self, canAll fun e he => h e (List.mem_cons_of_mem _ he)⟩
theorem depthAll_le {n : Nat} : ∀ {ds : List PyData}, (∀ d ∈ ds, d.depth ≤ n) → PyData.depthAll ds ≤ n
  | [], _ => by simp [PyData.depthAll]
  | d :: ds, h => by
    simp only [PyData.depthAll]
    exact Nat.max_le.mpr ⟨h d List.mem_cons_self, depthAll_le fun e he => h e (List.mem_cons_of_mem _ he)⟩
theorem Gd.list {n : Nat} {ds : List PyData} (h : ∀ d ∈ ds, Gd n d) : Gd (n + 1) (.list ds) := by
  refine ⟨?_, ?_⟩
  · simp only [PyData.canLay0]
    exact canAll fun d hd => (h d hd).1
  · simp only [PyData.depth]
    have := depthAll_le fun d hd => (h d hd).2
    omega
theorem Gd.tuple {n : Nat} {ds : List PyData} (h : ∀ d ∈ ds, Gd n d) : Gd (n + 1) (.tuple ds) := by
  refine ⟨?_, ?_⟩
  · simp only [PyData.canLay0]
    exact canAll fun d hd => (h d hd).1
  · simp only [PyData.depth]
    have := depthAll_le fun d hd => (h d hd).2
    omega
theorem Gd.all_nil {n : Nat} : ∀ d ∈ ([] : List PyData), Gd n d := fun _ h => (nomatch h)
theorem Gd.all_cons {n : Nat} {d : PyData} {ds : List PyData} (h : Gd n d) (r : ∀ d ∈ ds, Gd n d) : ∀ e ∈ d :: ds, Gd n e := fun e he => by
  rcases List.mem_cons.mp he with rfl | he
  · exact h
  · exact r e he
theorem Gd.shaped {n : Nat} {d : PyData} (h : Gd n d) (e : n ≤ 64 := by decide) : SeqAt.shaped d = true := by
  unfold SeqAt.shaped
  rw [Bool.and_eq_true]
  exact ⟨h.1, decide_eq_true (Nat.le_trans h.2 e)⟩
theorem Gd.refl {n : Nat} {d : PyData} (h : Gd n d) : PyData.eqv d d = true := SeqAt.eqv_refl d h.1
theorem Gd.ilst {n : Nat} (ns : List Int) : Gd (n + 1) (ilst ns) := .list fun d hd => by
  obtain ⟨i, _, rfl⟩ := List.mem_map.mp hd
  exact .int
theorem wd_ok (b : Bool) : PyData.strOk (wd b) = true := by cases b <;> decide +kernel
theorem Gd.letter (l : Letter) : Gd 4 l.enc := by
  cases l with
  | change n c ahead => exact .tuple (.all_cons (.str (by decide +kernel)) (.all_cons .int (.all_cons .int (.all_cons (.str (wd_ok _)) (.all_cons .int (.all_cons .int .all_nil))))))
  | part n b rows =>
    refine .tuple (.all_cons (.str (by decide +kernel)) (.all_cons .int (.all_cons .int (.all_cons (.tuple fun d hd => ?_) .all_nil))))
    obtain ⟨r, _, rfl⟩ := List.mem_map.mp hd
    exact .tuple (.all_cons .int (.all_cons .int .all_nil))
  | beat n lasts =>
    refine .tuple (.all_cons (.str (by decide +kernel)) (.all_cons .int (.all_cons (.tuple fun d hd => ?_) .all_nil)))
    obtain ⟨r, _, rfl⟩ := List.mem_map.mp hd
    exact .int
theorem Gd.letters (ls : List Letter) : Gd 5 (.list (ls.map Letter.enc)) := .list fun d hd => by
  obtain ⟨l, _, rfl⟩ := List.mem_map.mp hd
  exact .letter l
theorem Gd.nil {n : Nat} : Gd (n + 1) (.list []) := .list .all_nil
theorem eqv_nil (ds : List PyData) : PyData.eqv (.list ds) (.list []) = ds.isEmpty := by
  cases ds <;> simp [PyData.eqv, PyData.eqvAll]
theorem eqv_ilst : ∀ {ns ms : List Int}, PyData.eqv (ilst ns) (ilst ms) = decide (ns = ms)
  | [], [] => by simp [ilst, PyData.eqv, PyData.eqvAll]
  | [], _ :: _ => by simp [ilst, PyData.eqv, PyData.eqvAll]
  | _ :: _, [] => by simp [ilst, PyData.eqv, PyData.eqvAll]
  | n :: ns, m :: ms => by
    have ih := eqv_ilst (ns := ns) (ms := ms)
    simp only [ilst, PyData.eqv] at ih
    simp only [ilst, List.map_cons, PyData.eqv, PyData.eqvAll, ih]
    by_cases h : n = m <;> simp [h]
theorem Dp.nil {K : PySem.W.Frag} {H : Hp} {a : Addr} (h : H a = some (.lst [])) : Dp K H (.ref a) (.list []) := .lst (SqL.of h) .nil
theorem cutV_to {xs : List V} {k : Nat} (h : k ≤ xs.length) : cutV xs none (some (k : Int)) = xs.take k := by
  unfold cutV
  rw [HT.sIx_none, HT.sIx_nat, Nat.min_eq_left h, List.drop_zero, Nat.sub_zero]
theorem cutV_from {xs : List V} {k : Nat} (h : k ≤ xs.length) : cutV xs (some (k : Int)) none = xs.drop k := by
  unfold cutV
  rw [HT.sIx_none, HT.sIx_nat, Nat.min_eq_left h, List.take_of_length_le (by simp)]
end Cu

namespace Cu
open PySem PySem.Spec PyProof.Rows L2
def partRows (cs : List Ch) (n b m : Nat) : List (Int × Nat) := (List.range m).map fun i => (wof (cs.take n) (b + i), lof (cs.take n) (b + i))
def partL (cs : List Ch) (n b e : Nat) : Letter := .part n b (partRows cs n b (e - b))
def beatL (nk : Nat) (cs : List Ch) (n : Nat) : Letter := .beat n ((List.range nk).map fun k => lof (cs.take n) k)
/-- a letter of a board of nk keys, with the story cs, as it was at some time -/
inductive IsLet (nk : Nat) (cs : List Ch) : Letter → Prop
  | change {n : Nat} {c : Ch} : cs[n]? = some c → IsLet nk cs (.change (n + 1) c (lof (cs.take n) c.key))
  | part {n b e : Nat} : n ≤ cs.length → b < e → e ≤ nk → IsLet nk cs (partL cs n b e)
  | beat {n : Nat} : n ≤ cs.length → IsLet nk cs (beatL nk cs n)
section
variable {K : PySem.W.Frag}
theorem Rp.str_of {H : Hp} {ls : List Letter} {v : V} (h : Rp K H (.list (ls.map Letter.enc)) v) : ∃ a xs, v = .ref a ∧ FzL K H a xs ∧ RpL K H (ls.map Letter.enc) xs ∧ xs.length = ls.length := by
  obtain ⟨a, xs, e, f, r⟩ := h.lst_inv
  exact ⟨a, xs, e, f, r, by rw [r.length, List.length_map]⟩
end
end Cu

namespace Cu
open PySem PySem.Spec PyProof.Rows L2
/-- list + list, lists that stay among them -/
def rCatZ (K : PySem.W.Frag) : R2 := fun x y H Q => ∃ l b xs zs, x = .ref l ∧ y = .ref b ∧ SqL K H l xs ∧ SqL K H b zs ∧ xs.length + zs.length ≤ sizeLine ∧ ∀ p, H p = none → Q (.ref p) (upd H p (.lst (xs ++ zs)))
theorem op_catZ {X : Cx} : OpR X (binaryOp .Add) (rCatZ X.K) := by
  intro pins s σ H x y v u Q I rx ry h
  obtain ⟨l, b, xs, zs, rfl, rfl, hl, hb, hz, q⟩ := h
  cases rx
  cases ry
  obtain ⟨i1, r1, p1, z1⟩ := I.list hl
  obtain ⟨i2, r2, p2, z2⟩ := I.list hb
  obtain ⟨⟨lc, ld, lq, ls⟩, ho1, e1, n1, e2⟩ := p1.isList
  obtain ⟨⟨bc, bd, bq, bs⟩, ho2, e3, n2, e4⟩ := p2.isList
  simp only at e1 e2 e3 e4
  subst e1 e2 e3 e4
  have hsz : i1.toArray.size + i2.toArray.size ≤ sizeLine := by
    rw [List.size_toArray, List.size_toArray, ← r1.length, ← r2.length]
    exact hz
  refine concat_meets ⟨_, ho1, rfl⟩ ⟨_, ho2, rfl⟩ noFill_list_add seq_list_add F.slot_list_add F.entry_list_add (F.args_list_add_2 _ _) (list_addW l b i1.toArray i2.toArray n1 n2 ld bd ls bs hsz) ⟨ho1, ho2, ?_⟩
  rw [show i1.toArray ++ i2.toArray = (i1 ++ i2).toArray by simp]
  exact ⟨.ref _, _, I.lnew (t' := s.toks) (r1.append r2) (by rw [List.length_append]; exact hz), rfl, q _ I.fresh⟩
end Cu

namespace Cu
open PySem PySem.Spec PyProof.Rows L2
/-- a op1 b op2 c op3 d, as a test -/
def tChain3 (r1 r2 r3 : R2) (ta tb tc td : TE) : TE := fun σ H Q => ta σ H fun x H1 => tb σ H1 fun y H2 => r1 x y H2 fun z H3 => ∃ k, z = .bl k ∧
  (if k = true then tc σ H3 fun u H4 => r2 y u H4 fun z H5 => ∃ k, z = .bl k ∧ (if k = true then td σ H5 fun v H6 => r3 u v H6 Q else Q (.bl false) H5) else Q (.bl false) H3)
section
variable {X : Cx} {a b c d : Expr} {ta tb tc td : TE} {pos : Pos}
theorem pt_chain3 {p1 p2 p3 : CmpOp} {r1 r2 r3 : R2} (o1 : OpR X (compareOp p1) r1) (o2 : OpR X (compareOp p2) r2) (o3 : OpR X (compareOp p3) r3) (ha : PE X a ta) (hb : PE X b tb) (hc : PE X c tc) (hd : PE X d td)
    (hm : lastMarks [p1, p2, p3] [b, c, d] = false := by with_unfolding_all rfl) : PT X (.Compare a [p1, p2, p3] [b, c, d] pos) (tTest (tChain3 r1 r2 r3 ta tb tc td)) := ⟨fun pins s σ H Q I h => by
  refine isTrue_chain (thn (ha.run pins s σ H _ I h) fun v1 s1 ⟨x1, H1, I1, q1, w1⟩ => test_link (thn (hb.run pins s1 σ H1 _ I1 w1) fun v2 s2 ⟨x2, H2, I2, q2, w2⟩ => thn (o1 pins s2 σ H2 x1 x2 v1 v2 _ I2 q1 q2 w2) fun v3 s3 ⟨x3, H3, I3, q3, k, ek, w3⟩ => ?_)) hm
  subst ek
  cases q3
  refine wpAny_truthy_bool ?_
  cases k with
  | false =>
    obtain ⟨_, e, w⟩ := w3
    cases e
    exact ite_ff ⟨H3, I3, w⟩
  | true =>
    refine ite_tt (test_link (thn (hc.run pins s3 σ H3 _ I3 w3) fun v4 s4 ⟨x4, H4, I4, q4, w4⟩ => thn (o2 pins s4 σ H4 x2 x4 v2 v4 _ I4 q2 q4 w4) fun v5 s5 ⟨x5, H5, I5, q5, k5, e5, w5⟩ => ?_))
    subst e5
    cases q5
    refine wpAny_truthy_bool ?_
    cases k5 with
    | false =>
      obtain ⟨_, e, w⟩ := w5
      cases e
      exact ite_ff ⟨H5, I5, w⟩
    | true =>
      refine ite_tt (test_last (thn (hd.run pins s5 σ H5 _ I5 w5) fun v6 s6 ⟨x6, H6, I6, q6, w6⟩ => thn (o3 pins s6 σ H6 x4 x6 v4 v6 _ I6 q4 q6 w6) fun v7 s7 ⟨x7, H7, I7, q7, k7, e7, w7⟩ => ?_))
      subst e7
      cases q7
      exact wpAny_truthy_bool ⟨H7, I7, w7⟩⟩
end
end Cu

namespace Cu
open PySem PySem.Spec PyProof.Rows L2
/-! a hearer, key by key -/
/-- a change put aside -/
structure As where
  n : Nat
  worth : Int
  ahead : Nat
structure HK where
  worth : Int
  since : Nat
  upto : Int
  aside : List As
def HK.ini : HK := ⟨0, 0, -1, []⟩
def HK.done (h : HK) (n : Nat) (set : Bool) (w : Int) : HK := { h with worth := if set then w else h.worth + w, since := n, upto := n }
def asN (as : List As) : List Int := as.map fun a => (a.n : Int)
def srt (ns : List Int) : List Int := ns.mergeSort fun a b => decide (a ≤ b)
def findA (as : List As) (n : Int) : Option As := as.find? fun a => decide ((a.n : Int) = n)
def dropA (as : List As) (n : Int) : List As := as.filter fun a => decide ((a.n : Int) ≠ n)
def putA (as : List As) (a : As) : List As := if (as.any fun x => decide (x.n = a.n)) = true then as.map fun x => if x.n = a.n then a else x else as ++ [a]
def HK.fstep (st : HK × List Int) (n : Int) : HK × List Int :=
  match findA st.1.aside n with
  | none => st
  | some a => if n ≤ st.1.upto then ({ st.1 with aside := dropA st.1.aside n }, st.2)
    else if (a.ahead : Int) ≤ st.1.upto then (({ st.1 with aside := dropA st.1.aside n } : HK).done a.n false a.worth, st.2 ++ [n])
    else st
def HK.free (h : HK) : HK × List Int := (srt (asN h.aside)).foldl HK.fstep (h, [])
def HK.chg (h : HK) (n : Nat) (c : Ch) (ahead : Nat) : HK × List Int :=
  if (n : Int) ≤ h.upto then (h, []) else if c.set = false ∧ h.upto < (ahead : Int) then ({ h with aside := putA h.aside ⟨n, c.worth, ahead⟩ }, [])
  else (((h.done n c.set c.worth).free).1, (n : Int) :: ((h.done n c.set c.worth).free).2)
def HK.row (h : HK) (n : Nat) (w : Int) (last : Nat) : HK × List Int := if h.upto < (n : Int) then ({ h with worth := w, since := last, upto := n } : HK).free else (h, [])
def HK.beat (h : HK) (n last : Nat) : HK := if (last : Int) ≤ h.upto ∧ h.upto < (n : Int) then { h with upto := n } else h
def hearK (k : Nat) (h : HK) : Letter → HK × List Int
  | .change n c ahead => if c.key = k then h.chg n c ahead else (h, [])
  | .part n b rows => if b ≤ k then (match rows[k - b]? with | some r => h.row n r.1 r.2 | none => (h, [])) else (h, [])
  | .beat n lasts => match lasts[k]? with | some l => (h.beat n l, []) | none => (h, [])
def hear (hs : List HK) (l : Letter) : List HK := hs.mapIdx fun k h => (hearK k h l).1
def heard (hs : List HK) (l : Letter) : List Int := (hs.mapIdx fun k h => (hearK k h l).2).flatten
theorem srt_eq {ns ms : List Int} (hp : ms.Perm ns) (hs : ms.Pairwise (· ≤ ·)) : ms = srt ns := by
  refine PySem.W.ksm_same (hp.trans (List.mergeSort_perm ns _).symm) hs ?_
  have := List.pairwise_mergeSort (le := fun a b : Int => decide (a ≤ b)) (fun a b c h1 h2 => by simp at h1 h2 ⊢; omega) (fun a b => by simp; omega) ns
  exact this.imp fun h => by simpa using h
theorem hear_len (hs : List HK) (l : Letter) : (hear hs l).length = hs.length := by simp [hear]

/-! where a hearer lies -/
structure HA where
  p : Addr
  dx : Addr
  l1 : Addr
  l2 : Addr
  l3 : Addr
  l4 : Addr
  ds : List Addr
def hF (A : HA) : List (Str × V) := [("worth", .ref A.l1), ("since", .ref A.l2), ("upto", .ref A.l3), ("aside", .ref A.l4)]
def hObj (C : Addr) (A : HA) (hs : List HK) (kv : List (List (Key × V))) : Lg :=
  (A.p, .ins C A.dx (hF A)) :: (A.l1, .lst (hs.map fun h => .int h.worth)) :: (A.l2, .lst (hs.map fun h => .int h.since)) :: (A.l3, .lst (hs.map fun h => .int h.upto)) ::
    (A.l4, .lst (A.ds.map V.ref)) :: List.zipWith (fun d k => (d, HO.dK k)) A.ds kv
def asL (k : Nat) (a : As) : Letter := .change a.n ⟨k, false, a.worth⟩ a.ahead
def AsOk (K : PySem.W.Frag) (H : Hp) (k : Nat) : List As → List (Key × V) → Prop
  | [], kvs => kvs = []
  | a :: as, kvs => ∃ v r, kvs = (Sum.inl (a.n : Int), v) :: r ∧ Rp K H (asL k a).enc v ∧ AsOk K H k as r
section
variable {K : PySem.W.Frag} {H H' : Hp} {k : Nat}
theorem AsOk.mono (m : Mono H H') : ∀ {as : List As} {kvs : List (Key × V)}, AsOk K H k as kvs → AsOk K H' k as kvs
  | [], _, h => h
  | a :: as, _, ⟨v, r, e, h1, h2⟩ => ⟨v, r, e, h1.mono m, AsOk.mono m h2⟩
theorem AsOk.keys : ∀ {as : List As} {kvs : List (Key × V)}, AsOk K H k as kvs → kvs.map (·.1) = (asN as).map Sum.inl
  | [], _, h => by
    cases h
    rfl
  | a :: as, _, ⟨v, r, e, h1, h2⟩ => by
    subst e
    show Sum.inl (a.n : Int) :: r.map (·.1) = _
    rw [h2.keys]
    rfl
theorem AsOk.len {as : List As} {kvs : List (Key × V)} (h : AsOk K H k as kvs) : kvs.length = as.length := by
  have := congrArg List.length h.keys
  simpa [asN] using this
theorem AsOk.find : ∀ {as : List As} {kvs : List (Key × V)} {n : Int} {a : As}, AsOk K H k as kvs → findA as n = some a → ∃ v, valV kvs (Sum.inl n) = some v ∧ Rp K H (asL k a).enc v
  | [], _, _, _, _, e => by cases e
  | b :: as, _, n, a, ⟨v, r, e, h1, h2⟩, f => by
    subst e
    by_cases hb : (b.n : Int) = n
    · have : findA (b :: as) n = some b := by simp [findA, hb]
      rw [this] at f
      cases f
      exact ⟨v, valV_pos (by rw [hb]), h1⟩
    · have : findA (b :: as) n = findA as n := by simp [findA, hb]
      rw [this] at f
      obtain ⟨u, hu, ru⟩ := h2.find f
      exact ⟨u, by rw [valV_neg (fun q => hb (Sum.inl.inj q))]; exact hu, ru⟩
theorem AsOk.drop : ∀ {as : List As} {kvs : List (Key × V)} (n : Int), AsOk K H k as kvs → AsOk K H k (dropA as n) (dropK kvs (Sum.inl n))
  | [], _, _, h => by
    cases h
    rfl
  | b :: as, _, n, ⟨v, r, e, h1, h2⟩ => by
    subst e
    have ih := AsOk.drop n h2
    by_cases hb : (b.n : Int) = n
    · have : dropA (b :: as) n = dropA as n := by simp [dropA, hb]
      rw [this, dropK_pos (by rw [hb])]
      exact ih
    · have : dropA (b :: as) n = b :: dropA as n := by simp [dropA, hb]
      rw [this, dropK_neg (fun q => hb (Sum.inl.inj q))]
      exact ⟨v, _, rfl, h1, ih⟩
theorem AsOk.any : ∀ {as : List As} {kvs : List (Key × V)} (n : Nat), AsOk K H k as kvs → (kvs.any fun kv => decide (kv.1 = Sum.inl (n : Int))) = as.any fun x => decide (x.n = n)
  | [], _, _, h => by
    cases h
    rfl
  | b :: as, _, n, ⟨v, r, e, h1, h2⟩ => by
    subst e
    rw [List.any_cons, List.any_cons, h2.any]
    congr 1
    by_cases hb : b.n = n <;> simp [hb]
    intro q
    exact hb (by omega)
theorem AsOk.map : ∀ {as : List As} {kvs : List (Key × V)} (a : As) (v : V), AsOk K H k as kvs → Rp K H (asL k a).enc v →
    AsOk K H k (as.map fun x => if x.n = a.n then a else x) (kvs.map fun kv => if kv.1 = Sum.inl (a.n : Int) then (kv.1, v) else kv)
  | [], _, _, _, h, _ => by
    cases h
    rfl
  | b :: as, _, a, v, ⟨u, r, e, h1, h2⟩, hv => by
    subst e
    have ih := AsOk.map a v h2 hv
    by_cases hb : b.n = a.n
    · simp only [List.map_cons, hb, if_pos]
      exact ⟨v, _, rfl, hv, ih⟩
    · have hb' : ¬ ((Sum.inl (b.n : Int) : Key) = Sum.inl (a.n : Int)) := fun q => hb (by have := Sum.inl.inj q; omega)
      simp only [List.map_cons, hb, if_neg hb', if_false]
      exact ⟨u, _, rfl, h1, ih⟩
theorem AsOk.append : ∀ {as bs : List As} {kvs kws : List (Key × V)}, AsOk K H k as kvs → AsOk K H k bs kws → AsOk K H k (as ++ bs) (kvs ++ kws)
  | [], _, _, _, h, g => by
    cases h
    exact g
  | _ :: _, _, _, _, ⟨v, r, e, h1, h2⟩, g => by
    subst e
    exact ⟨v, _, rfl, h1, h2.append g⟩
theorem AsOk.put {as : List As} {kvs : List (Key × V)} {a : As} {v : V} (h : AsOk K H k as kvs) (hv : Rp K H (asL k a).enc v) : AsOk K H k (putA as a) (putK kvs (Sum.inl (a.n : Int)) v) := by
  unfold putA putK
  rw [h.any]
  split
  · exact h.map a v hv
  · exact h.append ⟨v, [], rfl, hv, rfl⟩
end

/-- the objects at c are a hearer's that stands so -/
structure HR (K : PySem.W.Frag) (C : Addr) (A : HA) (hs : List HK) (H : Hp) (c : Lg) : Prop where
  ex : ∃ kv, c = hObj C A hs kv ∧ A.ds.length = hs.length ∧ kv.length = hs.length ∧ ∀ (k : Nat) (h : HK) (kvs : List (Key × V)), hs[k]? = some h → kv[k]? = some kvs → AsOk K H k h.aside kvs
theorem Tr.mid {H : Hp} {pre post : Lg} {a : Addr} {o o' : HO} (h : Has H (pre ++ (a, o) :: post)) (n : ¬ Imm o') : Tr H (pre ++ (a, o) :: post) (upd H a o') (pre ++ (a, o') :: post) := by
  refine ⟨Mono.put (h.mem (by simp)) (h.at_ (a, o) (by simp)).2, fun R hR => ?_⟩
  rw [List.append_assoc, List.cons_append] at hR ⊢
  exact ((hR.perm List.perm_middle).put n).perm List.perm_middle.symm
section
variable {K : PySem.W.Frag} {C : Addr} {A : HA} {hs : List HK} {H H' : Hp} {c : Lg} {k : Nat} {h : HK}
theorem HR.mono (r : HR K C A hs H c) (m : Mono H H') : HR K C A hs H' c := by
  obtain ⟨kv, e, l1, l2, q⟩ := r.ex
  exact ⟨kv, e, l1, l2, fun k h kvs e1 e2 => (q k h kvs e1 e2).mono m⟩
theorem HR.at_p (r : HR K C A hs H c) (h : Has H c) : H A.p = some (.ins C A.dx (hF A)) := by
  obtain ⟨kv, rfl, _⟩ := r.ex
  exact h.mem (by simp [hObj])
theorem HR.at1 (r : HR K C A hs H c) (h : Has H c) : H A.l1 = some (.lst (hs.map fun h => .int h.worth)) := by
  obtain ⟨kv, rfl, _⟩ := r.ex
  exact h.mem (by simp [hObj])
theorem HR.at2 (r : HR K C A hs H c) (h : Has H c) : H A.l2 = some (.lst (hs.map fun h => .int h.since)) := by
  obtain ⟨kv, rfl, _⟩ := r.ex
  exact h.mem (by simp [hObj])
theorem HR.at3 (r : HR K C A hs H c) (h : Has H c) : H A.l3 = some (.lst (hs.map fun h => .int h.upto)) := by
  obtain ⟨kv, rfl, _⟩ := r.ex
  exact h.mem (by simp [hObj])
theorem HR.at4 (r : HR K C A hs H c) (h : Has H c) : H A.l4 = some (.lst (A.ds.map V.ref)) := by
  obtain ⟨kv, rfl, _⟩ := r.ex
  exact h.mem (by simp [hObj])
theorem HR.dict (r : HR K C A hs H c) (hh : Has H c) (e : hs[k]? = some h) : ∃ d kvs, A.ds[k]? = some d ∧ H d = some (.dK kvs) ∧ AsOk K H k h.aside kvs := by
  obtain ⟨kv, rfl, l1, l2, q⟩ := r.ex
  have hk := (List.getElem?_eq_some_iff.mp e).1
  obtain ⟨d, hd⟩ : ∃ d, A.ds[k]? = some d := ⟨A.ds[k], List.getElem?_eq_getElem (by omega)⟩
  obtain ⟨kvs, hkv⟩ : ∃ kvs, kv[k]? = some kvs := ⟨kv[k], List.getElem?_eq_getElem (by omega)⟩
  refine ⟨d, kvs, hd, hh.mem ?_, q k h kvs e hkv⟩
  have : (List.zipWith (fun d k => (d, HO.dK k)) A.ds kv)[k]? = some (d, HO.dK kvs) := by rw [List.getElem?_zipWith, hd, hkv]
  have := List.mem_of_getElem? this
  simp [hObj, this]
theorem map_set_same {α β : Type} {f : α → β} {xs : List α} {k : Nat} {x y : α} (e : xs[k]? = some x) (h : f y = f x) : (xs.set k y).map f = xs.map f := by
  rw [List.map_set, h]
  apply List.ext_getElem?
  intro i
  by_cases hi : k = i
  · subst hi
    rw [List.getElem?_set_self (by rw [List.length_map]; exact (List.getElem?_eq_some_iff.mp e).1), List.getElem?_map, e]
    rfl
  · rw [List.getElem?_set_ne hi]
theorem hs_set {hs : List HK} {k : Nat} {h g : HK} (e : hs[k]? = some h) (ea : g.aside = h.aside) {kv : List (List (Key × V))} (q : ∀ (k : Nat) (h : HK) (kvs : List (Key × V)), hs[k]? = some h → kv[k]? = some kvs → AsOk K H k h.aside kvs) :
    ∀ (j : Nat) (h : HK) (kvs : List (Key × V)), (hs.set k g)[j]? = some h → kv[j]? = some kvs → AsOk K H j h.aside kvs := fun j h' kvs e1 e2 => by
  by_cases hj : k = j
  · subst hj
    rw [List.getElem?_set_self (List.getElem?_eq_some_iff.mp e).1] at e1
    cases e1
    rw [ea]
    exact q k h kvs e e2
  · rw [List.getElem?_set_ne hj] at e1
    exact q j h' kvs e1 e2
/-- the three lists, written at a key -/
theorem HR.set1 (r : HR K C A hs H c) (hh : Has H c) (e : hs[k]? = some h) (z : Int) :
    ∃ c', HR K C A (hs.set k { h with worth := z }) (upd H A.l1 (.lst ((hs.map fun h => V.int h.worth).set k (.int z)))) c' ∧ Tr H c (upd H A.l1 (.lst ((hs.map fun h => V.int h.worth).set k (.int z)))) c' := by
  obtain ⟨kv, rfl, l1, l2, q⟩ := r.ex
  have t := Tr.mid (pre := [(A.p, .ins C A.dx (hF A))]) (o' := .lst ((hs.map fun h => V.int h.worth).set k (.int z))) hh nl
  refine ⟨hObj C A (hs.set k { h with worth := z }) kv, ⟨kv, rfl, by rw [List.length_set]; exact l1, by rw [List.length_set]; exact l2, hs_set (g := { h with worth := z }) e rfl fun k h kvs e1 e2 => (q k h kvs e1 e2).mono t.mono⟩, ?_⟩
  unfold hObj
  rw [List.map_set, map_set_same (f := fun h : HK => V.int h.since) (y := { h with worth := z }) e rfl, map_set_same (f := fun h : HK => V.int h.upto) (y := { h with worth := z }) e rfl]
  exact t
theorem HR.set2 (r : HR K C A hs H c) (hh : Has H c) (e : hs[k]? = some h) (z : Nat) :
    ∃ c', HR K C A (hs.set k { h with since := z }) (upd H A.l2 (.lst ((hs.map fun h => V.int h.since).set k (.int z)))) c' ∧ Tr H c (upd H A.l2 (.lst ((hs.map fun h => V.int h.since).set k (.int z)))) c' := by
  obtain ⟨kv, rfl, l1, l2, q⟩ := r.ex
  have t := Tr.mid (pre := [(A.p, .ins C A.dx (hF A)), (A.l1, .lst (hs.map fun h => .int h.worth))]) (o' := .lst ((hs.map fun h => V.int h.since).set k (.int z))) hh nl
  refine ⟨hObj C A (hs.set k { h with since := z }) kv, ⟨kv, rfl, by rw [List.length_set]; exact l1, by rw [List.length_set]; exact l2, hs_set (g := { h with since := z }) e rfl fun k h kvs e1 e2 => (q k h kvs e1 e2).mono t.mono⟩, ?_⟩
  unfold hObj
  rw [List.map_set (f := fun h : HK => V.int h.since), map_set_same (f := fun h : HK => V.int h.worth) (y := { h with since := z }) e rfl, map_set_same (f := fun h : HK => V.int h.upto) (y := { h with since := z }) e rfl]
  exact t
theorem HR.set3 (r : HR K C A hs H c) (hh : Has H c) (e : hs[k]? = some h) (z : Int) :
    ∃ c', HR K C A (hs.set k { h with upto := z }) (upd H A.l3 (.lst ((hs.map fun h => V.int h.upto).set k (.int z)))) c' ∧ Tr H c (upd H A.l3 (.lst ((hs.map fun h => V.int h.upto).set k (.int z)))) c' := by
  obtain ⟨kv, rfl, l1, l2, q⟩ := r.ex
  have t := Tr.mid (pre := [(A.p, .ins C A.dx (hF A)), (A.l1, .lst (hs.map fun h => .int h.worth)), (A.l2, .lst (hs.map fun h => .int h.since))]) (o' := .lst ((hs.map fun h => V.int h.upto).set k (.int z))) hh nl
  refine ⟨hObj C A (hs.set k { h with upto := z }) kv, ⟨kv, rfl, by rw [List.length_set]; exact l1, by rw [List.length_set]; exact l2, hs_set (g := { h with upto := z }) e rfl fun k h kvs e1 e2 => (q k h kvs e1 e2).mono t.mono⟩, ?_⟩
  unfold hObj
  rw [List.map_set (f := fun h : HK => V.int h.upto), map_set_same (f := fun h : HK => V.int h.worth) (y := { h with upto := z }) e rfl, map_set_same (f := fun h : HK => V.int h.since) (y := { h with upto := z }) e rfl]
  exact t
theorem zip_split {ds : List Addr} {kv : List (List (Key × V))} {k : Nat} {d : Addr} {x : List (Key × V)} (h1 : ds[k]? = some d) (h2 : kv[k]? = some x) :
    ∃ pre post, List.zipWith (fun d k => (d, HO.dK k)) ds kv = pre ++ (d, HO.dK x) :: post ∧ ∀ y, List.zipWith (fun d k => (d, HO.dK k)) ds (kv.set k y) = pre ++ (d, HO.dK y) :: post := by
  induction k generalizing ds kv with
  | zero =>
    cases ds with
    | nil => simp at h1
    | cons d' ds =>
      cases kv with
      | nil => simp at h2
      | cons x' kv =>
        simp at h1 h2
        subst h1 h2
        exact ⟨[], _, rfl, fun y => rfl⟩
  | succ k ih =>
    cases ds with
    | nil => simp at h1
    | cons d' ds =>
      cases kv with
      | nil => simp at h2
      | cons x' kv =>
        obtain ⟨pre, post, e1, e2⟩ := ih (ds := ds) (kv := kv) (by simpa using h1) (by simpa using h2)
        refine ⟨(d', HO.dK x') :: pre, post, ?_, fun y => ?_⟩
        · rw [List.zipWith_cons_cons, e1]
          rfl
        · rw [List.set_cons_succ, List.zipWith_cons_cons, e2]
          rfl
/-- a key's dict, written -/
theorem HR.set4 (r : HR K C A hs H c) (hh : Has H c) (e : hs[k]? = some h) {d : Addr} (ed : A.ds[k]? = some d) {as : List As} {kvs : List (Key × V)} (ok : AsOk K H k as kvs) :
    ∃ c', HR K C A (hs.set k { h with aside := as }) (upd H d (.dK kvs)) c' ∧ Tr H c (upd H d (.dK kvs)) c' := by
  obtain ⟨kv, rfl, l1, l2, q⟩ := r.ex
  have hk := (List.getElem?_eq_some_iff.mp e).1
  obtain ⟨x, hx⟩ : ∃ x, kv[k]? = some x := ⟨kv[k], List.getElem?_eq_getElem (by omega)⟩
  obtain ⟨pre, post, e1, e2⟩ := zip_split ed hx
  have t : Tr H (hObj C A hs kv) (upd H d (.dK kvs)) (hObj C A (hs.set k { h with aside := as }) (kv.set k kvs)) := by
    unfold hObj at hh ⊢
    rw [map_set_same (f := fun h : HK => V.int h.worth) (y := { h with aside := as }) e rfl, map_set_same (f := fun h : HK => V.int h.since) (y := { h with aside := as }) e rfl, map_set_same (f := fun h : HK => V.int h.upto) (y := { h with aside := as }) e rfl, e1, e2]
    rw [e1] at hh
    have := Tr.mid (pre := (A.p, .ins C A.dx (hF A)) :: (A.l1, .lst (hs.map fun h => .int h.worth)) :: (A.l2, .lst (hs.map fun h => .int h.since)) :: (A.l3, .lst (hs.map fun h => .int h.upto)) :: (A.l4, .lst (A.ds.map V.ref)) :: pre) (o' := .dK kvs) hh ndk
    exact this
  refine ⟨_, ⟨kv.set k kvs, rfl, by rw [List.length_set]; exact l1, by rw [List.length_set, List.length_set]; exact l2, fun j h' kw e3 e4 => ?_⟩, t⟩
  by_cases hj : k = j
  · subst hj
    rw [List.getElem?_set_self hk] at e3
    rw [List.getElem?_set_self (by omega)] at e4
    cases e3
    cases e4
    exact ok.mono t.mono
  · rw [List.getElem?_set_ne hj] at e3 e4
    exact (q j h' kw e3 e4).mono t.mono
end
/-- what the walk asks of the class -/
structure CHr (K : PySem.W.Frag) (C : Addr) : Prop where
  cl : Cls K C
  n1 : NoAttr K C "worth"
  n2 : NoAttr K C "since"
  n3 : NoAttr K C "upto"
  n4 : NoAttr K C "aside"
theorem hF1 (A : HA) : (hF A).lookup ("worth" : Str) = some (.ref A.l1) := by rfl
theorem hF2 (A : HA) : (hF A).lookup ("since" : Str) = some (.ref A.l2) := by rfl
theorem hF3 (A : HA) : (hF A).lookup ("upto" : Str) = some (.ref A.l3) := by rfl
theorem hF4 (A : HA) : (hF A).lookup ("aside" : Str) = some (.ref A.l4) := by rfl
theorem ixN_nat {n k : Nat} (h : k < n) : ixN n (k : Int) = some k := by
  unfold ixN
  rw [if_pos (by omega), if_pos (by omega), Int.toNat_natCast]
end Cu

namespace Cu
open PySem PySem.Spec PyProof.Rows L2
abbrev s_Hearer_init : Stmt := (inClass (top 12) 0)
theorem sc_Hearer_init : FnScope ["self", "keys", "key"] ["self", "keys"] (defScope s_Hearer_init) := ⟨rfl, rfl, rfl, by decide +kernel, rfl, by decide +kernel, by decide +kernel⟩

abbrev s_Hearer_known : Stmt := (inClass (top 12) 1)
theorem sc_Hearer_known : FnScope ["self"] ["self"] (defScope s_Hearer_known) := ⟨rfl, rfl, rfl, by decide +kernel, rfl, by decide +kernel, by decide +kernel⟩

abbrev s_Hearer_held : Stmt := (inClass (top 12) 2)
theorem sc_Hearer_held : FnScope ["self", "found", "some"] ["self"] (defScope s_Hearer_held) := ⟨rfl, rfl, rfl, by decide +kernel, rfl, by decide +kernel, by decide +kernel⟩

abbrev s_Hearer_look : Stmt := (inClass (top 12) 3)
theorem sc_Hearer_look : FnScope ["self", "key"] ["self", "key"] (defScope s_Hearer_look) := ⟨rfl, rfl, rfl, by decide +kernel, rfl, by decide +kernel, by decide +kernel⟩

abbrev s_Hearer_whole : Stmt := (inClass (top 12) 4)
theorem sc_Hearer_whole : FnScope ["self", "number"] ["self"] (defScope s_Hearer_whole) := ⟨rfl, rfl, rfl, by decide +kernel, rfl, by decide +kernel, by decide +kernel⟩

theorem iteP {c A B : Prop} [Decidable c] (hc : c) (h : A) : if c then A else B := by
  rw [if_pos hc]
  exact h
theorem iteM {c A B : Prop} [Decidable c] (hc : ¬ c) (h : B) : if c then A else B := by
  rw [if_neg hc]
  exact h
theorem Has.one {H : Hp} {a : Addr} {o : HO} (h : H a = some o) (n : ¬ Imm o) : Has H [(a, o)] := ⟨by simp, fun p hp => by
  rw [List.mem_singleton] at hp
  subst hp
  exact ⟨h, n⟩⟩
theorem nins {C dx : Addr} {fs : List (Str × V)} : ¬ Imm (.ins C dx fs) := fun h => h
/-- a list of the same value, so many as a name says -/
theorem rd_const {σ : L2.St} {H : Hp} {Q : VK} {i j nk : Nat} {te : TE} {v : V} {vs : List Nat} (h1 : σ[i]? = some (some (.int nk))) (hk : nk ≤ 8) (hw : ∀ x, wipe ((wipe σ vs).set j (some x)) vs = wipe σ vs)
    (he : ∀ (σ1 : L2.St) (H1 : Hp) (Q1 : VK), Q1 v H1 → te σ1 H1 Q1) (q : ∀ p H', Tr H [] H' [(p, .lst (List.replicate nk v))] → Q (.ref p) H') :
    tI (tLc (iRng1 (tCons (tVar i) tNil)) (gName j) tYes te vs) σ H Q := by
  refine rd_I ⟨_, h1, _, rfl, by omega, by omega, fun D hD => ?_⟩
  refine lc_range (lo := 0) (n := (nk : Int).toNat) (fun m H2 => Tr H [] H2 [(D, .lst (List.replicate m v))]) ((Tr.refl H []).new hD nl) (fun m H2 hm t => ⟨hw _, he _ _ _ ⟨_, t.own.head, ?_, ?_⟩⟩) fun H2 t => q D H2 (by rw [Int.toNat_natCast] at t; exact t)
  · rw [List.length_replicate]
    exact small1000 (by omega)
  · rw [← List.replicate_succ']
    exact t.put .nil nl
def spHinit (K : PySem.W.Frag) (C : Addr) : Sp := fun vs H Q _ => vs.length = 2 ∧ ∃ (p dx : Addr) (nk : Nat), vs = [.ref p, .int nk] ∧ 0 < nk ∧ nk ≤ 8 ∧ H p = some (.ins C dx []) ∧
  ∀ (A : HA) (c : Lg) (H' : Hp), A.p = p → HR K C A (List.replicate nk HK.ini) H' c → Tr H [(p, .ins C dx [])] H' c → Q .non H'
def spKnown (K : PySem.W.Frag) (C : Addr) : Sp := fun vs H Q _ => vs.length = 1 ∧ ∃ (A : HA) (hs : List HK) (c : Lg), vs = [.ref A.p] ∧ HR K C A hs H c ∧ Has H c ∧ ∀ (r : Addr) (H' : Hp), Tr H [] H' [(r, .lst ((hs.map fun h => h.upto).map V.int))] → Q (.ref r) H'
def heldM (hs : List HK) : List Int := srt ((hs.map fun h => asN h.aside).flatten)
def spHeld (K : PySem.W.Frag) (C : Addr) : Sp := fun vs H Q _ => vs.length = 1 ∧ ∃ (A : HA) (hs : List HK) (c : Lg), vs = [.ref A.p] ∧ HR K C A hs H c ∧ Has H c ∧ (hs.map fun h => asN h.aside).flatten.length ≤ 1000 ∧
  ∀ (r : Addr) (H' : Hp), Tr H [] H' [(r, .lst ((heldM hs).map V.int))] → Q (.ref r) H'
def lookM (h : HK) : PyData := if h.upto < 0 then .none else .tuple [.int h.worth, .int h.since, .int h.upto]
def spLook (K : PySem.W.Frag) (C : Addr) : Sp := fun vs H Q _ => vs.length = 2 ∧ ∃ (A : HA) (hs : List HK) (c : Lg) (k : Nat) (h : HK), vs = [.ref A.p, .int k] ∧ HR K C A hs H c ∧ Has H c ∧ hs[k]? = some h ∧
  ∀ (v : V) (H' : Hp), Grow H H' → Rp K H' (lookM h) v → Q v H'
def minU (hs : List HK) : Int := ((hs.map fun h => h.upto).min?).getD 0
def maxS (hs : List HK) : Int := ((hs.map fun h => (h.since : Int)).max?).getD 0
def wholeM (hs : List HK) : Option (Int × List Int) := if minU hs < maxS hs then none else if 0 ≤ minU hs then some (minU hs, hs.map fun h => h.worth) else none
def spWhole (K : PySem.W.Frag) (C : Addr) : Sp := fun vs H Q _ => vs.length = 1 ∧ ∃ (A : HA) (hs : List HK) (c : Lg), vs = [.ref A.p] ∧ HR K C A hs H c ∧ Has H c ∧ 0 < hs.length ∧
  (wholeM hs = none → Q .non H) ∧
  (∀ n ws, wholeM hs = some (n, ws) → ∀ (r t : Addr) (H' : Hp), Tr H [] H' [(r, .lst (ws.map V.int))] → H' t = some (.tup [.int n, .ref r]) → Q (.ref t) H')
end Cu

namespace Cu
open PySem PySem.Spec PyProof.Rows L2
section
variable {P : Program} {w : World} {K : PySem.W.Frag} {mg : Str → Option Value} {base : Heap} {C : Addr}
theorem ok_Hinit {tk : Tok} (F : Kd K mg "Hearer" C "Hearer.__init__" s_Hearer_init) (Bm : Blt mg) (CHearer : CHr K C) (km_MOST_KEYS : mg "MOST_KEYS" = some (.int 8 tk)) : Kf P w K mg base 1 "Hearer" C ["self", "keys"] (spHinit K C) := by
  refine F.ok sc_Hearer_init (fun _ _ _ _ _ _ us hl => match us, hl with | [_, _], _ => rfl) len_of fun qual f cdv A0 outer s H vs Q E hr h => ?_
  obtain ⟨_, p, dx, nk, rfl, hk, hk8, hp, k⟩ := h
  refine ⟨_, (pss_cons (ps_if (pt_not (pt_chain op_le op_le pe_int (pv 1) (pe_glob (v := .int 8) rfl km_MOST_KEYS ⟨_, rfl⟩)))
        (pss_one ps_never)
        pss_nil)
      (pss_cons (ps_fld (pv 0) (pe_I (pe_lc (own := [("key", 2)]) (g := (gName 2)) (tt := tYes) rfl sc_Hearer_init.nd (pi_range1 rfl Bm.range (pa_cons (pv 1) pa_nil)) (blkOk_by (N := ["self", "keys", "key"]) (sc := defScope s_Hearer_init) (by decide +kernel)) (fun _ _ _ _ _ => (pg_name (i := 2) sc_Hearer_init.nd rfl (Or.inl rfl))) (fun _ _ _ _ _ => pts_nil) (fun _ _ _ _ _ => pe_int))) rfl)
      (pss_cons (ps_fld (pv 0) (pe_I (pe_lc (own := [("key", 2)]) (g := (gName 2)) (tt := tYes) rfl sc_Hearer_init.nd (pi_range1 rfl Bm.range (pa_cons (pv 1) pa_nil)) (blkOk_by (N := ["self", "keys", "key"]) (sc := defScope s_Hearer_init) (by decide +kernel)) (fun _ _ _ _ _ => (pg_name (i := 2) sc_Hearer_init.nd rfl (Or.inl rfl))) (fun _ _ _ _ _ => pts_nil) (fun _ _ _ _ _ => pe_int))) rfl)
      (pss_cons (ps_fld (pv 0) (pe_I (pe_lc (own := [("key", 2)]) (g := (gName 2)) (tt := tYes) rfl sc_Hearer_init.nd (pi_range1 rfl Bm.range (pa_cons (pv 1) pa_nil)) (blkOk_by (N := ["self", "keys", "key"]) (sc := defScope s_Hearer_init) (by decide +kernel)) (fun _ _ _ _ _ => (pg_name (i := 2) sc_Hearer_init.nd rfl (Or.inl rfl))) (fun _ _ _ _ _ => pts_nil) (fun _ _ _ _ _ => (pe_un un_neg pe_int)))) rfl)
      (pss_one (ps_fld (pv 0) (pe_lc (own := [("key", 2)]) (g := (gName 2)) (tt := tYes) rfl sc_Hearer_init.nd (pi_range1 rfl Bm.range (pa_cons (pv 1) pa_nil)) (blkOk_by (N := ["self", "keys", "key"]) (sc := defScope s_Hearer_init) (by decide +kernel)) (fun _ _ _ _ _ => (pg_name (i := 2) sc_Hearer_init.nd rfl (Or.inl rfl))) (fun _ _ _ _ _ => pts_nil) (fun _ _ _ _ _ => pe_dnewK)) rfl)))))), ?_⟩
  have h0 := Has.one hp nins
  refine ⟨_, rfl, _, _, rfl, rfl, _, rfl, iteP (decide_eq_true (by omega)) ⟨_, _, rfl, rfl, _, rfl, iteM (by simp; omega) ?_⟩⟩
  refine rd_const (v := .int 0) (by rfl) hk8 (fun _ => rfl) (fun _ _ _ q => q) fun p1 H1 t1 => ?_
  have s1 := (show Tr H [(p, .ins C dx [])] H1 [(p1, .lst (List.replicate nk (.int 0))), (p, .ins C dx [])] from t1.right (D := [(p, .ins C dx [])])).swap2
  have e1 : ((0 : Nat) : Int) = 0 := rfl
  refine ⟨_, rfl, p, C, dx, [], rfl, (s1.now h0).head, CHearer.cl, CHearer.n1, (by show 0 < 1000; decide), ?_⟩
  have s2 := s1.put (o' := .ins C dx [("worth", .ref p1)]) h0 nins
  refine rd_const (v := .int 0) (by rfl) hk8 (fun _ => rfl) (fun _ _ _ q => q) fun p2 H2 t2 => ?_
  have s3 := (s2.trans (t2.right (D := [(p, .ins C dx [("worth", .ref p1)]), (p1, .lst (List.replicate nk (.int 0)))]))).swap2
  refine ⟨_, rfl, p, C, dx, [("worth", .ref p1)], rfl, (s3.now h0).head, CHearer.cl, CHearer.n2, (by show 1 < 1000; decide), ?_⟩
  have s4 := s3.put (o' := .ins C dx [("worth", .ref p1), ("since", .ref p2)]) h0 nins
  refine rd_const (v := .int (-1)) (by rfl) hk8 (fun _ => rfl) (fun _ _ _ q => ⟨_, rfl, q⟩) fun p3 H3 t3 => ?_
  have s5 := (s4.trans (t3.right (D := [(p, .ins C dx [("worth", .ref p1), ("since", .ref p2)]), (p2, .lst (List.replicate nk (.int 0))), (p1, .lst (List.replicate nk (.int 0)))]))).swap2
  refine ⟨_, rfl, p, C, dx, [("worth", .ref p1), ("since", .ref p2)], rfl, (s5.now h0).head, CHearer.cl, CHearer.n3, (by show 2 < 1000; decide), ?_⟩
  have s6 := s5.put (o' := .ins C dx [("worth", .ref p1), ("since", .ref p2), ("upto", .ref p3)]) h0 nins
  refine ⟨_, rfl, _, rfl, by omega, by omega, fun D hD => ?_⟩
  refine lc_range (lo := 0) (n := (nk : Int).toNat) (fun m H4 => ∃ ds : List Addr, ds.length = m ∧ Tr H [(p, .ins C dx [])] H4 ((D, .lst (ds.map V.ref)) :: (p, HO.ins C dx [("worth", V.ref p1), ("since", V.ref p2), ("upto", V.ref p3)]) :: (ds.map (fun d => (d, HO.dK [])) ++ [(p3, HO.lst (List.replicate nk (V.int (-1)))), (p2, HO.lst (List.replicate nk (V.int 0))), (p1, HO.lst (List.replicate nk (V.int 0)))])))
    ⟨[], rfl, s6.new hD nl⟩ ?_ ?_
  · rintro m H4 hm ⟨ds, hl, t⟩
    refine ⟨rfl, fun d hd => ⟨_, by rw [upd_ne (ne_of_none (t.now h0).head hd)]; exact (t.now h0).head, by rw [List.length_map, hl]; exact small1000 (by omega), ds ++ [d], by rw [List.length_append, hl]; rfl, ?_⟩⟩
    have t2 := (t.new (o := .dK []) hd ndk).swap2.put (o' := .lst (ds.map V.ref ++ [.ref d])) h0 nl
    rw [List.map_append, List.map_append]
    refine t2.perm (List.Perm.cons _ ?_)
    have : ((d, HO.dK []) :: (p, HO.ins C dx [("worth", .ref p1), ("since", .ref p2), ("upto", .ref p3)]) :: (ds.map (fun d => (d, HO.dK [])) ++ [(p3, HO.lst (List.replicate nk (V.int (-1)))), (p2, HO.lst (List.replicate nk (V.int 0))), (p1, HO.lst (List.replicate nk (V.int 0)))])).Perm
        ((p, HO.ins C dx [("worth", .ref p1), ("since", .ref p2), ("upto", .ref p3)]) :: ((d, HO.dK []) :: (ds.map (fun d => (d, HO.dK [])) ++ [(p3, HO.lst (List.replicate nk (V.int (-1)))), (p2, HO.lst (List.replicate nk (V.int 0))), (p1, HO.lst (List.replicate nk (V.int 0)))]))) := List.Perm.swap _ _ _
    refine this.trans (List.Perm.cons _ ?_)
    rw [List.append_assoc]
    exact List.perm_middle.symm
  · rintro H4 ⟨ds, hl, t⟩
    rw [Int.toNat_natCast] at hl
    refine ⟨_, rfl, p, C, dx, [("worth", .ref p1), ("since", .ref p2), ("upto", .ref p3)], rfl, (t.now h0).tail.head, CHearer.cl, CHearer.n4, (by show 3 < 1000; decide), ?_⟩
    have t2 := t.swap2.put (o' := .ins C dx [("worth", .ref p1), ("since", .ref p2), ("upto", .ref p3), ("aside", .ref D)]) h0 nins
    refine k ⟨p, dx, p1, p2, p3, D, ds⟩ _ _ rfl ⟨List.replicate nk [], rfl, by rw [List.length_replicate]; exact hl, by rw [List.length_replicate, List.length_replicate], fun j h kvs e1 e2 => ?_⟩ (t2.perm (List.Perm.cons _ ?_))
    · rw [List.getElem?_replicate] at e1 e2
      by_cases hj : j < nk
      · rw [if_pos hj] at e1 e2
        cases e1
        cases e2
        rfl
      · rw [if_neg hj] at e1
        cases e1
    · have ez : List.zipWith (fun d k => (d, HO.dK k)) ds (List.replicate nk []) = ds.map fun d => (d, HO.dK []) := by
        apply List.ext_getElem?
        intro j
        rw [List.getElem?_zipWith, List.getElem?_map, List.getElem?_replicate]
        by_cases hj : j < nk
        · rw [if_pos hj]
          cases ds[j]? <;> rfl
        · rw [if_neg hj, List.getElem?_eq_none (by omega)]
          rfl
      simp only [List.map_replicate, HK.ini]
      rw [ez]
      show ((D, HO.lst (ds.map V.ref)) :: ds.map (fun d => (d, HO.dK [])) ++ [(p3, _), (p2, _), (p1, _)]).Perm ([(p1, _), (p2, _), (p3, _)] ++ ((D, HO.lst (ds.map V.ref)) :: ds.map (fun d => (d, HO.dK []))))
      refine List.perm_append_comm.trans (List.Perm.append_right _ ?_)
      exact (List.reverse_perm _).symm
end
end Cu

namespace Cu
open PySem PySem.Spec PyProof.Rows L2
section
variable {P : Program} {w : World} {K : PySem.W.Frag} {mg : Str → Option Value} {base : Heap} {C : Addr}
theorem ok_known (F : Md K C "known" "Hearer.known" s_Hearer_known) (Bm : Blt mg) (CHearer : CHr K C) : Mf P w K mg base 1 C "known" ["self"] (spKnown K C) := by
  refine F.ok sc_Hearer_known (fun _ _ _ _ _ _ us hl => match us, hl with | [_], _ => rfl) len_of fun qual f cdv A0 outer s H vs Q E hr h => ?_
  obtain ⟨_, A, hs, c, rfl, r, hc, k⟩ := h
  refine ⟨_, (pss_one (ps_ret (pe_callTy call_list_of rfl Bm.list (by decide +kernel) (pa_cons (pe_fld (pv 0) rfl) pa_nil)))), ?_⟩
  refine ⟨_, rfl, _, C, _, _, _, rfl, r.at_p hc, CHearer.cl, CHearer.n3, hF3 A, _, _, rfl, .inl (SqL.of (r.at3 hc)), fun l hl => k l _ ?_⟩
  rw [List.map_map]
  exact (Tr.refl H []).new hl nl
end
end Cu

namespace Cu
open PySem PySem.Spec PyProof.Rows L2
section
variable {P : Program} {w : World} {K : PySem.W.Frag} {mg : Str → Option Value} {base : Heap} {C : Addr}
theorem ok_look (F : Md K C "look" "Hearer.look" s_Hearer_look) (Bm : Blt mg) (CHearer : CHr K C) : Mf P w K mg base 1 C "look" ["self", "key"] (spLook K C) := by
  refine F.ok sc_Hearer_look (fun _ _ _ _ _ _ us hl => match us, hl with | [_, _], _ => rfl) len_of fun qual f cdv A0 outer s H vs Q E hr h => ?_
  obtain ⟨_, A, hs, c, k, h, rfl, r, hc, eh, go⟩ := h
  have hp := r.at_p hc
  have hk : k < hs.length := (List.getElem?_eq_some_iff.mp eh).1
  refine ⟨_, (pss_cons (ps_if (pt_not (pt_chain op_le op_lt pe_int (pv 1) (pe_callB call_len_seq rfl Bm.len (by decide +kernel) (pa_cons (pe_fld (pv 0) rfl) pa_nil))))
        (pss_one ps_never)
        pss_nil)
      (pss_cons (ps_if (pt_cmpR op_lt (pe_ix ix_list (pe_fld (pv 0) rfl) (pv 1) (fun _ _ => rfl)) pe_int (nomark _))
        (pss_one (ps_ret pe_non))
        pss_nil)
      (pss_one (ps_ret (pe_tup (pa_cons (pe_ix ix_list (pe_fld (pv 0) rfl) (pv 1) (fun _ _ => rfl)) (pa_cons (pe_ix ix_list (pe_fld (pv 0) rfl) (pv 1) (fun _ _ => rfl)) (pa_cons (pe_ix ix_list (pe_fld (pv 0) rfl) (pv 1) (fun _ _ => rfl)) pa_nil)))))))), ?_⟩
  refine ⟨_, rfl, _, _, rfl, rfl, _, rfl, iteP (decide_eq_true (by omega)) ⟨_, rfl, _, C, _, _, _, rfl, hp, CHearer.cl, CHearer.n1, hF1 A, _, _, rfl, .inl (SqL.of (r.at1 hc)), _, _, rfl, rfl, _, rfl, iteM (by simp; omega) ?_⟩⟩
  have a1 : atI (hs.map fun h => V.int h.worth) (k : Int) = some (V.int h.worth) := at_of (j := k) rfl (by rw [List.getElem?_map, eh]; rfl)
  have a2 : atI (hs.map fun h => V.int h.since) (k : Int) = some (V.int h.since) := at_of (j := k) rfl (by rw [List.getElem?_map, eh]; rfl)
  have a3 : atI (hs.map fun h => V.int h.upto) (k : Int) = some (V.int h.upto) := at_of (j := k) rfl (by rw [List.getElem?_map, eh]; rfl)
  refine ⟨_, rfl, _, C, _, _, _, rfl, hp, CHearer.cl, CHearer.n3, hF3 A, _, rfl, _, _, _, _, rfl, rfl, SqL.of (r.at3 hc), a3, _, _, rfl, rfl, _, rfl, ite2 (fun h0 => ?_) fun h0 => ?_⟩
  · refine go _ H (Grow.refl H) ?_
    rw [lookM, if_pos (of_decide_eq_true h0)]
    exact .non
  · refine ⟨_, rfl, _, C, _, _, _, rfl, hp, CHearer.cl, CHearer.n1, hF1 A, _, rfl, _, _, _, _, rfl, rfl, SqL.of (r.at1 hc), a1, _, rfl, _, C, _, _, _, rfl, hp, CHearer.cl, CHearer.n2, hF2 A, _, rfl, _, _, _, _, rfl, rfl, SqL.of (r.at2 hc), a2,
      _, rfl, _, C, _, _, _, rfl, hp, CHearer.cl, CHearer.n3, hF3 A, _, rfl, _, _, _, _, rfl, rfl, SqL.of (r.at3 hc), a3, ⟨(by show 3 ≤ sizeLine; decide), fun t ht => go _ _ (Grow.new ht) ?_⟩⟩
    rw [lookM, if_neg (of_decide_eq_false (by simpa using h0))]
    exact .tup upd_same (.cons .int (.cons .int (.cons .int .nil)))
end
end Cu

namespace Cu
open PySem PySem.Spec PyProof.Rows L2
section
variable {P : Program} {w : World} {K : PySem.W.Frag} {mg : Str → Option Value} {base : Heap} {C : Addr}
theorem ok_whole (F : Md K C "whole" "Hearer.whole" s_Hearer_whole) (Bm : Blt mg) (CHearer : CHr K C) : Mf P w K mg base 1 C "whole" ["self"] (spWhole K C) := by
  refine F.ok sc_Hearer_whole (fun _ _ _ _ _ _ us hl => match us, hl with | [_], _ => rfl) len_of fun qual f cdv A0 outer s H vs Q E hr h => ?_
  obtain ⟨_, A, hs, c, rfl, r, hc, hne, kn, ks⟩ := h
  have hp := r.at_p hc
  have h3 := r.at3 hc
  have h2 := r.at2 hc
  rw [show (hs.map fun h => V.int h.upto) = (hs.map fun h => h.upto).map V.int by rw [List.map_map]; rfl] at h3
  rw [show (hs.map fun h => V.int h.since) = (hs.map fun h => (h.since : Int)).map V.int by rw [List.map_map]; rfl] at h2
  refine ⟨_, (pss_cons (ps_set (i := 1) sc_Hearer_whole.nd rfl (Or.inl rfl) (pe_callB (cr_min rfl) rfl Bm.min (by decide +kernel) (pa_cons (pe_fld (pv 0) rfl) pa_nil)))
      (pss_cons (ps_if (pt_cmpR op_lt (pv 1) (pe_callB (cr_max rfl) rfl Bm.max (by decide +kernel) (pa_cons (pe_fld (pv 0) rfl) pa_nil)) (nomark _))
        (pss_one (ps_ret pe_non))
        pss_nil)
      (pss_one (ps_ret (pe_ifExp (pt_cmpR op_ge (pv 1) pe_int (nomark _)) (pe_tup (pa_cons (pv 1) (pa_cons (pe_callTy call_list_of rfl Bm.list (by decide +kernel) (pa_cons (pe_fld (pv 0) rfl) pa_nil)) pa_nil))) pe_non))))), ?_⟩
  refine ⟨_, rfl, _, C, _, _, _, rfl, hp, CHearer.cl, CHearer.n3, hF3 A, A.l3, hs.map fun h => h.upto, rfl, SqL.of h3, by rw [List.length_map]; exact hne, fun m m1 m2 => ?_⟩
  have em : minU hs = m := by
    rw [minU, List.min?_eq_some_iff.mpr ⟨m1, m2⟩]
    rfl
  refine ⟨_, rfl, _, rfl, _, C, _, _, _, rfl, hp, CHearer.cl, CHearer.n2, hF2 A, A.l2, hs.map fun h => (h.since : Int), rfl, SqL.of h2, by rw [List.length_map]; exact hne, fun g g1 g2 => ?_⟩
  have eg : maxS hs = g := by
    rw [maxS, List.max?_eq_some_iff.mpr ⟨g1, g2⟩]
    rfl
  refine ⟨_, _, rfl, rfl, _, rfl, ite2 (fun h0 => ?_) fun h0 => ?_⟩
  · refine kn ?_
    rw [wholeM, if_pos (by rw [em, eg]; exact of_decide_eq_true h0)]
  · have h0' : ¬ minU hs < maxS hs := by
      rw [em, eg]
      exact of_decide_eq_false (by simpa using h0)
    refine ⟨_, rfl, _, _, rfl, rfl, _, rfl, ite2 (fun h1 => ?_) fun h1 => ?_⟩
    · refine ⟨_, rfl, _, rfl, _, C, _, _, _, rfl, hp, CHearer.cl, CHearer.n1, hF1 A, _, _, rfl, .inl (SqL.of (r.at1 hc)), fun l hl => ⟨(by show 2 ≤ sizeLine; decide), fun t ht => ?_⟩⟩
      refine ks m (hs.map fun h => h.worth) ?_ l t _ ?_ upd_same
      · rw [wholeM, if_neg h0', if_pos (by rw [em]; exact of_decide_eq_true h1), em]
      · rw [List.map_map]
        exact ((Tr.refl H []).new hl nl).old ht
    · refine kn ?_
      rw [wholeM, if_neg h0', if_neg (by rw [em]; exact of_decide_eq_false (by simpa using h1))]
end
end Cu

namespace Cu
open PySem PySem.Spec PyProof.Rows L2
/-! the mirror's steps -/
theorem findA_drop {as : List As} {n m : Int} (h : n ≠ m) : findA (dropA as m) n = findA as n := by
  induction as with
  | nil => rfl
  | cons a as ih =>
    by_cases hm : (a.n : Int) = m
    · have e1 : dropA (a :: as) m = dropA as m := by simp [dropA, hm]
      have e2 : findA (a :: as) n = findA as n := by simp [findA, show ¬ (a.n : Int) = n by omega]
      rw [e1, e2, ih]
    · have e1 : dropA (a :: as) m = a :: dropA as m := by simp [dropA, hm]
      rw [e1]
      by_cases hn : (a.n : Int) = n
      · simp [findA, hn]
      · have e2 : ∀ bs, findA (a :: bs) n = findA bs n := fun bs => by simp [findA, hn]
        rw [e2, e2, ih]
theorem findA_some {as : List As} {n : Int} (h : n ∈ asN as) : ∃ a, findA as n = some a ∧ (a.n : Int) = n := by
  induction as with
  | nil => cases h
  | cons b as ih =>
    by_cases hb : (b.n : Int) = n
    · exact ⟨b, by simp [findA, hb], hb⟩
    · have h' : n ∈ asN as := by
        rcases List.mem_cons.mp (show n ∈ (b.n : Int) :: asN as from h) with e | e
        · exact absurd e.symm hb
        · exact e
      obtain ⟨a, ha, e⟩ := ih h'
      exact ⟨a, by simpa [findA, hb] using ha, e⟩
theorem findA_n {as : List As} {n : Int} {a : As} (h : findA as n = some a) : (a.n : Int) = n := by
  have := List.find?_some h
  simpa using this
theorem fstep_find {st : HK × List Int} {n m : Int} (h : n ≠ m) : findA (HK.fstep st m).1.aside n = findA st.1.aside n := by
  unfold HK.fstep
  cases hf : findA st.1.aside m with
  | none => rfl
  | some a =>
    dsimp only
    split
    · exact findA_drop h
    · split
      · exact findA_drop h
      · rfl
theorem fold_find {n : Int} : ∀ {l : List Int} {st : HK × List Int}, n ∉ l → findA (l.foldl HK.fstep st).1.aside n = findA st.1.aside n
  | [], _, _ => rfl
  | m :: l, st, h => by
    rw [List.foldl_cons, fold_find fun q => h (List.mem_cons_of_mem _ q), fstep_find fun q => h (by rw [q]; exact List.mem_cons_self)]
theorem fold_len {l : List Int} {st : HK × List Int} : (l.foldl HK.fstep st).2.length ≤ st.2.length + l.length := by
  induction l generalizing st with
  | nil => exact Nat.le_refl _
  | cons n l ih =>
    rw [List.foldl_cons]
    refine Nat.le_trans ih ?_
    have : (HK.fstep st n).2.length ≤ st.2.length + 1 := by
      unfold HK.fstep
      cases findA st.1.aside n with
      | none => exact Nat.le_succ _
      | some a =>
        dsimp only
        split
        · exact Nat.le_succ _
        · split
          · simp
          · exact Nat.le_succ _
    rw [List.length_cons]
    omega
theorem srt_perm (ns : List Int) : (srt ns).Perm ns := List.mergeSort_perm ns _
theorem wd_set (b : Bool) : decide (V.str (wd b) = V.str "set") = b := by cases b <;> decide +kernel
theorem wd_add (b : Bool) : decide (V.str (wd b) = V.str "add") = !b := by cases b <;> decide +kernel
/-- what a key's changes put aside must be, to be sorted -/
structure Wf (h : HK) : Prop where
  nd : (asN h.aside).Nodup
  few : h.aside.length < 122
def prt (hs : List HK) (l : Letter) (m : Nat) : List HK := hs.mapIdx fun k h => if k < m then (hearK k h l).1 else h
def fnd (hs : List HK) (l : Letter) (m : Nat) : List Int := ((hs.mapIdx fun k h => (hearK k h l).2).take m).flatten
theorem prt_get {hs : List HK} {l : Letter} {m k : Nat} {h : HK} (e : hs[k]? = some h) : (prt hs l m)[k]? = some (if k < m then (hearK k h l).1 else h) := by
  rw [prt, List.getElem?_mapIdx, e]
  rfl
theorem prt_len (hs : List HK) (l : Letter) (m : Nat) : (prt hs l m).length = hs.length := by simp [prt]
theorem prt_succ {hs : List HK} {l : Letter} {m : Nat} {h : HK} (e : hs[m]? = some h) : prt hs l (m + 1) = (prt hs l m).set m (hearK m h l).1 := by
  apply List.ext_getElem?
  intro k
  cases ek : hs[k]? with
  | none =>
    have hk := List.getElem?_eq_none_iff.mp ek
    rw [List.getElem?_eq_none (by rw [prt_len]; exact hk), List.getElem?_eq_none (by rw [List.length_set, prt_len]; exact hk)]
  | some g =>
    rw [prt_get ek]
    by_cases hk : m = k
    · subst hk
      rw [e] at ek
      cases ek
      rw [List.getElem?_set_self (by rw [prt_len]; exact (List.getElem?_eq_some_iff.mp e).1), if_pos (Nat.lt_succ_self _)]
    · rw [List.getElem?_set_ne hk, prt_get ek]
      congr 1
      by_cases h1 : k < m
      · rw [if_pos h1, if_pos (by omega)]
      · rw [if_neg h1, if_neg (by omega)]
theorem fnd_succ {hs : List HK} {l : Letter} {m : Nat} {h : HK} (e : hs[m]? = some h) : fnd hs l (m + 1) = fnd hs l m ++ (hearK m h l).2 := by
  unfold fnd
  rw [take_snoc (x := (hearK m h l).2) (by rw [List.getElem?_mapIdx, e]; rfl), List.flatten_append]
  simp
theorem prt_all {hs : List HK} {l : Letter} {m : Nat} (h : hs.length ≤ m) : prt hs l m = hear hs l := by
  apply List.ext_getElem?
  intro k
  cases ek : hs[k]? with
  | none =>
    have hk := List.getElem?_eq_none_iff.mp ek
    rw [List.getElem?_eq_none (by rw [prt_len]; exact hk), List.getElem?_eq_none (by rw [hear_len]; exact hk)]
  | some g =>
    have hk := (List.getElem?_eq_some_iff.mp ek).1
    rw [prt_get ek, if_pos (by omega), hear, List.getElem?_mapIdx, ek]
    rfl
theorem fnd_all {hs : List HK} {l : Letter} {m : Nat} (h : hs.length ≤ m) : fnd hs l m = heard hs l := by
  unfold fnd heard
  rw [List.take_of_length_le (by simpa using h)]
theorem flat_nil {xs : List (List Int)} (h : ∀ x ∈ xs, x = []) : xs.flatten = [] := by
  induction xs with
  | nil => rfl
  | cons x xs ih =>
    rw [List.flatten_cons, h x List.mem_cons_self, ih fun y hy => h y (List.mem_cons_of_mem _ hy)]
    rfl
/-- a letter that does nothing with the keys ahead of b, nothing with those from e on -/
theorem prt_low {hs : List HK} {l : Letter} {b : Nat} (h : ∀ k g, k < b → hearK k g l = (g, [])) : prt hs l b = hs ∧ fnd hs l b = [] := by
  constructor
  · apply List.ext_getElem?
    intro k
    cases ek : hs[k]? with
    | none => rw [List.getElem?_eq_none (by rw [prt_len]; exact List.getElem?_eq_none_iff.mp ek)]
    | some g =>
      rw [prt_get ek]
      split
      · rename_i hk
        rw [h k g hk]
      · rfl
  · unfold fnd
    have : ∀ x ∈ (hs.mapIdx fun k h => (hearK k h l).2).take b, x = [] := fun x hx => by
      obtain ⟨k, hk⟩ := List.getElem?_of_mem hx
      have hkb : k < b := by
        have := (List.getElem?_eq_some_iff.mp hk).1
        rw [List.length_take] at this
        omega
      rw [List.getElem?_take_of_lt hkb, List.getElem?_mapIdx] at hk
      cases ek : hs[k]? with
      | none =>
        rw [ek] at hk
        cases hk
      | some g =>
        rw [ek] at hk
        have e1 : (hearK k g l).2 = x := Option.some.inj hk
        rw [← e1, h k g hkb]
    exact flat_nil this
theorem prt_high {hs : List HK} {l : Letter} {e : Nat} (h : ∀ k g, e ≤ k → hearK k g l = (g, [])) : prt hs l e = hear hs l ∧ fnd hs l e = heard hs l := by
  constructor
  · apply List.ext_getElem?
    intro k
    cases ek : hs[k]? with
    | none => rw [List.getElem?_eq_none (by rw [prt_len]; exact List.getElem?_eq_none_iff.mp ek), List.getElem?_eq_none (by rw [hear_len]; exact List.getElem?_eq_none_iff.mp ek)]
    | some g =>
      rw [prt_get ek, hear, List.getElem?_mapIdx, ek]
      split
      · rfl
      · rename_i hk
        show some g = some (hearK k g l).1
        rw [h k g (by omega)]
  · unfold heard fnd
    have : ∀ x ∈ (hs.mapIdx fun k h => (hearK k h l).2).drop e, x = [] := fun x hx => by
      obtain ⟨k, hk⟩ := List.getElem?_of_mem hx
      rw [List.getElem?_drop, List.getElem?_mapIdx] at hk
      cases ek : hs[e + k]? with
      | none =>
        rw [ek] at hk
        cases hk
      | some g =>
        rw [ek] at hk
        have e1 : (hearK (e + k) g l).2 = x := Option.some.inj hk
        rw [← e1, h (e + k) g (by omega)]
    have h0 : ((hs.mapIdx fun k h => (hearK k h l).2).drop e).flatten = [] := flat_nil this
    conv => rhs; rw [← List.take_append_drop e (hs.mapIdx fun k h => (hearK k h l).2), List.flatten_append, h0, List.append_nil]
section
variable {K : PySem.W.Frag} {H : Hp}
theorem Rp.chg_inv {n ahead : Nat} {c : Ch} {v : V} (h : Rp K H (Letter.enc (.change n c ahead)) v) : ∃ a, v = .ref a ∧ H a = some (.tup [.str "change", .int n, .int c.key, .str (wd c.set), .int c.worth, .int ahead]) := by
  obtain ⟨a, xs, e, f, r⟩ := Rp.tup_inv h
  obtain ⟨v1, r1, e1, h1, r⟩ := r.cons_inv
  obtain ⟨v2, r2, e2, h2, r⟩ := r.cons_inv
  obtain ⟨v3, r3, e3, h3, r⟩ := r.cons_inv
  obtain ⟨v4, r4, e4, h4, r⟩ := r.cons_inv
  obtain ⟨v5, r5, e5, h5, r⟩ := r.cons_inv
  obtain ⟨v6, r6, e6, h6, r⟩ := r.cons_inv
  have := r.nil_inv
  subst this e6 e5 e4 e3 e2 e1
  have h1 := Rp.str_iff.mp h1
  have h2 := Rp.int_iff.mp h2
  have h3 := Rp.int_iff.mp h3
  have h4 := Rp.str_iff.mp h4
  have h5 := Rp.int_iff.mp h5
  have h6 := Rp.int_iff.mp h6
  subst h1 h2 h3 h4 h5 h6
  exact ⟨a, e, f⟩
theorem Rp.part_inv {n b : Nat} {rows : List (Int × Nat)} {v : V} (h : Rp K H (Letter.enc (.part n b rows)) v) :
    ∃ a t xs, v = .ref a ∧ H a = some (.tup [.str "part", .int n, .int b, .ref t]) ∧ H t = some (.tup xs) ∧ xs.length = rows.length ∧ ∀ (i : Nat) r, rows[i]? = some r → ∃ q, xs[i]? = some (.ref q) ∧ H q = some (.tup [.int r.1, .int r.2]) := by
  obtain ⟨a, xs, e, f, r⟩ := Rp.tup_inv h
  obtain ⟨v1, r1, e1, h1, r⟩ := r.cons_inv
  obtain ⟨v2, r2, e2, h2, r⟩ := r.cons_inv
  obtain ⟨v3, r3, e3, h3, r⟩ := r.cons_inv
  obtain ⟨v4, r4, e4, h4, r⟩ := r.cons_inv
  have := r.nil_inv
  subst this e4 e3 e2 e1
  have h1 := Rp.str_iff.mp h1
  have h2 := Rp.int_iff.mp h2
  have h3 := Rp.int_iff.mp h3
  obtain ⟨t, ys, e4, f4, r4⟩ := h4.tup_inv
  subst h1 h2 h3 e4
  refine ⟨a, t, ys, e, f, f4, by rw [r4.length, List.length_map], fun i r hr => ?_⟩
  obtain ⟨u, hu, ru⟩ := r4.get (i := i) (d := .tuple [.int r.1, .int r.2]) (by rw [List.getElem?_map, hr]; rfl)
  obtain ⟨q, zs, e5, f5, r5⟩ := ru.tup_inv
  obtain ⟨w1, z1, e6, g1, r5⟩ := r5.cons_inv
  obtain ⟨w2, z2, e7, g2, r5⟩ := r5.cons_inv
  have := r5.nil_inv
  subst this e7 e6 e5
  have g1 := Rp.int_iff.mp g1
  have g2 := Rp.int_iff.mp g2
  subst g1 g2
  exact ⟨q, hu, f5⟩
theorem Rp.beat_inv {n : Nat} {lasts : List Nat} {v : V} (h : Rp K H (Letter.enc (.beat n lasts)) v) :
    ∃ a t, v = .ref a ∧ H a = some (.tup [.str "beat", .int n, .ref t]) ∧ H t = some (.tup (lasts.map fun k : Nat => V.int k)) := by
  obtain ⟨a, xs, e, f, r⟩ := Rp.tup_inv h
  obtain ⟨v1, r1, e1, h1, r⟩ := r.cons_inv
  obtain ⟨v2, r2, e2, h2, r⟩ := r.cons_inv
  obtain ⟨v3, r3, e3, h3, r⟩ := r.cons_inv
  have := r.nil_inv
  subst this e3 e2 e1
  have h1 := Rp.str_iff.mp h1
  have h2 := Rp.int_iff.mp h2
  obtain ⟨t, ys, e4, f4, r4⟩ := h3.tup_inv
  subst h1 h2 e4
  have ey : ys = lasts.map fun k : Nat => V.int k := by
    have : (lasts.map fun k : Nat => PyData.int k) = (lasts.map fun k : Nat => (k : Int)).map PyData.int := by
      rw [List.map_map]
      rfl
    rw [this] at r4
    have := r4.ints
    rw [this, List.map_map]
    rfl
  subst ey
  exact ⟨a, t, e, f, f4⟩
end
def spDo (K : PySem.W.Frag) (C : Addr) : Sp := fun vs H Q _ => vs.length = 2 ∧ ∃ (A : HA) (hs : List HK) (c : Lg) (v : V) (n ahead : Nat) (ch : Ch) (h : HK), vs = [.ref A.p, v] ∧ HR K C A hs H c ∧ Has H c ∧ Rp K H (Letter.enc (.change n ch ahead)) v ∧ hs[ch.key]? = some h ∧
  ∀ (c' : Lg) (H' : Hp), HR K C A (hs.set ch.key (h.done n ch.set ch.worth)) H' c' → Tr H c H' c' → Q .non H'
def spFreed (K : PySem.W.Frag) (C : Addr) : Sp := fun vs H Q _ => vs.length = 2 ∧ ∃ (A : HA) (hs : List HK) (c : Lg) (k : Nat) (h : HK), vs = [.ref A.p, .int k] ∧ HR K C A hs H c ∧ Has H c ∧ hs[k]? = some h ∧ Wf h ∧
  ∀ (r : Addr) (c' : Lg) (H' : Hp), HR K C A (hs.set k h.free.1) H' c' → Tr H c H' ((r, .lst (h.free.2.map V.int)) :: c') → Q (.ref r) H'
def spChanged (K : PySem.W.Frag) (C : Addr) : Sp := fun vs H Q _ => vs.length = 2 ∧ ∃ (A : HA) (hs : List HK) (c : Lg) (v : V) (n ahead : Nat) (ch : Ch) (h : HK), vs = [.ref A.p, v] ∧ HR K C A hs H c ∧ Has H c ∧ Rp K H (Letter.enc (.change n ch ahead)) v ∧ hs[ch.key]? = some h ∧ Wf h ∧
  ∀ (r : Addr) (c' : Lg) (H' : Hp), HR K C A (hs.set ch.key (h.chg n ch ahead).1) H' c' → Tr H c H' ((r, .lst ((h.chg n ch ahead).2.map V.int)) :: c') → Q (.ref r) H'
def spHear (K : PySem.W.Frag) (C : Addr) : Sp := fun vs H Q _ => vs.length = 2 ∧ ∃ (A : HA) (hs : List HK) (c : Lg) (v : V) (l : Letter), vs = [.ref A.p, v] ∧ HR K C A hs H c ∧ Has H c ∧ Rp K H l.enc v ∧ hs.length ≤ 8 ∧ (∀ h ∈ hs, Wf h) ∧
  (match l with | .change _ ch _ => ch.key < hs.length | .part _ b rows => b + rows.length ≤ hs.length | .beat _ lasts => lasts.length = hs.length) ∧
  ∀ (r : Addr) (c' : Lg) (H' : Hp), HR K C A (hear hs l) H' c' → Tr H c H' ((r, .lst ((heard hs l).map V.int)) :: c') → Q (.ref r) H'
def spCopied (K : PySem.W.Frag) (C : Addr) : Sp := fun vs H Q _ => vs.length = 2 ∧ ∃ (A : HA) (hs : List HK) (c : Lg) (v : V) (n b : Nat) (rows : List (Int × Nat)), vs = [.ref A.p, v] ∧ HR K C A hs H c ∧ Has H c ∧ Rp K H (Letter.enc (.part n b rows)) v ∧ hs.length ≤ 8 ∧ (∀ h ∈ hs, Wf h) ∧ b + rows.length ≤ hs.length ∧
  ∀ (r : Addr) (c' : Lg) (H' : Hp), HR K C A (hear hs (.part n b rows)) H' c' → Tr H c H' ((r, .lst ((heard hs (.part n b rows)).map V.int)) :: c') → Q (.ref r) H'
theorem HR.len {K : PySem.W.Frag} {C : Addr} {A : HA} {hs : List HK} {H : Hp} {c : Lg} (r : HR K C A hs H c) : A.ds.length = hs.length := let ⟨_, _, h, _⟩ := r.ex; h
theorem set_back {hs : List HK} {k : Nat} {h : HK} (e : hs[k]? = some h) : hs.set k h = hs := by
  apply List.ext_getElem?
  intro i
  by_cases hi : k = i
  · subst hi
    rw [List.getElem?_set_self (List.getElem?_eq_some_iff.mp e).1, e]
  · rw [List.getElem?_set_ne hi]
theorem ndec {c : Prop} [Decidable c] (h : ¬ decide c = true) : ¬ c := fun q => h (decide_eq_true q)
theorem hFno {A : HA} {m : Str} (h : (hF A).lookup m = none := by rfl) : (hF A).lookup m = none := h
theorem ixN_of {n j : Nat} {z : Int} (e : z = (j : Int)) (h : j < n) : ixN n z = some j := by
  rw [e]
  exact ixN_nat h
theorem free_len {h : HK} (w : Wf h) : h.free.2.length ≤ 121 := by
  refine Nat.le_trans fold_len ?_
  rw [(srt_perm _).length_eq, asN, List.length_map]
  have := w.few
  show 0 + _ ≤ _
  omega
theorem hearK_len {k : Nat} {h : HK} {l : Letter} (w : Wf h) : (hearK k h l).2.length ≤ 122 := by
  cases l with
  | change n c ahead =>
    simp only [hearK]
    split
    · unfold HK.chg
      split
      · exact Nat.zero_le _
      · split
        · exact Nat.zero_le _
        · have := free_len (h := h.done n c.set c.worth) ⟨w.nd, w.few⟩
          show _ + 1 ≤ 122
          omega
    · exact Nat.zero_le _
  | part n b rows =>
    simp only [hearK]
    split
    · split
      · unfold HK.row
        split
        · rename_i r _ _
          have := free_len (h := { h with worth := r.1, since := r.2, upto := n }) ⟨w.nd, w.few⟩
          omega
        · exact Nat.zero_le _
      · exact Nat.zero_le _
    · exact Nat.zero_le _
  | beat n lasts =>
    simp only [hearK]
    split <;> exact Nat.zero_le _
theorem flat_len {b : Nat} : ∀ {xs : List (List Int)}, (∀ x ∈ xs, x.length ≤ b) → xs.flatten.length ≤ b * xs.length
  | [], _ => Nat.zero_le _
  | x :: xs, h => by
    have ih := flat_len (xs := xs) fun y hy => h y (List.mem_cons_of_mem _ hy)
    have h1 := h x List.mem_cons_self
    rw [List.flatten_cons, List.length_append, List.length_cons, Nat.mul_add]
    omega
theorem fnd_len {hs : List HK} {l : Letter} {m : Nat} (w : ∀ h ∈ hs, Wf h) (h8 : hs.length ≤ 8) : (fnd hs l m).length ≤ 976 := by
  unfold fnd
  refine Nat.le_trans (flat_len (b := 122) fun x hx => ?_) ?_
  · have hx := List.mem_of_mem_take hx
    obtain ⟨k, hk⟩ := List.getElem?_of_mem hx
    rw [List.getElem?_mapIdx] at hk
    cases ek : hs[k]? with
    | none =>
      rw [ek] at hk
      cases hk
    | some g =>
      rw [ek] at hk
      have e1 : (hearK k g l).2 = x := Option.some.inj hk
      rw [← e1]
      exact hearK_len (w g (List.mem_of_getElem? ek))
  · rw [List.length_take, List.length_mapIdx]
    have : min m hs.length ≤ 8 := Nat.le_trans (Nat.min_le_right _ _) h8
    omega
theorem hear_change {hs : List HK} {n ahead : Nat} {ch : Ch} {h : HK} (e : hs[ch.key]? = some h) : hear hs (.change n ch ahead) = hs.set ch.key (h.chg n ch ahead).1 ∧ heard hs (.change n ch ahead) = (h.chg n ch ahead).2 := by
  have ek : hearK ch.key h (.change n ch ahead) = h.chg n ch ahead := by simp only [hearK, if_pos]
  obtain ⟨a1, a2⟩ := prt_low (hs := hs) (l := .change n ch ahead) (b := ch.key) fun k g hk => by
    simp only [hearK]
    rw [if_neg (by omega)]
  obtain ⟨b1, b2⟩ := prt_high (hs := hs) (l := .change n ch ahead) (e := ch.key + 1) fun k g hk => by
    simp only [hearK]
    rw [if_neg (by omega)]
  rw [prt_succ e, a1, ek] at b1
  rw [fnd_succ e, a2, ek] at b2
  exact ⟨b1.symm, b2.symm⟩
end Cu

namespace Cu
open PySem PySem.Spec PyProof.Rows L2
/-! enumerate over a tuple -/
theorem newE (t : Addr) (ys : Array Value) :
    Meets (Builtin.«enumerate.__new__» ⟨[.type "enumerate", .ref t], []⟩) (fun _ R z => z.heap.IsTuple t ys ∧
      R (.ok (.ret (.ref (z.heap.push { cls := .type "tuple_iterator", data := .fields #[.ref t, .int 0 0] }).objs.size)))
        { z with heap := (z.heap.push { cls := .type "tuple_iterator", data := .fields #[.ref t, .int 0 0] }).push { cls := .type "enumerate", data := .fields #[.none, .bool false, .ref z.heap.objs.size, rawInt 0, .none, .none] } }) :=
  .of_wp fun P w A R z hz => by
    obtain ⟨h0, g0, d0, k0, os0⟩ := z
    obtain ⟨ht, hR⟩ := hz
    have hsub := sub_enumerate
    have q1 : ∀ {A' : Around} {E : Value → Shared → Prop} {Q : Value → Shared → Prop}, Q (.ref h0.objs.size) ⟨h0.push { cls := .type "tuple_iterator", data := .fields #[.ref t, .int 0 0] }, g0, d0, k0, os0⟩ →
        wpAny (model P w) A' (pyIter (.ref t)) Q E ⟨h0, g0, d0, k0, os0⟩ := fun q => wpAny_pyIter_tuple ht q
    wp_walk using q1
    refine wpAny_stack_any fun stk => wpAny_pure ?_
    split
    · rename_i c _ _ _ _ _
      cases (c == Value.type "enumerate") <;> (wp_walk using q1; exact ⟨_, rfl, hR⟩)
    · wp_walk using q1
      exact ⟨_, rfl, hR⟩
section
variable {P : Program} {w : World} {A : Around} {E : Value → Shared → Prop} {s : Shared}
theorem callE {t : Addr} {ys : Array Value} {Q : Value → Shared → Prop} (ht : s.heap.IsTuple t ys)
    (q : ∀ h2, IsEnum h2 (s.heap.objs.size + 1) s.heap.objs.size 0 .none → h2.IsTupleIter s.heap.objs.size t 0 → h2.objs.size = s.heap.objs.size + 2 →
      (∀ b o, s.heap.get? b = some o → h2.get? b = some o) → Q (.ref (s.heap.objs.size + 1)) { s with heap := h2 }) :
    wpAny (model P w) A (call (.type "enumerate") [.ref t]) Q E s := by
  refine callType_new F.called_enumerate (by decide) (F.typeCall_enumerate_1 _) (F.newCall_enumerate_1 _) (fun o => F.args_object_init_2 o _) F.entry_enumerate_new (newE t ys) ⟨ht, ?_⟩
  have z1 : (s.heap.push { cls := .type "tuple_iterator", data := .fields #[.ref t, .int 0 0] }).objs.size = s.heap.objs.size + 1 := Heap.size_push ..
  show _ ∧ _
  rw [z1]
  have e1 : IsEnum ((s.heap.push { cls := .type "tuple_iterator", data := .fields #[.ref t, .int 0 0] }).push
      { cls := .type "enumerate", data := .fields #[.none, .bool false, .ref s.heap.objs.size, rawInt 0, .none, .none] }) (s.heap.objs.size + 1) s.heap.objs.size 0 .none := by
    have := Heap.get?_push_size (s.heap.push { cls := .type "tuple_iterator", data := .fields #[.ref t, .int 0 0] })
      (o := { cls := .type "enumerate", data := .fields #[.none, .bool false, .ref s.heap.objs.size, rawInt 0, .none, .none] }) rfl
    rw [z1] at this
    exact this
  exact ⟨⟨_, e1, rfl⟩, q _ e1 ⟨_, Heap.get?_push_of_some _ (Heap.get?_push_size _ rfl), rfl, rfl⟩ (by rw [Heap.size_push, z1]) fun b o x => Heap.get?_push_of_some _ (Heap.get?_push_of_some _ x)⟩
end
/-- the tuple at a, its items in new pairs with their places -/
def Iet (K : PySem.W.Frag) (a : Addr) : It :=
  ⟨fun i H => ∃ (ys : List V) (y : V), SqT K H a ys ∧ ys[i]? = some y,
   fun i H v H2 => ∃ p y, v = .ref p ∧ H p = none ∧ H2 = upd H p (.tup [.int (i : Nat), y]) ∧ ∀ ys, SqT K H a ys → ys[i]? = some y,
   fun i H => ∃ ys : List V, SqT K H a ys ∧ ys.length = i⟩
theorem turnE {P : Program} {w : World} {K : PySem.W.Frag} {elts : List Expr} {kk : Nat} {tp : Pos} (a e it : Addr) :
    Turn P w K (.Tuple elts kk tp) (Iet K a) [e, it] e (fun i h => (∃ old, IsEnum h e it ((i : Nat) : Int) old) ∧ h.IsTupleIter it a i ∧ e ≠ it ∧ a ≠ e ∧ a ≠ it) where
  mem := by simp
  obj := fun i h st b hb => by
    obtain ⟨⟨old, he⟩, ⟨o, ho, hc, hd⟩, _⟩ := st
    rcases (show b = e ∨ b = it by simpa using hb) with z | z
    · rw [z]
      exact ⟨_, he, fun v q => nomatch q⟩
    · rw [z]
      exact ⟨o, ho, fun v q => by rw [hd] at q; cases q⟩
  keep := fun i h h2 st kp => by
    obtain ⟨⟨old, he⟩, hi, hne⟩ := st
    exact ⟨⟨old, kp e (by simp) _ he⟩, hi.at fun o q => kp it (by simp) o q, hne⟩
  item := by
    intro X hP hw hK hc i pins s σ H E I hf st hg
    subst hP hw hK
    obtain ⟨⟨old, he⟩, hit, hne, hae, hai⟩ := st
    obtain ⟨ys, y, hq, hy⟩ := hg
    obtain ⟨its, rv, p, hz⟩ := I.tuple hq
    obtain ⟨u, hu, ru⟩ := rv.get hy
    have hel : e < s.heap.objs.size := Heap.lt_size he
    have hil : it < s.heap.objs.size := by
      obtain ⟨_, q, _⟩ := hit
      exact Heap.lt_size q
    have hlt : i < its.toArray.size := by
      have := (List.getElem?_eq_some_iff.mp hu).1
      simpa using this
    have pT : s.heap.IsTuple a its.toArray := let ⟨o, ho, hc, n, hd⟩ := p; ⟨o, ho, hc, n, hd⟩
    refine wpAny_pyNext_enum_itemD (Draws.tuple (prog := X.prog) (w := X.w) (A := X.A.in1) (I.ok.hd hc) it a hai its.toArray) he ⟨hit, pT⟩ hlt hne (by simp [hne, Ne.symm hae]) fun x h2 tk hx ho hit2 hT hsz hk => ?_
    have hxu : x = u := by
      have q : its.toArray[i]? = some x := hx
      rw [List.getElem?_toArray, hu] at q
      exact (Option.some.inj q).symm
    subst hxu
    refine ⟨_, rfl, wpAny_letOwnedTupleGo_enum (s := { s with heap := h2, toks := tk + 1 }) ho fun h3 he3 sb => ?_⟩
    have hT3 : h3.get? s.heap.objs.size = some { cls := .type "tuple", data := .seq #[.int i tk, x] } := (sb.2 _ (Nat.ne_of_gt hel)).trans hT
    have new : ObjOk X.prog X.w (upd H s.heap.objs.size (.tup [.int (i : Nat), y])) h3 s.heap.objs.size (.tup [.int (i : Nat), y]) :=
      ⟨by show 2 ≤ sizeLine; decide, [.int i tk, x], .cons ⟨_, rfl⟩ (.cons ru .nil), ⟨_, hT3, rfl, _, rfl⟩⟩
    have I1 : Inv X pins σ (upd H s.heap.objs.size (.tup [.int (i : Nat), y])) { s with heap := h3, toks := tk + 1 } :=
      I.turnedNew (ch := [e, it]) (fun b ob hb q => (sb.2 b (fun z => hb (by simp [z]))).trans (hk b ob (fun z => hb (by simp [z])) (fun z => hb (by simp [z])) q)) hf (Nat.le_refl _) new
    refine ⟨.ref s.heap.objs.size, _, I1, rfl, ⟨_, y, rfl, I.hok.fresh (Nat.le_refl _), rfl, fun zs hzs => by rw [I.tuple_inj hzs hq]; exact hy⟩, ⟨⟨x, ?_⟩, hit2.1.at fun o q => (sb.2 it (Ne.symm hne)).trans q, hne, hae, hai⟩, fun b hb => ?_⟩
    · have e1 : ((i + 1 : Nat) : Int) = (i : Int) + 1 := by omega
      rw [e1]
      exact he3
    · have hb2 : b < s.heap.objs.size := by
        rcases (show b = e ∨ b = it by simpa using hb) with z | z
        · rw [z]
          exact hel
        · rw [z]
          exact hil
      rw [upd_ne (Nat.ne_of_lt hb2)]
      exact (hf b hb).1
  done := by
    intro X hP hw hK hc i pins s σ H E I hf st hg
    subst hP hw hK
    obtain ⟨⟨old, he⟩, hit, hne, hae, hai⟩ := st
    obtain ⟨ys, hq, hy⟩ := hg
    obtain ⟨its, rv, p, hz⟩ := I.tuple hq
    obtain ⟨f0, f1, f2, f3, f4, f5⟩ := hf it (by simp)
    have pT : s.heap.IsTuple a its.toArray := let ⟨o, ho, hc, n, hd⟩ := p; ⟨o, ho, hc, n, hd⟩
    have hn : its.toArray.size = i := by
      have := rv.length
      simp
      omega
    exact wpAny_pyNext_enum_endD (Draws.tuple (prog := X.prog) (w := X.w) (A := X.A.in1) (I.ok.hd hc) it a hai its.toArray) he ⟨by rw [hn]; exact hit, pT⟩ fun h2 eb => ⟨rfl, I.turned (t' := s.toks) (fun b o hb q => eb b o hb q) f0 f1 f3 f4 f5⟩
  self := fun A i s Q E st h => let ⟨⟨_, he⟩, _⟩ := st; wpAny_pyIter_enum he h
def iEnumT (K : PySem.W.Frag) (ta : TA) : TI := fun σ H R => ta σ H fun vs H1 => ∃ a ys, vs = [.ref a] ∧ SqT K H1 a ys ∧ R (Iet K a) H1
theorem pi_enumT {X : Cx} {e : Expr} {ta : TA} {p pos tp : Pos} {elts : List Expr} {kk : Nat} (hg : Gl X "enumerate") (hm : X.mg "enumerate" = none) (ha : PA X [e] ta) (hs : starEach [e] X.env = [(false, eval e X.env)] := by rfl) :
    PI X (.Tuple elts kk tp) (.Call (.Name "enumerate" p) [e] [] pos) (iEnumT X.K ta) := by
  refine ⟨fun pins s σ H R I h => ?_⟩
  refine Call_ (ld_blt I hg hm boot_enumerate (PyProof.Rows.callWith_type1 (thn (ha.run pos pins s σ H _ I h) fun us s1 ⟨vs, H1, I1, r1, q1⟩ => ?_) hs rfl))
  obtain ⟨a, ys, ex, hq, q⟩ := q1
  subst ex
  cases r1 with
  | cons r rr =>
    cases rr
    cases r
    obtain ⟨its, rv, p', hz⟩ := I1.tuple hq
    have pT : s1.heap.IsTuple a its.toArray := let ⟨o, ho, hc, n, hd⟩ := p'; ⟨o, ho, hc, n, hd⟩
    have hal : a < s1.heap.objs.size := let ⟨_, ho, _⟩ := p'; Heap.lt_size ho
    refine callE pT fun h2 he hit hsz hk => wpAny_pyIter_enum he ?_
    have I2 : Inv X pins σ H1 { s1 with heap := h2 } := I1.kept (t' := s1.toks) hk
    refine ⟨s1.heap.objs.size + 1, [s1.heap.objs.size + 1, s1.heap.objs.size], _, _, H1, rfl, I2, turnE a (s1.heap.objs.size + 1) s1.heap.objs.size, ⟨⟨.none, he⟩, hit, Nat.succ_ne_self _, Nat.ne_of_lt (Nat.lt_succ_of_lt hal), Nat.ne_of_lt hal⟩, fun b hb => ?_, q⟩
    have hle : s1.heap.objs.size ≤ b := by
      rcases (show b = s1.heap.objs.size + 1 ∨ b = s1.heap.objs.size by simpa using hb) with z | z
      · rw [z]
        exact Nat.le_add_right _ _
      · rw [z]
        exact Nat.le_refl _
    exact I1.fpOk hle (I1.hok.fresh hle)
theorem walk_enumT {K : PySem.W.Frag} {a : Addr} {xs : List V} : Walk (Iet K a) xs.length (fun H => SqT K H a xs) (YPair (fun i => some (.int (i : Nat))) (fun i => xs[i]?)) := by
  refine ⟨fun i _ hi q => ⟨xs, xs[i], q, by simp [hi]⟩, fun _ q => ⟨xs, q, rfl⟩, fun i H v H2 _ q y => ?_⟩
  obtain ⟨p, z, h1, h2, h3, h4⟩ := y
  exact ⟨p, .int (i : Nat), z, h1, h2, h3, rfl, h4 xs q⟩
end Cu

namespace Cu
open PySem PySem.Spec PyProof.Rows L2
abbrev s_Hearer_do : Stmt := (inClass (top 12) 7)
theorem sc_Hearer_do : FnScope ["self", "letter", "word", "number", "key", "kind", "worth", "ahead"] ["self", "letter"] (defScope s_Hearer_do) := ⟨rfl, rfl, rfl, by decide +kernel, rfl, by decide +kernel, by decide +kernel⟩

abbrev s_Hearer_freed : Stmt := (inClass (top 12) 9)
theorem sc_Hearer_freed : FnScope ["self", "key", "found", "number", "letter"] ["self", "key"] (defScope s_Hearer_freed) := ⟨rfl, rfl, rfl, by decide +kernel, rfl, by decide +kernel, by decide +kernel⟩

abbrev s_Hearer_changed : Stmt := (inClass (top 12) 6)
theorem sc_Hearer_changed : FnScope ["self", "letter", "word", "number", "key", "kind", "worth", "ahead"] ["self", "letter"] (defScope s_Hearer_changed) := ⟨rfl, rfl, rfl, by decide +kernel, rfl, by decide +kernel, by decide +kernel⟩

abbrev s_Hearer_copied : Stmt := (inClass (top 12) 8)
theorem sc_Hearer_copied : FnScope ["self", "letter", "word", "number", "begin", "rows", "found", "at", "worth", "last", "key"] ["self", "letter"] (defScope s_Hearer_copied) := ⟨rfl, rfl, rfl, by decide +kernel, rfl, by decide +kernel, by decide +kernel⟩

abbrev s_Hearer_hear : Stmt := (inClass (top 12) 5)
theorem sc_Hearer_hear : FnScope ["self", "letter", "key"] ["self", "letter"] (defScope s_Hearer_hear) := ⟨rfl, rfl, rfl, by decide +kernel, rfl, by decide +kernel, by decide +kernel⟩

section
variable {P : Program} {w : World} {K : PySem.W.Frag} {mg : Str → Option Value} {base : Heap} {C : Addr}
theorem ok_do (F : Md K C "do" "Hearer.do" s_Hearer_do) (Bm : Blt mg) (CHearer : CHr K C) : Mf P w K mg base 1 C "do" ["self", "letter"] (spDo K C) := by
  refine F.ok sc_Hearer_do (fun _ _ _ _ _ _ us hl => match us, hl with | [_, _], _ => rfl) len_of fun qual f cdv A0 outer s H vs Q E hr h => ?_
  obtain ⟨_, A, hs, c, v, n, ahead, ch, h, rfl, r, hc, rv, eh, k⟩ := h
  obtain ⟨a, rfl, ha⟩ := rv.chg_inv
  have hk : ch.key < hs.length := (List.getElem?_eq_some_iff.mp eh).1
  have a1 : atI (hs.map fun h => V.int h.worth) (ch.key : Int) = some (V.int h.worth) := at_of (j := ch.key) rfl (by rw [List.getElem?_map, eh]; rfl)
  refine ⟨_, (pss_cons (ps_asg (pv 1) (pg_tup rfl (pgs_cons (pg_name (i := 2) sc_Hearer_do.nd rfl (Or.inl rfl)) (pgs_cons (pg_name (i := 3) sc_Hearer_do.nd rfl (Or.inl rfl)) (pgs_cons (pg_name (i := 4) sc_Hearer_do.nd rfl (Or.inl rfl)) (pgs_cons (pg_name (i := 5) sc_Hearer_do.nd rfl (Or.inl rfl)) (pgs_cons (pg_name (i := 6) sc_Hearer_do.nd rfl (Or.inl rfl)) (pgs_cons (pg_name (i := 7) sc_Hearer_do.nd rfl (Or.inl rfl)) pgs_nil))))))))
      (pss_cons (ps_asg (pe_ifExp (pt_cmpR op_eq (pv 5) pe_str (nomark _)) (pv 6) (pe_op op_add (pe_ix ix_list (pe_fld (pv 0) rfl) (pv 4) (fun _ _ => rfl)) (pv 6))) (pg_sub (pe_fld (pv 0) rfl) (pv 4) set_list))
      (pss_cons (ps_asg (pv 3) (pg_sub (pe_fld (pv 0) rfl) (pv 4) set_list))
      (pss_one (ps_asg (pv 3) (pg_sub (pe_fld (pv 0) rfl) (pv 4) set_list)))))), ?_⟩
  refine ⟨_, rfl, a, _, rfl, SqT.of ha, rfl, _, _, rfl, _, _, rfl, _, _, rfl, _, _, rfl, _, _, rfl, _, _, rfl, rfl, ?_⟩
  have ix1 : ∀ {α : Type} (g : HK → α), ixN (hs.map g).length (ch.key : Int) = some ch.key := fun g => ixN_nat (by rw [List.length_map]; exact hk)
  refine ⟨_, rfl, rfl, _, rfl, ite2 (fun h0 => ?_) fun h0 => ?_⟩
  · rw [wd_set] at h0
    refine ⟨_, rfl, _, rfl, _, C, _, _, _, rfl, r.at_p hc, CHearer.cl, CHearer.n1, hF1 A, _, rfl, _, _, _, _, rfl, rfl, r.at1 hc, ix1 _, ?_⟩
    obtain ⟨c1, r1, t1⟩ := r.set1 hc eh ch.worth
    have hc1 := t1.now hc
    have e1 : (hs.set ch.key { h with worth := ch.worth })[ch.key]? = some { h with worth := ch.worth } := List.getElem?_set_self hk
    refine ⟨_, rfl, _, rfl, _, C, _, _, _, rfl, r1.at_p hc1, CHearer.cl, CHearer.n2, hF2 A, _, rfl, _, _, _, _, rfl, rfl, r1.at2 hc1, ixN_nat (by rw [List.length_map, List.length_set]; exact hk), ?_⟩
    obtain ⟨c2, r2, t2⟩ := r1.set2 hc1 e1 n
    rw [List.set_set] at r2
    have hc2 := t2.now hc1
    have e2 : (hs.set ch.key { h with worth := ch.worth, since := n })[ch.key]? = some { h with worth := ch.worth, since := n } := List.getElem?_set_self hk
    refine ⟨_, rfl, _, rfl, _, C, _, _, _, rfl, r2.at_p hc2, CHearer.cl, CHearer.n3, hF3 A, _, rfl, _, _, _, _, rfl, rfl, r2.at3 hc2, ixN_nat (by rw [List.length_map, List.length_set]; exact hk), ?_⟩
    obtain ⟨c3, r3, t3⟩ := r2.set3 hc2 e2 n
    rw [List.set_set] at r3
    refine k c3 _ ?_ ((t1.trans t2).trans t3)
    have ee : h.done n ch.set ch.worth = { h with worth := ch.worth, since := n, upto := n } := by
      unfold HK.done
      rw [if_pos h0]
    rw [ee]
    exact r3
  · rw [wd_set] at h0
    refine ⟨_, rfl, _, C, _, _, _, rfl, r.at_p hc, CHearer.cl, CHearer.n1, hF1 A, _, rfl, _, _, _, _, rfl, rfl, SqL.of (r.at1 hc), a1, _, rfl, _, _, rfl, rfl, _, rfl, _, C, _, _, _, rfl, r.at_p hc, CHearer.cl, CHearer.n1, hF1 A, _, rfl, _, _, _, _, rfl, rfl, r.at1 hc, ix1 _, ?_⟩
    obtain ⟨c1, r1, t1⟩ := r.set1 hc eh (h.worth + ch.worth)
    have hc1 := t1.now hc
    have e1 : (hs.set ch.key { h with worth := h.worth + ch.worth })[ch.key]? = some { h with worth := h.worth + ch.worth } := List.getElem?_set_self hk
    refine ⟨_, rfl, _, rfl, _, C, _, _, _, rfl, r1.at_p hc1, CHearer.cl, CHearer.n2, hF2 A, _, rfl, _, _, _, _, rfl, rfl, r1.at2 hc1, ixN_nat (by rw [List.length_map, List.length_set]; exact hk), ?_⟩
    obtain ⟨c2, r2, t2⟩ := r1.set2 hc1 e1 n
    rw [List.set_set] at r2
    have hc2 := t2.now hc1
    have e2 : (hs.set ch.key { h with worth := h.worth + ch.worth, since := n })[ch.key]? = some { h with worth := h.worth + ch.worth, since := n } := List.getElem?_set_self hk
    refine ⟨_, rfl, _, rfl, _, C, _, _, _, rfl, r2.at_p hc2, CHearer.cl, CHearer.n3, hF3 A, _, rfl, _, _, _, _, rfl, rfl, r2.at3 hc2, ixN_nat (by rw [List.length_map, List.length_set]; exact hk), ?_⟩
    obtain ⟨c3, r3, t3⟩ := r2.set3 hc2 e2 n
    rw [List.set_set] at r3
    refine k c3 _ ?_ ((t1.trans t2).trans t3)
    have ee : h.done n ch.set ch.worth = { h with worth := h.worth + ch.worth, since := n, upto := n } := by
      unfold HK.done
      rw [if_neg h0]
    rw [ee]
    exact r3
end
end Cu

namespace Cu
open PySem PySem.Spec PyProof.Rows L2
section
variable {P : Program} {w : World} {K : PySem.W.Frag} {mg : Str → Option Value} {base : Heap} {C : Addr}
theorem ok_freed (F : Md K C "freed" "Hearer.freed" s_Hearer_freed) (Bm : Blt mg) (CHearer : CHr K C) (m_Hearer_do : Mf P w K mg base 1 C "do" ["self", "letter"] (spDo K C)) : Mf P w K mg base 2 C "freed" ["self", "key"] (spFreed K C) := by
  refine F.ok sc_Hearer_freed (fun _ _ _ _ _ _ us hl => match us, hl with | [_, _], _ => rfl) len_of fun qual f cdv A0 outer s H vs Q E hr h => ?_
  obtain ⟨_, A, hs, c, k, h, rfl, r, hc, eh, wf, go⟩ := h
  have hk : k < hs.length := (List.getElem?_eq_some_iff.mp eh).1
  refine ⟨_, (pss_cons (ps_set (i := 2) sc_Hearer_freed.nd rfl (Or.inl rfl) (pe_lst pa_nil))
      (pss_cons (ps_for PassesOwn.never rfl (pi_list (pe_callB (call_sortedDIw rfl) rfl Bm.sorted (by decide +kernel) (pa_cons (pe_ix ix_list (pe_fld (pv 0) rfl) (pv 1) (fun _ _ => rfl)) pa_nil))) (pg_name (i := 3) sc_Hearer_freed.nd rfl (Or.inl rfl))
        (pss_cons (ps_set (i := 4) sc_Hearer_freed.nd rfl (Or.inl rfl) (pe_dget (hu_of hr) (pe_ix ix_list (pe_fld (pv 0) rfl) (pv 1) (fun _ _ => rfl)) (pv 3) (fun _ _ => rfl)))
        (pss_one (ps_if (pt_cmpR op_le (pv 3) (pe_ix ix_list (pe_fld (pv 0) rfl) (pv 1) (fun _ _ => rfl)) (nomark _))
          (pss_one (ps_expr (pe_dpop1 (pe_ix ix_list (pe_fld (pv 0) rfl) (pv 1) (fun _ _ => rfl)) (pv 3) ⟨rfl, rfl, rfl, rfl⟩)))
          (pss_one (ps_if (pt_cmpR op_le (pe_ix ix_tup (pv 4) pe_int (fun _ _ => rfl)) (pe_ix ix_list (pe_fld (pv 0) rfl) (pv 1) (fun _ _ => rfl)) (nomark _))
            (pss_cons (ps_expr (pe_dpop1 (pe_ix ix_list (pe_fld (pv 0) rfl) (pv 1) (fun _ _ => rfl)) (pv 3) ⟨rfl, rfl, rfl, rfl⟩))
            (pss_cons (ps_expr (pm (pv 0) CHearer.cl m_Hearer_do hr (pa_cons (pv 4) pa_nil)))
            (pss_one (ps_expr (pe_bm PySem.F.plainAttrs_list PySem.F.slot_list_append PySem.F.type_list_append mt_append (pv 2) (pa_cons (pv 3) pa_nil))))))
            pss_nil))))))
      (pss_one (ps_ret (pv 2))))), ?_⟩
  refine ⟨(by show 0 ≤ sizeLine; decide), fun p hp => ?_⟩
  have t1 := (Tr.refl H c).new (o := .lst []) hp nl
  have hc1 := (t1.now hc).tail
  have r1 := r.mono t1.mono
  obtain ⟨d, kvs, ed, hd, ok⟩ := r1.dict hc1 eh
  have ad : atI (A.ds.map V.ref) (k : Int) = some (.ref d) := at_of (j := k) rfl (by rw [List.getElem?_map, ed]; rfl)
  refine ⟨_, rfl, _, C, _, _, _, rfl, r1.at_p hc1, CHearer.cl, CHearer.n4, hF4 A, _, rfl, _, _, _, _, rfl, rfl, SqL.of (r1.at4 hc1), ad, d, kvs, asN h.aside, rfl, .inl hd, ok.keys, by rw [asN, List.length_map]; exact Nat.le_trans (Nat.le_of_lt wf.few) (by decide), fun ys q hperm hsort hq => ?_⟩
  have e := srt_eq hperm hsort
  subst e
  have t2 := t1.new (o := .lst ((srt (asN h.aside)).map V.int)) hq nl
  have hnd : (srt (asN h.aside)).Nodup := (srt_perm _).nodup_iff.mpr wf.nd
  have hsz : (srt (asN h.aside)).length < 122 := by rw [(srt_perm _).length_eq, asN, List.length_map]; exact wf.few
  refine ⟨q, rfl, ⟨_, SqL.of upd_same⟩, for_list (K := K) (a := q) (xs := (srt (asN h.aside)).map V.int) (fun i σ H2 => ∃ (v3 v4 : Option V) (c' : Lg) (st : HK × List Int), σ = [some (.ref A.p), some (.int k), some (.ref p), v3, v4] ∧
      st = ((srt (asN h.aside)).take i).foldl HK.fstep (h, []) ∧ HR K C A (hs.set k st.1) H2 c' ∧ Tr H c H2 ((q, .lst ((srt (asN h.aside)).map V.int)) :: (p, .lst (st.2.map V.int)) :: c'))
    ⟨none, none, c, (h, []), rfl, rfl, by rw [set_back eh]; exact r.mono t2.mono, t2⟩ (fun i σ H2 _ ⟨_, _, _, _, _, _, _, t⟩ => SqL.of (t.now hc).head) ?_ ?_⟩
  · rintro i x σ H2 hi ⟨v3, v4, c', st, rfl, est, r2, t3⟩
    rw [List.getElem?_map] at hi
    obtain ⟨n, en, rfl⟩ : ∃ n, (srt (asN h.aside))[i]? = some n ∧ x = V.int n := by
      cases e1 : (srt (asN h.aside))[i]? with
      | none =>
        rw [e1] at hi
        cases hi
      | some n =>
        rw [e1] at hi
        exact ⟨n, rfl, (Option.some.inj hi).symm⟩
    have hil : i < 122 := by
      have := (List.getElem?_eq_some_iff.mp en).1
      omega
    have hh := t3.now hc
    have hc3 := hh.tail.tail
    have eg : (hs.set k st.1)[k]? = some st.1 := List.getElem?_set_self hk
    have hnot : n ∉ (srt (asN h.aside)).take i := fun hm => by
      obtain ⟨j, hj⟩ := List.getElem?_of_mem hm
      have hji : j < i := by
        have := (List.getElem?_eq_some_iff.mp hj).1
        rw [List.length_take] at this
        omega
      rw [List.getElem?_take_of_lt hji] at hj
      have := nd_ix hnd hj en
      omega
    have hin : n ∈ asN h.aside := (srt_perm _).mem_iff.mp (List.mem_of_getElem? en)
    obtain ⟨a, ha, ean⟩ := findA_some hin
    have ha2 : findA st.1.aside n = some a := by
      rw [est, fold_find hnot]
      exact ha
    have est' : HK.fstep st n = ((srt (asN h.aside)).take (i + 1)).foldl HK.fstep (h, []) := by
      rw [take_snoc en, List.foldl_append, ← est]
      rfl
    have hst2 : st.2.length ≤ i := by
      have := fold_len (l := (srt (asN h.aside)).take i) (st := (h, []))
      rw [← est] at this
      refine Nat.le_trans this ?_
      rw [List.length_take]
      show 0 + _ ≤ _
      omega
    obtain ⟨d2, kvs2, ed2, hd2, ok2⟩ := r2.dict hc3 eg
    rw [ed] at ed2
    cases ed2
    obtain ⟨v, hv, rv⟩ := ok2.find ha2
    obtain ⟨av, rfl, hav⟩ := Rp.chg_inv rv
    have a3 : atI ((hs.set k st.1).map fun h => V.int h.upto) (k : Int) = some (V.int st.1.upto) := at_of (j := k) rfl (by rw [List.getElem?_map, eg]; rfl)
    have dg : DGet H2 d (.int n) (some (.ref av)) := by
      rw [← hv]
      exact DGet.k (k := Sum.inl n) hd2
    -- letter = self.aside[key][number]
    refine ⟨_, rfl, _, C, _, _, _, rfl, r2.at_p hc3, CHearer.cl, CHearer.n4, hF4 A, _, rfl, _, _, _, _, rfl, rfl, SqL.of (r2.at4 hc3), ad, _, rfl, d, _, rfl, dg, ?_⟩
    refine ⟨_, rfl, _, rfl, _, C, _, _, _, rfl, r2.at_p hc3, CHearer.cl, CHearer.n3, hF3 A, _, rfl, _, _, _, _, rfl, rfl, SqL.of (r2.at3 hc3), a3, _, _, rfl, rfl, _, rfl, ite2 (fun h0 => ?_) fun h0 => ?_⟩
    · -- number <= upto: dropped
      have h0' := of_decide_eq_true h0
      refine ⟨_, rfl, _, C, _, _, _, rfl, r2.at_p hc3, CHearer.cl, CHearer.n4, hF4 A, _, rfl, _, _, _, _, rfl, rfl, SqL.of (r2.at4 hc3), ad, d, rfl, .inl ⟨_, .inl hd2⟩, _, rfl, _, Sum.inl n, _, hd2, rfl, hv, ?_⟩
      obtain ⟨c4, r4, t4⟩ := r2.set4 hc3 eg ed (ok2.drop n)
      rw [List.set_set] at r4
      refine ⟨_, _, c4, HK.fstep st n, rfl, est', ?_, ?_⟩
      · have : HK.fstep st n = ({ st.1 with aside := dropA st.1.aside n }, st.2) := by
          unfold HK.fstep
          rw [ha2]
          dsimp only
          rw [if_pos h0']
        rw [this]
        exact r4
      · have : HK.fstep st n = ({ st.1 with aside := dropA st.1.aside n }, st.2) := by
          unfold HK.fstep
          rw [ha2]
          dsimp only
          rw [if_pos h0']
        rw [this]
        exact t3.trans (t4.left (D := [(q, .lst ((srt (asN h.aside)).map V.int)), (p, .lst (st.2.map V.int))]))
    · have h0' := ndec h0
      refine ⟨_, rfl, _, _, _, _, rfl, rfl, SqT.of hav, rfl, _, rfl, _, C, _, _, _, rfl, r2.at_p hc3, CHearer.cl, CHearer.n3, hF3 A, _, rfl, _, _, _, _, rfl, rfl, SqL.of (r2.at3 hc3), a3, _, _, rfl, rfl, _, rfl, ite2 (fun h1 => ?_) fun h1 => ?_⟩
      · -- it can be done
        have h1' := of_decide_eq_true h1
        refine ⟨_, rfl, _, C, _, _, _, rfl, r2.at_p hc3, CHearer.cl, CHearer.n4, hF4 A, _, rfl, _, _, _, _, rfl, rfl, SqL.of (r2.at4 hc3), ad, d, rfl, .inl ⟨_, .inl hd2⟩, _, rfl, _, Sum.inl n, _, hd2, rfl, hv, ?_⟩
        obtain ⟨c4, r4, t4⟩ := r2.set4 hc3 eg ed (ok2.drop n)
        rw [List.set_set] at r4
        have t5 := t3.trans (t4.left (D := [(q, .lst ((srt (asN h.aside)).map V.int)), (p, .lst (st.2.map V.int))]))
        have hh5 := t5.now hc
        have hc5 := hh5.tail.tail
        have e5 : (hs.set k { st.1 with aside := dropA st.1.aside n })[(asL k a |> fun _ => k)]? = some { st.1 with aside := dropA st.1.aside n } := List.getElem?_set_self hk
        refine ⟨_, rfl, A.p, _, _, rfl, r4.at_p hc5, hFno, _, rfl, rfl, A, _, c4, .ref av, a.n, a.ahead, ⟨k, false, a.worth⟩, _, rfl, r4, hc5, rv.mono t4.mono, e5, fun c6 H6 r6 t6 => ?_⟩
        have t7 := t5.trans (t6.left (D := [(q, .lst ((srt (asN h.aside)).map V.int)), (p, .lst (st.2.map V.int))]))
        have hh7 := t7.now hc
        refine ⟨_, rfl, .inl ⟨rfl, _, SqL.of hh7.tail.head⟩, _, rfl, _, _, _, rfl, rfl, hh7.tail.head, by rw [List.length_map]; exact small1000 (by omega), ?_⟩
        have t8 := (t7.swap2.put (o' := .lst (st.2.map V.int ++ [.int n])) hc nl).swap2
        have e8 : HK.fstep st n = (({ st.1 with aside := dropA st.1.aside n } : HK).done a.n false a.worth, st.2 ++ [n]) := by
          unfold HK.fstep
          rw [ha2]
          dsimp only
          rw [if_neg h0', if_pos h1']
        have ns := hh7.swap2.mono_put (o' := .lst (st.2.map V.int ++ [.int n]))
        refine ⟨_, _, c6, HK.fstep st n, rfl, est', ?_, ?_⟩
        · rw [e8]
          have : (hs.set k { st.1 with aside := dropA st.1.aside n }).set k (({ st.1 with aside := dropA st.1.aside n } : HK).done a.n false a.worth) = hs.set k (({ st.1 with aside := dropA st.1.aside n } : HK).done a.n false a.worth) := List.set_set ..
          rw [← this]
          exact r6.mono ns
        · rw [e8, List.map_append]
          exact t8
      · have h1' := ndec h1
        have e8 : HK.fstep st n = st := by
          unfold HK.fstep
          rw [ha2]
          dsimp only
          rw [if_neg h0', if_neg h1']
        exact ⟨_, _, c', st, rfl, by rw [← est', e8], r2, t3⟩
  · rintro σ H2 ⟨v3, v4, c', st, rfl, est, r2, t3⟩
    have e1 : st = h.free := by
      rw [est, List.take_of_length_le (by rw [List.length_map]; exact Nat.le_refl _)]
      rfl
    subst e1
    exact ⟨_, rfl, go p c' H2 r2 t3.tail⟩
theorem ok_changed (F : Md K C "changed" "Hearer.changed" s_Hearer_changed) (Bm : Blt mg) (CHearer : CHr K C) (m_Hearer_do : Mf P w K mg base 1 C "do" ["self", "letter"] (spDo K C)) (m_Hearer_freed : Mf P w K mg base 2 C "freed" ["self", "key"] (spFreed K C)) :
    Mf P w K mg base 3 C "changed" ["self", "letter"] (spChanged K C) := by
  refine F.ok sc_Hearer_changed (fun _ _ _ _ _ _ us hl => match us, hl with | [_, _], _ => rfl) len_of fun qual f cdv A0 outer s H vs Q E hr h => ?_
  obtain ⟨_, A, hs, c, v, n, ahead, ch, h, rfl, r, hc, rv, eh, wf, go⟩ := h
  obtain ⟨a, rfl, ha⟩ := rv.chg_inv
  have hk : ch.key < hs.length := (List.getElem?_eq_some_iff.mp eh).1
  have a3 : atI (hs.map fun h => V.int h.upto) (ch.key : Int) = some (V.int h.upto) := at_of (j := ch.key) rfl (by rw [List.getElem?_map, eh]; rfl)
  refine ⟨_, (pss_cons (ps_asg (pv 1) (pg_tup rfl (pgs_cons (pg_name (i := 2) sc_Hearer_changed.nd rfl (Or.inl rfl)) (pgs_cons (pg_name (i := 3) sc_Hearer_changed.nd rfl (Or.inl rfl)) (pgs_cons (pg_name (i := 4) sc_Hearer_changed.nd rfl (Or.inl rfl)) (pgs_cons (pg_name (i := 5) sc_Hearer_changed.nd rfl (Or.inl rfl)) (pgs_cons (pg_name (i := 6) sc_Hearer_changed.nd rfl (Or.inl rfl)) (pgs_cons (pg_name (i := 7) sc_Hearer_changed.nd rfl (Or.inl rfl)) pgs_nil))))))))
      (pss_cons (ps_if (pt_cmpR op_le (pv 3) (pe_ix ix_list (pe_fld (pv 0) rfl) (pv 4) (fun _ _ => rfl)) (nomark _))
        (pss_one (ps_ret (pe_lst pa_nil)))
        pss_nil)
      (pss_cons (ps_if (PW.pt (pw_and (pt_cmpR op_eq (pv 5) pe_str (nomark _)) (pw_and1 (pt_cmpR op_lt (pe_ix ix_list (pe_fld (pv 0) rfl) (pv 4) (fun _ _ => rfl)) (pv 7) (nomark _)))))
        (pss_cons (ps_dput (hu_of hr) (pe_ix ix_list (pe_fld (pv 0) rfl) (pv 4) (fun _ _ => rfl)) (pv 3) (pv 1) rfl)
        (pss_one (ps_ret (pe_lst pa_nil))))
        pss_nil)
      (pss_cons (ps_expr (pm (pv 0) CHearer.cl m_Hearer_do hr (pa_cons (pv 1) pa_nil)))
      (pss_one (ps_ret (pe_op op_cat (pe_lst (pa_cons (pv 3) pa_nil)) (pm (pv 0) CHearer.cl m_Hearer_freed hr (pa_cons (pv 4) pa_nil))))))))), ?_⟩
  refine ⟨_, rfl, a, _, rfl, SqT.of ha, rfl, _, _, rfl, _, _, rfl, _, _, rfl, _, _, rfl, _, _, rfl, _, _, rfl, rfl, ?_⟩
  refine ⟨_, rfl, _, rfl, _, C, _, _, _, rfl, r.at_p hc, CHearer.cl, CHearer.n3, hF3 A, _, rfl, _, _, _, _, rfl, rfl, SqL.of (r.at3 hc), a3, _, _, rfl, rfl, _, rfl, ite2 (fun h0 => ?_) fun h0 => ?_⟩
  · -- known farther
    refine ⟨(by show 0 ≤ sizeLine; decide), fun l hl => ?_⟩
    have e : h.chg n ch ahead = (h, []) := by
      unfold HK.chg
      rw [if_pos (of_decide_eq_true h0)]
    rw [e] at go
    have t := (Tr.refl H c).new (o := .lst []) hl nl
    exact go l c _ (by rw [set_back eh]; exact r.mono t.mono) t
  have h0' := ndec h0
  have doit : (¬ (ch.set = false ∧ h.upto < (ahead : Int))) → h.chg n ch ahead = (((h.done n ch.set ch.worth).free).1, (n : Int) :: ((h.done n ch.set ch.worth).free).2) := fun q => by
    unfold HK.chg
    rw [if_neg h0', if_neg q]
  -- what is done behind the two tests
  have rest : (¬ (ch.set = false ∧ h.upto < (ahead : Int))) → ∀ (c4 : Lg) (H4 : Hp), HR K C A (hs.set ch.key (h.done n ch.set ch.worth)) H4 c4 → Tr H c H4 c4 → ∀ l, H4 l = none → ∀ (r5 : Addr) (c5 : Lg) (H5 : Hp),
      HR K C A (hs.set ch.key (h.done n ch.set ch.worth).free.1) H5 c5 → Tr (upd H4 l (.lst [.int n])) ((l, .lst [.int n]) :: c4) H5 ((r5, .lst ((h.done n ch.set ch.worth).free.2.map V.int)) :: (l, .lst [.int n]) :: c5) → ∀ q, H5 q = none →
      Q (.ref q) (upd H5 q (.lst ([.int n] ++ (h.done n ch.set ch.worth).free.2.map V.int))) := fun hq c4 H4 r4 t4 l hl r5 c5 H5 r6 t6 q hq2 => by
    have t7 := (t4.new (o := .lst [.int n]) hl nl).trans t6
    have t8 := t7.new (o := .lst ([.int n] ++ (h.done n ch.set ch.worth).free.2.map V.int)) hq2 nl
    rw [doit hq] at go
    refine go q c5 _ (r6.mono (Mono.new hq2)) ?_
    show Tr H c _ ((q, .lst ([.int n] ++ (h.done n ch.set ch.worth).free.2.map V.int)) :: c5)
    exact t8.sub (List.Sublist.cons_cons _ (List.sublist_append_right [_, _] c5))
  refine ⟨_, rfl, rfl, _, rfl, ?_⟩
  rw [wd_add]
  have wf' : Wf (h.done n ch.set ch.worth) := ⟨wf.nd, wf.few⟩
  have e4 : (hs.set ch.key (h.done n ch.set ch.worth))[ch.key]? = some (h.done n ch.set ch.worth) := List.getElem?_set_self hk
  have tail : (¬ (ch.set = false ∧ h.upto < (ahead : Int))) → ∀ (c4 : Lg) (H4 : Hp), HR K C A (hs.set ch.key (h.done n ch.set ch.worth)) H4 c4 → Tr H c H4 c4 → ∀ l, H4 l = none →
      spFreed K C [.ref A.p, .int ch.key] (upd H4 l (.lst [.int n])) (fun y H5 => rCat (.ref l) y H5 Q) E0 := fun hq c4 H4 r4 t4 l hl => by
    have t5 := (Tr.refl H4 c4).new (o := .lst [.int n]) hl nl
    have hc4 := t4.now hc
    refine ⟨rfl, A, _, c4, ch.key, _, rfl, r4.mono t5.mono, (t5.now hc4).tail, e4, wf', fun r5 c5 H5 r6 t6 => ?_⟩
    rw [List.set_set] at r6
    have t7 : Tr (upd H4 l (.lst [.int n])) ((l, .lst [.int n]) :: c4) H5 ((r5, .lst ((h.done n ch.set ch.worth).free.2.map V.int)) :: (l, .lst [.int n]) :: c5) := (t6.left (D := [(l, .lst [.int n])])).swap2
    have hh7 := t7.now (t5.now hc4)
    refine ⟨l, r5, _, _, rfl, rfl, hh7.tail.head, hh7.head, ?_, fun q hq2 => rest hq c4 H4 r4 t4 l hl r5 c5 H5 r6 t7 q hq2⟩
    have : (h.done n ch.set ch.worth).free.2.length ≤ 122 := by
      refine Nat.le_trans fold_len ?_
      rw [(srt_perm _).length_eq, asN, List.length_map]
      exact Nat.le_trans (Nat.add_le_add (Nat.le_refl _) (Nat.le_of_lt wf'.few)) (by simp)
    rw [List.length_map]
    exact Nat.le_trans (show 1 + _ ≤ 2000 by omega) (by decide)
  cases hset : ch.set with
  | true =>
    have hq : ¬ (ch.set = false ∧ h.upto < (ahead : Int)) := fun q => by
      rw [hset] at q
      cases q.1
    refine ⟨_, rfl, A.p, _, _, rfl, r.at_p hc, hFno, _, rfl, rfl, A, hs, c, .ref a, n, ahead, ch, h, rfl, r, hc, rv, eh, fun c4 H4 r4 t4 => ?_⟩
    refine ⟨_, rfl, (by show 1 ≤ sizeLine; decide), fun l hl => ?_⟩
    have hc4 := t4.now hc
    exact ⟨_, rfl, A.p, _, _, rfl, by rw [upd_ne (ne_of_none (r4.at_p hc4) hl)]; exact r4.at_p hc4, hFno, _, rfl, tail hq c4 H4 r4 t4 l hl⟩
  | false =>
    refine ⟨_, rfl, _, C, _, _, _, rfl, r.at_p hc, CHearer.cl, CHearer.n3, hF3 A, _, rfl, _, _, _, _, rfl, rfl, SqL.of (r.at3 hc), a3, _, rfl, _, _, rfl, rfl, _, rfl, ite2 (fun h1 => ?_) fun h1 => ?_⟩
    · -- put aside
      have h1' := of_decide_eq_true h1
      obtain ⟨d, kvs, ed, hd, ok⟩ := r.dict hc eh
      have ad : atI (A.ds.map V.ref) (ch.key : Int) = some (.ref d) := at_of (j := ch.key) rfl (by rw [List.getElem?_map, ed]; rfl)
      have el : asL ch.key ⟨n, ch.worth, ahead⟩ = .change n ch ahead := by
        unfold asL
        cases ch
        cases hset
        rfl
      obtain ⟨c4, r4, t4⟩ := r.set4 hc eh ed (ok.put (a := ⟨n, ch.worth, ahead⟩) (v := .ref a) (by rw [el]; exact rv))
      have hlen : kvs.length < sizeLine := by
        rw [ok.len]
        exact small1000 (by have := wf.few; omega)
      refine ⟨_, rfl, _, rfl, _, C, _, _, _, rfl, r.at_p hc, CHearer.cl, CHearer.n4, hF4 A, _, rfl, _, _, _, _, rfl, rfl, SqL.of (r.at4 hc), ad, _, rfl, d, _, rfl, DPut.k (k := Sum.inl (n : Int)) hd hlen, ?_⟩
      refine ⟨(by show 0 ≤ sizeLine; decide), fun l hl => ?_⟩
      have e : h.chg n ch ahead = ({ h with aside := putA h.aside ⟨n, ch.worth, ahead⟩ }, []) := by
        unfold HK.chg
        rw [if_neg h0', if_pos ⟨hset, h1'⟩]
      rw [e] at go
      exact go l c4 _ (r4.mono (Mono.new hl)) (t4.new hl nl)
    · have h1' := ndec h1
      have hq : ¬ (ch.set = false ∧ h.upto < (ahead : Int)) := fun q => h1' q.2
      refine ⟨_, rfl, A.p, _, _, rfl, r.at_p hc, hFno, _, rfl, rfl, A, hs, c, .ref a, n, ahead, ch, h, rfl, r, hc, rv, eh, fun c4 H4 r4 t4 => ?_⟩
      refine ⟨_, rfl, (by show 1 ≤ sizeLine; decide), fun l hl => ?_⟩
      have hc4 := t4.now hc
      exact ⟨_, rfl, A.p, _, _, rfl, by rw [upd_ne (ne_of_none (r4.at_p hc4) hl)]; exact r4.at_p hc4, hFno, _, rfl, tail hq c4 H4 r4 t4 l hl⟩
end
end Cu

namespace Cu
open PySem PySem.Spec PyProof.Rows L2
section
variable {P : Program} {w : World} {K : PySem.W.Frag} {mg : Str → Option Value} {base : Heap} {C : Addr}
theorem ok_copied (F : Md K C "copied" "Hearer.copied" s_Hearer_copied) (Bm : Blt mg) (CHearer : CHr K C) (m_Hearer_freed : Mf P w K mg base 2 C "freed" ["self", "key"] (spFreed K C)) : Mf P w K mg base 3 C "copied" ["self", "letter"] (spCopied K C) := by
  refine F.ok sc_Hearer_copied (fun _ _ _ _ _ _ us hl => match us, hl with | [_, _], _ => rfl) len_of fun qual f cdv A0 outer s H vs Q E hr h => ?_
  obtain ⟨_, A, hs, c, v, n, b, rows, rfl, r, hc, rv, h8, wf, hb, go⟩ := h
  obtain ⟨a, t, xs, rfl, ha, ht, hxs, hrow⟩ := rv.part_inv
  refine ⟨_, (pss_cons (ps_asg (pv 1) (pg_tup rfl (pgs_cons (pg_name (i := 2) sc_Hearer_copied.nd rfl (Or.inl rfl)) (pgs_cons (pg_name (i := 3) sc_Hearer_copied.nd rfl (Or.inl rfl)) (pgs_cons (pg_name (i := 4) sc_Hearer_copied.nd rfl (Or.inl rfl)) (pgs_cons (pg_name (i := 5) sc_Hearer_copied.nd rfl (Or.inl rfl)) pgs_nil))))))
      (pss_cons (ps_set (i := 6) sc_Hearer_copied.nd rfl (Or.inl rfl) (pe_lst pa_nil))
      (pss_cons (ps_for PassesOwn.never rfl (pi_enumT rfl Bm.enumerate (pa_cons (pv 5) pa_nil)) (pg_tup rfl (pgs_cons (pg_name (i := 7) sc_Hearer_copied.nd rfl (Or.inl rfl)) (pgs_cons (pg_tup rfl (pgs_cons (pg_name (i := 8) sc_Hearer_copied.nd rfl (Or.inl rfl)) (pgs_cons (pg_name (i := 9) sc_Hearer_copied.nd rfl (Or.inl rfl)) pgs_nil))) pgs_nil)))
        (pss_cons (ps_set (i := 10) sc_Hearer_copied.nd rfl (Or.inl rfl) (pe_op op_add (pv 4) (pv 7)))
        (pss_one (ps_if (pt_cmpR op_gt (pv 3) (pe_ix ix_list (pe_fld (pv 0) rfl) (pv 10) (fun _ _ => rfl)) (nomark _))
          (pss_cons (ps_asg (pv 8) (pg_sub (pe_fld (pv 0) rfl) (pv 10) set_list))
          (pss_cons (ps_asg (pv 9) (pg_sub (pe_fld (pv 0) rfl) (pv 10) set_list))
          (pss_cons (ps_asg (pv 3) (pg_sub (pe_fld (pv 0) rfl) (pv 10) set_list))
          (pss_one (ps_expr (pe_bm PySem.F.plainAttrs_list PySem.F.slot_list_extend PySem.F.type_list_extend mt_extend (pv 6) (pa_cons (pm (pv 0) CHearer.cl m_Hearer_freed hr (pa_cons (pv 10) pa_nil)) pa_nil)))))))
          pss_nil))))
      (pss_one (ps_ret (pv 6)))))), ?_⟩
  refine ⟨_, rfl, a, _, rfl, SqT.of ha, rfl, _, _, rfl, _, _, rfl, _, _, rfl, _, _, rfl, rfl, ?_⟩
  refine ⟨(by show 0 ≤ sizeLine; decide), fun p hp => ?_⟩
  have t1 := (Tr.refl H c).new (o := .lst []) hp nl
  obtain ⟨a1, a2⟩ := prt_low (hs := hs) (l := .part n b rows) (b := b) fun k g hk => by
    simp only [hearK]
    rw [if_neg (by omega)]
  obtain ⟨b1, b2⟩ := prt_high (hs := hs) (l := .part n b rows) (e := b + rows.length) fun k g hk => by
    simp only [hearK]
    rw [if_pos (by omega), List.getElem?_eq_none (by omega)]
  refine ⟨_, rfl, t, xs, rfl, SqT.of (t1.mono _ _ ht trivial), for_it (walk_enumT (xs := xs)) (fun i σ H2 => ∃ (v7 v8 v9 v10 : Option V) (c' : Lg), σ = [some (.ref A.p), some (.ref a), some (.str "part"), some (.int n), some (.int b), some (.ref t), some (.ref p), v7, v8, v9, v10] ∧
      HR K C A (prt hs (.part n b rows) (b + i)) H2 c' ∧ Tr H c H2 ((p, .lst ((fnd hs (.part n b rows) (b + i)).map V.int)) :: c'))
    ⟨none, none, none, none, c, rfl, by rw [Nat.add_zero, a1]; exact r.mono t1.mono, by rw [Nat.add_zero, a2]; exact t1⟩ (fun i σ H2 _ ⟨_, _, _, _, _, _, _, t2⟩ => SqT.of (t2.mono _ _ ht trivial)) ?_ ?_⟩
  · rintro i x σ H2 H3 hi ⟨v7, v8, v9, v10, c', rfl, r2, t2⟩ ⟨T, x1, y1, rfl, hT, rfl, e1, e2⟩
    cases e1
    have hi' : i < rows.length := by omega
    obtain ⟨rw', er⟩ : ∃ r, rows[i]? = some r := ⟨rows[i], List.getElem?_eq_getElem hi'⟩
    obtain ⟨q, eq, hq⟩ := hrow i rw' er
    have e2 : xs[i]? = some y1 := e2
    rw [eq] at e2
    cases e2
    have t3 := t2.old (o := .tup [.int (i : Nat), .ref q]) hT
    have r3 := r2.mono (Mono.new (o := .tup [.int (i : Nat), .ref q]) hT)
    have hbi : b + i < hs.length := by omega
    obtain ⟨g, eg⟩ : ∃ g, hs[b + i]? = some g := ⟨hs[b + i], List.getElem?_eq_getElem hbi⟩
    have eg2 : (prt hs (.part n b rows) (b + i))[b + i]? = some g := by
      rw [prt_get eg, if_neg (Nat.lt_irrefl _)]
    have eK : hearK (b + i) g (.part n b rows) = g.row n rw'.1 rw'.2 := by
      simp only [hearK]
      rw [if_pos (Nat.le_add_right _ _), Nat.add_sub_cancel_left, er]
    have eP : prt hs (.part n b rows) (b + (i + 1)) = (prt hs (.part n b rows) (b + i)).set (b + i) (g.row n rw'.1 rw'.2).1 := by
      rw [← Nat.add_assoc, prt_succ eg, eK]
    have eF : fnd hs (.part n b rows) (b + (i + 1)) = fnd hs (.part n b rows) (b + i) ++ (g.row n rw'.1 rw'.2).2 := by
      rw [← Nat.add_assoc, fnd_succ eg, eK]
    have ez : ((b : Int) + (i : Nat)) = ((b + i : Nat) : Int) := by omega
    have hh := t3.now hc
    have hc3 := hh.tail
    have plen := prt_len hs (.part n b rows) (b + i)
    have a3 : atI ((prt hs (.part n b rows) (b + i)).map fun h => V.int h.upto) ((b : Int) + (i : Nat)) = some (V.int g.upto) := at_of (j := b + i) ez (by rw [List.getElem?_map, eg2]; rfl)
    refine ⟨T, _, rfl, SqT.of upd_same, rfl, _, _, rfl, _, _, rfl, q, _, rfl, SqT.of (t3.mono _ _ hq trivial), rfl, _, _, rfl, _, _, rfl, rfl, rfl, ?_⟩
    refine ⟨_, rfl, _, rfl, _, _, rfl, rfl, ?_⟩
    refine ⟨_, rfl, _, rfl, _, C, _, _, _, rfl, r3.at_p hc3, CHearer.cl, CHearer.n3, hF3 A, _, rfl, _, _, _, _, rfl, rfl, SqL.of (r3.at3 hc3), a3, _, _, rfl, rfl, _, rfl, ite2 (fun h0 => ?_) fun h0 => ?_⟩
    · have h0' := of_decide_eq_true h0
      have eRow : g.row n rw'.1 rw'.2 = ({ g with worth := rw'.1, since := rw'.2, upto := n } : HK).free := by
        unfold HK.row
        rw [if_pos h0']
      have ix1 : ∀ {α : Type} (gs : List HK) (f : HK → α), gs.length = hs.length → ixN (gs.map f).length ((b : Int) + (i : Nat)) = some (b + i) := fun gs f hl => ixN_of ez (by rw [List.length_map, hl]; exact hbi)
      refine ⟨_, rfl, _, rfl, _, C, _, _, _, rfl, r3.at_p hc3, CHearer.cl, CHearer.n1, hF1 A, _, rfl, _, _, _, _, rfl, rfl, r3.at1 hc3, ix1 _ _ plen, ?_⟩
      obtain ⟨c4, r4, t4⟩ := r3.set1 hc3 eg2 rw'.1
      have hc4 := t4.now hc3
      have e4 : ((prt hs (.part n b rows) (b + i)).set (b + i) { g with worth := rw'.1 })[b + i]? = some { g with worth := rw'.1 } := List.getElem?_set_self (by omega)
      refine ⟨_, rfl, _, rfl, _, C, _, _, _, rfl, r4.at_p hc4, CHearer.cl, CHearer.n2, hF2 A, _, rfl, _, _, _, _, rfl, rfl, r4.at2 hc4, ix1 _ _ (by rw [List.length_set]; exact plen), ?_⟩
      obtain ⟨c5, r5, t5⟩ := r4.set2 hc4 e4 rw'.2
      rw [List.set_set] at r5
      have hc5 := t5.now hc4
      have e5 : ((prt hs (.part n b rows) (b + i)).set (b + i) { g with worth := rw'.1, since := rw'.2 })[b + i]? = some { g with worth := rw'.1, since := rw'.2 } := List.getElem?_set_self (by omega)
      refine ⟨_, rfl, _, rfl, _, C, _, _, _, rfl, r5.at_p hc5, CHearer.cl, CHearer.n3, hF3 A, _, rfl, _, _, _, _, rfl, rfl, r5.at3 hc5, ix1 _ _ (by rw [List.length_set]; exact plen), ?_⟩
      obtain ⟨c6, r6, t6⟩ := r5.set3 hc5 e5 n
      rw [List.set_set] at r6
      have hc6 := t6.now hc5
      have e6 : ((prt hs (.part n b rows) (b + i)).set (b + i) { g with worth := rw'.1, since := rw'.2, upto := n })[b + i]? = some { g with worth := rw'.1, since := rw'.2, upto := n } := List.getElem?_set_self (by omega)
      have t7 := t3.trans (((t4.trans t5).trans t6).left (D := [(p, .lst ((fnd hs (.part n b rows) (b + i)).map V.int))]))
      have hh7 := t7.now hc
      have wfg : Wf ({ g with worth := rw'.1, since := rw'.2, upto := n } : HK) := ⟨(wf g (List.mem_of_getElem? eg)).nd, (wf g (List.mem_of_getElem? eg)).few⟩
      refine ⟨_, rfl, .inl ⟨rfl, _, SqL.of hh7.head⟩, _, rfl, A.p, _, _, rfl, r6.at_p hc6, hFno, _, rfl, rfl, A, _, c6, b + i, _, congrArg (fun z => [V.ref A.p, V.int z]) ez, r6, hc6, e6, wfg, fun r8 c8 H8 q8 t8 => ?_⟩
      rw [List.set_set] at q8
      have t9 := (t7.trans (t8.left (D := [(p, .lst ((fnd hs (.part n b rows) (b + i)).map V.int))])))
      have hh9 := t9.now hc
      refine ⟨p, r8, _, _, rfl, rfl, hh9.head, hh9.tail.head, ?_, ?_⟩
      · have := fnd_len (l := .part n b rows) (m := b + i) wf h8
        have := free_len wfg
        rw [List.length_map, List.length_map]
        exact Nat.le_trans (show _ ≤ 2000 by omega) (by decide)
      · have t10 := t9.put (o' := .lst ((fnd hs (.part n b rows) (b + i)).map V.int ++ ({ g with worth := rw'.1, since := rw'.2, upto := n } : HK).free.2.map V.int)) hc nl
        refine ⟨_, _, _, _, c8, rfl, ?_, ?_⟩
        · rw [eP, eRow]
          exact q8.mono hh9.mono_put
        · rw [eF, eRow, List.map_append]
          exact t10.sub (List.Sublist.cons_cons _ (List.sublist_cons_self _ _))
    · have h0' := ndec h0
      have eRow : g.row n rw'.1 rw'.2 = (g, []) := by
        unfold HK.row
        rw [if_neg h0']
      refine ⟨_, _, _, _, c', rfl, ?_, ?_⟩
      · rw [eP, eRow, set_back eg2]
        exact r3
      · rw [eF, eRow, List.append_nil]
        exact t3
  · rintro σ H2 ⟨v7, v8, v9, v10, c', rfl, r2, t2⟩
    rw [hxs, b1] at r2
    rw [hxs, b2] at t2
    exact ⟨_, rfl, go p c' H2 r2 t2⟩
theorem ok_hear (F : Md K C "hear" "Hearer.hear" s_Hearer_hear) (Bm : Blt mg) (CHearer : CHr K C) (m_Hearer_changed : Mf P w K mg base 3 C "changed" ["self", "letter"] (spChanged K C)) (m_Hearer_copied : Mf P w K mg base 3 C "copied" ["self", "letter"] (spCopied K C)) :
    Mf P w K mg base 4 C "hear" ["self", "letter"] (spHear K C) := by
  refine F.ok sc_Hearer_hear (fun _ _ _ _ _ _ us hl => match us, hl with | [_, _], _ => rfl) len_of fun qual f cdv A0 outer s H vs Q E hr h => ?_
  obtain ⟨_, A, hs, c, v, l, rfl, r, hc, rv, h8, wf, hl, go⟩ := h
  refine ⟨_, (pss_cons (ps_if (pt_cmpR op_eq (pe_ix ix_tup (pv 1) pe_int (fun _ _ => rfl)) pe_str (nomark _))
        (pss_one (ps_ret (pm (pv 0) CHearer.cl m_Hearer_changed hr (pa_cons (pv 1) pa_nil))))
        pss_nil)
      (pss_cons (ps_if (pt_cmpR op_eq (pe_ix ix_tup (pv 1) pe_int (fun _ _ => rfl)) pe_str (nomark _))
        (pss_one (ps_ret (pm (pv 0) CHearer.cl m_Hearer_copied hr (pa_cons (pv 1) pa_nil))))
        pss_nil)
      (pss_cons (ps_for PassesOwn.never rfl (pi_range1 rfl Bm.range (pa_cons (pe_callB call_len_seq rfl Bm.len (by decide +kernel) (pa_cons (pe_fld (pv 0) rfl) pa_nil)) pa_nil)) (pg_name (i := 2) sc_Hearer_hear.nd rfl (Or.inl rfl))
        (pss_one (ps_if (pt_chain op_le op_lt (pe_ix ix_tup (pe_ix ix_tup (pv 1) pe_int (fun _ _ => rfl)) (pv 2) (fun _ _ => rfl)) (pe_ix ix_list (pe_fld (pv 0) rfl) (pv 2) (fun _ _ => rfl)) (pe_ix ix_tup (pv 1) pe_int (fun _ _ => rfl)))
          (pss_one (ps_asg (pe_ix ix_tup (pv 1) pe_int (fun _ _ => rfl)) (pg_sub (pe_fld (pv 0) rfl) (pv 2) set_list)))
          pss_nil)))
      (pss_one (ps_ret (pe_lst pa_nil)))))), ?_⟩
  cases l with
  | change n ch ahead =>
    obtain ⟨a, rfl, ha⟩ := rv.chg_inv
    obtain ⟨g, eg⟩ : ∃ g, hs[ch.key]? = some g := ⟨hs[ch.key], List.getElem?_eq_getElem hl⟩
    obtain ⟨e1, e2⟩ := hear_change (n := n) (ahead := ahead) eg
    rw [e1, e2] at go
    exact ⟨_, rfl, a, _, _, _, rfl, rfl, SqT.of ha, rfl, rfl, _, rfl, iteP (by decide +kernel) ⟨_, rfl, A.p, _, _, rfl, r.at_p hc, hFno, _, rfl, rfl, A, hs, c, .ref a, n, ahead, ch, g, rfl, r, hc, rv, eg, wf g (List.mem_of_getElem? eg), go⟩⟩
  | part n b rows =>
    obtain ⟨a, t, xs, rfl, ha, _⟩ := id rv.part_inv
    exact ⟨_, rfl, a, _, _, _, rfl, rfl, SqT.of ha, rfl, rfl, _, rfl, iteM (by decide +kernel) ⟨_, rfl, a, _, _, _, rfl, rfl, SqT.of ha, rfl, rfl, _, rfl, iteP (by decide +kernel) ⟨_, rfl, A.p, _, _, rfl, r.at_p hc, hFno, _, rfl, rfl, A, hs, c, .ref a, n, b, rows, rfl, r, hc, rv, h8, wf, hl, go⟩⟩⟩
  | beat n lasts =>
    obtain ⟨a, t, rfl, ha, ht⟩ := rv.beat_inv
    have hl : lasts.length = hs.length := hl
    refine ⟨_, rfl, a, _, _, _, rfl, rfl, SqT.of ha, rfl, rfl, _, rfl, iteM (by decide +kernel) ⟨_, rfl, a, _, _, _, rfl, rfl, SqT.of ha, rfl, rfl, _, rfl, iteM (by decide +kernel) ?_⟩⟩
    refine ⟨_, rfl, _, C, _, _, _, rfl, r.at_p hc, CHearer.cl, CHearer.n3, hF3 A, _, _, rfl, .inl (SqL.of (r.at3 hc)), _, rfl, by rw [List.length_map]; omega, by rw [List.length_map]; omega, ?_⟩
    refine for_range (lo := 0) (n := ((hs.map fun h => V.int h.upto).length : Int).toNat) (fun i σ H2 => ∃ (v2 : Option V) (c' : Lg), σ = [some (.ref A.p), some (.ref a), v2] ∧ HR K C A (prt hs (.beat n lasts) i) H2 c' ∧ Tr H c H2 c' ∧ fnd hs (.beat n lasts) i = [])
      ⟨none, c, rfl, ?_, Tr.refl H c, rfl⟩ ?_ ?_
    · rw [(prt_low (hs := hs) (l := .beat n lasts) (b := 0) fun k g hk => absurd hk (Nat.not_lt_zero _)).1]
      exact r
    · rintro i σ H2 hi ⟨v2, c', rfl, r2, t2, f2⟩
      rw [List.length_map] at hi
      have hi' : i < hs.length := by omega
      obtain ⟨g, eg⟩ : ∃ g, hs[i]? = some g := ⟨hs[i], List.getElem?_eq_getElem hi'⟩
      obtain ⟨la, el⟩ : ∃ la, lasts[i]? = some la := ⟨lasts[i], List.getElem?_eq_getElem (by omega)⟩
      have eg2 : (prt hs (.beat n lasts) i)[i]? = some g := by rw [prt_get eg, if_neg (Nat.lt_irrefl _)]
      have eK : hearK i g (.beat n lasts) = (g.beat n la, []) := by
        simp only [hearK]
        rw [el]
      have eP : prt hs (.beat n lasts) (i + 1) = (prt hs (.beat n lasts) i).set i (g.beat n la) := by rw [prt_succ eg, eK]
      have eF : fnd hs (.beat n lasts) (i + 1) = [] := by rw [fnd_succ eg, eK, f2]; rfl
      have ez : ((0 : Int) + i) = (i : Int) := by omega
      have hc2 := t2.now hc
      have plen := prt_len hs (.beat n lasts) i
      have a3 : atI ((prt hs (.beat n lasts) i).map fun h => V.int h.upto) ((0 : Int) + i) = some (V.int g.upto) := at_of (j := i) ez (by rw [List.getElem?_map, eg2]; rfl)
      have a4 : atI (lasts.map fun k : Nat => V.int k) ((0 : Int) + i) = some (V.int la) := at_of (j := i) ez (by rw [List.getElem?_map, el]; rfl)
      have ha2 := t2.mono _ _ ha trivial
      have same : (¬ ((la : Int) ≤ g.upto ∧ g.upto < (n : Int))) → ∃ (v2' : Option V) (c'' : Lg), ([some (V.ref A.p), some (.ref a), some (.int (0 + i))] : L2.St) = [some (.ref A.p), some (.ref a), v2'] ∧ HR K C A (prt hs (.beat n lasts) (i + 1)) H2 c'' ∧ Tr H c H2 c'' ∧ fnd hs (.beat n lasts) (i + 1) = [] := fun q => by
        have eB : g.beat n la = g := by
          unfold HK.beat
          rw [if_neg q]
        refine ⟨_, c', rfl, ?_, t2, eF⟩
        rw [eP, eB, set_back eg2]
        exact r2
      refine ⟨_, rfl, a, _, _, _, rfl, rfl, SqT.of ha2, rfl, _, rfl, t, _, _, _, rfl, rfl, SqT.of (t2.mono _ _ ht trivial), a4, _, rfl, _, C, _, _, _, rfl, r2.at_p hc2, CHearer.cl, CHearer.n3, hF3 A, _, rfl, _, _, _, _, rfl, rfl, SqL.of (r2.at3 hc2), a3, _, _, rfl, rfl, _, rfl, ite2 (fun h0 => ?_) fun h0 => ?_⟩
      · refine ⟨_, rfl, a, _, _, _, rfl, rfl, SqT.of ha2, rfl, _, _, rfl, rfl, _, rfl, ite2 (fun h1 => ?_) fun h1 => ?_⟩
        · refine ⟨_, rfl, a, _, _, _, rfl, rfl, SqT.of ha2, rfl, _, rfl, _, C, _, _, _, rfl, r2.at_p hc2, CHearer.cl, CHearer.n3, hF3 A, _, rfl, _, _, _, _, rfl, rfl, r2.at3 hc2, ixN_of ez (by rw [List.length_map, plen]; exact hi'), ?_⟩
          obtain ⟨c4, r4, t4⟩ := r2.set3 hc2 eg2 n
          have eB : g.beat n la = { g with upto := n } := by
            unfold HK.beat
            rw [if_pos ⟨of_decide_eq_true h0, of_decide_eq_true h1⟩]
          refine ⟨_, c4, rfl, ?_, t2.trans t4, eF⟩
          rw [eP, eB]
          exact r4
        · exact same fun q => ndec h1 q.2
      · exact ⟨_, rfl, iteM (by decide) (same fun q => ndec h0 q.1)⟩
    · rintro σ H2 ⟨v2, c', rfl, r2, t2, f2⟩
      refine ⟨(by show 0 ≤ sizeLine; decide), fun l hl2 => ?_⟩
      have e1 : prt hs (.beat n lasts) ((hs.map fun h => V.int h.upto).length : Int).toNat = hear hs (.beat n lasts) := prt_all (by rw [List.length_map]; omega)
      have e2 : fnd hs (.beat n lasts) ((hs.map fun h => V.int h.upto).length : Int).toNat = heard hs (.beat n lasts) := fnd_all (by rw [List.length_map]; omega)
      rw [e1] at r2
      rw [e2] at f2
      rw [f2] at go
      exact go l c' _ (r2.mono (Mono.new hl2)) (t2.new hl2 nl)
end
end Cu

namespace Cu
open PySem PySem.Spec PyProof.Rows L2
/-! what a hearer holds is right -/
theorem lof_le (cs : List Ch) (k : Nat) : lof cs k ≤ cs.length := by
  induction cs using snoc_ind with
  | h0 => exact Nat.le_refl _
  | h1 cs c ih =>
    rw [lof_snoc, List.length_append, List.length_singleton]
    split <;> omega
theorem take_le_len {cs : List Ch} {j : Nat} : (cs.take j).length ≤ j := by
  rw [List.length_take]
  exact Nat.min_le_left _ _
theorem lof_take_le (cs : List Ch) (j k : Nat) : lof (cs.take j) k ≤ j := Nat.le_trans (lof_le _ _) take_le_len
/-- a step of a story -/
theorem lof_step {cs : List Ch} {j k : Nat} : lof (cs.take (j + 1)) k = lof (cs.take j) k ∨ (lof (cs.take (j + 1)) k = j + 1 ∧ ∃ c, cs[j]? = some c ∧ c.key = k) := by
  cases e : cs[j]? with
  | none =>
    left
    have hj := List.getElem?_eq_none_iff.mp e
    rw [List.take_of_length_le hj, List.take_of_length_le (Nat.le_succ_of_le hj)]
  | some c =>
    have hj := (List.getElem?_eq_some_iff.mp e).1
    rw [take_snoc e, lof_snoc]
    by_cases hk : c.key = k
    · right
      rw [if_pos hk, List.length_take, Nat.min_eq_left (Nat.le_of_lt hj)]
      exact ⟨rfl, c, rfl, hk⟩
    · left
      rw [if_neg hk]
theorem lof_mono {cs : List Ch} {k i j : Nat} (h : i ≤ j) : lof (cs.take i) k ≤ lof (cs.take j) k := by
  induction j with
  | zero =>
    have : i = 0 := by omega
    subst this
    exact Nat.le_refl _
  | succ j ih =>
    by_cases e : i = j + 1
    · subst e
      exact Nat.le_refl _
    · have := ih (by omega)
      rcases lof_step (cs := cs) (j := j) (k := k) with q | ⟨q, _⟩
      · omega
      · have := lof_take_le cs j k
        omega
theorem lof_ge {cs : List Ch} {k m j : Nat} {c : Ch} (e : cs[m]? = some c) (hk : c.key = k) (h : m < j) : m + 1 ≤ lof (cs.take j) k := by
  have h1 : lof (cs.take (m + 1)) k = m + 1 := by
    have hm := (List.getElem?_eq_some_iff.mp e).1
    rw [take_snoc e, lof_snoc, if_pos hk, List.length_take, Nat.min_eq_left (Nat.le_of_lt hm)]
  have := lof_mono (cs := cs) (k := k) (show m + 1 ≤ j by omega)
  omega
/-- nothing happens to a key behind its last change -/
theorem wof_const {cs : List Ch} {k i j : Nat} (h : i ≤ j) (hl : lof (cs.take j) k ≤ i) : wof (cs.take j) k = wof (cs.take i) k ∧ lof (cs.take j) k = lof (cs.take i) k := by
  induction j with
  | zero =>
    have : i = 0 := by omega
    subst this
    exact ⟨rfl, rfl⟩
  | succ j ih =>
    by_cases e : i = j + 1
    · subst e
      exact ⟨rfl, rfl⟩
    · have hij : i ≤ j := by omega
      cases ec : cs[j]? with
      | none =>
        have hj := List.getElem?_eq_none_iff.mp ec
        have e1 : cs.take (j + 1) = cs.take j := by rw [List.take_of_length_le hj, List.take_of_length_le (Nat.le_succ_of_le hj)]
        rw [e1] at hl ⊢
        exact ih hij hl
      | some c =>
        have hk : ¬ c.key = k := fun q => by
          have := lof_ge (j := j + 1) ec q (Nat.lt_succ_self _)
          omega
        rw [take_snoc ec, lof_snoc, if_neg hk] at hl
        rw [take_snoc ec, wof_snoc, lof_snoc, if_neg hk, wst, if_neg hk]
        exact ih hij hl
/-- the change of a key -/
theorem wof_at {cs : List Ch} {m : Nat} {c : Ch} (e : cs[m]? = some c) : wof (cs.take (m + 1)) c.key = (if c.set then 0 else wof (cs.take m) c.key) + c.worth ∧ lof (cs.take (m + 1)) c.key = m + 1 := by
  have hm := (List.getElem?_eq_some_iff.mp e).1
  rw [take_snoc e, wof_snoc, lof_snoc, if_pos rfl, wst, if_pos rfl, List.length_take, Nat.min_eq_left (Nat.le_of_lt hm)]
  exact ⟨rfl, rfl⟩
/-- put aside is a true adding change -/
def AsIn (cs : List Ch) (k : Nat) (a : As) : Prop := ∃ m, a.n = m + 1 ∧ cs[m]? = some ⟨k, false, a.worth⟩ ∧ a.ahead = lof (cs.take m) k
theorem AsIn.lt {cs : List Ch} {k : Nat} {a : As} (h : AsIn cs k a) : a.ahead < a.n := by
  obtain ⟨m, e1, e2, e3⟩ := h
  have := lof_take_le cs m k
  omega
theorem AsIn.le {cs : List Ch} {k : Nat} {a : As} (h : AsIn cs k a) : a.n ≤ cs.length ∧ 0 < a.n := by
  obtain ⟨m, e1, e2, e3⟩ := h
  have := (List.getElem?_eq_some_iff.mp e2).1
  omega
/-- of two changes of a key the later one is behind the other one -/
theorem AsIn.after {cs : List Ch} {k : Nat} {a b : As} (ha : AsIn cs k a) (hb : AsIn cs k b) (h : a.n < b.n) : a.n ≤ b.ahead := by
  obtain ⟨m, e1, e2, e3⟩ := ha
  obtain ⟨m', f1, f2, f3⟩ := hb
  have := lof_ge (k := k) (j := m') e2 rfl (by omega)
  omega
/-- what is held is right -/
structure KR (cs : List Ch) (k : Nat) (h : HK) : Prop where
  lo : -1 ≤ h.upto
  hi : h.upto ≤ cs.length
  ok : ∀ u : Nat, h.upto = u → h.worth = wof (cs.take u) k ∧ h.since = lof (cs.take u) k
  as : ∀ a ∈ h.aside, AsIn cs k a
  nd : (asN h.aside).Nodup
structure KI (cs : List Ch) (k : Nat) (h : HK) : Prop extends KR cs k h where
  ahead : ∀ a ∈ h.aside, h.upto < (a.ahead : Int)
theorem KI.ini (cs : List Ch) (k : Nat) : KI cs k HK.ini := ⟨⟨Int.le_refl _, by show (-1 : Int) ≤ _; omega, fun u e => by
  have e : (-1 : Int) = u := e
  omega, fun _ h => (nomatch h), List.nodup_nil⟩, fun _ h => (nomatch h)⟩
theorem dropA_mem {as : List As} {n : Int} {a : As} : a ∈ dropA as n ↔ a ∈ as ∧ (a.n : Int) ≠ n := by
  unfold dropA
  rw [List.mem_filter]
  simp
theorem asN_drop (as : List As) (n : Int) : (asN (dropA as n)).Sublist (asN as) := (List.filter_sublist (p := _)).map _
theorem findA_mem {as : List As} {n : Int} {a : As} (h : findA as n = some a) : a ∈ as := List.mem_of_find?_eq_some h
theorem asN_of {as : List As} {b : As} (hb : b ∈ as) : (b.n : Int) ∈ asN as := List.mem_map.mpr ⟨b, hb, rfl⟩
theorem nd_same {as : List As} (nd : (asN as).Nodup) {a b : As} (ha : a ∈ as) (hb : b ∈ as) (e : a.n = b.n) : a = b := by
  induction as with
  | nil => cases ha
  | cons x as ih =>
    obtain ⟨h1, h2⟩ := List.nodup_cons.mp (show ((x.n : Int) :: asN as).Nodup from nd)
    rcases List.mem_cons.mp ha with ha' | ha'
    · rcases List.mem_cons.mp hb with hb' | hb'
      · rw [ha', hb']
      · refine absurd ?_ h1
        have q := asN_of hb'
        rw [← e, ha'] at q
        exact q
    · rcases List.mem_cons.mp hb with hb' | hb'
      · refine absurd ?_ h1
        have q := asN_of ha'
        rw [e, hb'] at q
        exact q
      · exact ih h2 ha' hb'
/-- a number that stands for a change of the key -/
def IsN (cs : List Ch) (k : Nat) (n : Int) : Prop := ∃ m c, n = ((m + 1 : Nat) : Int) ∧ cs[m]? = some c ∧ c.key = k
theorem fold_inv {cs : List Ch} {k : Nat} {u0 : Int} : ∀ {L : List Int} {st : HK × List Int}, KR cs k st.1 → 0 ≤ st.1.upto → L.Pairwise (· < ·) → (∀ n ∈ L, n ∈ asN st.1.aside) →
    (∀ a ∈ st.1.aside, (a.n : Int) ∉ L → st.1.upto < (a.ahead : Int) ∧ ∀ n ∈ L, (a.n : Int) < n) →
    u0 ≤ st.1.upto → (∀ n ∈ st.2, u0 < n ∧ n ≤ st.1.upto ∧ IsN cs k n) → st.2.Pairwise (· < ·) →
    KI cs k (L.foldl HK.fstep st).1 ∧ st.1.upto ≤ (L.foldl HK.fstep st).1.upto ∧ (∀ n ∈ (L.foldl HK.fstep st).2, u0 < n ∧ n ≤ (L.foldl HK.fstep st).1.upto ∧ IsN cs k n) ∧ (L.foldl HK.fstep st).2.Pairwise (· < ·)
  | [], st, r, h0, _, _, hrem, hu, hf, hp => ⟨⟨r, fun a ha => (hrem a ha (List.not_mem_nil)).1⟩, Int.le_refl _, hf, hp⟩
  | n :: L, st, r, h0, hL, hin, hrem, hu, hf, hp => by
    rw [List.foldl_cons]
    obtain ⟨hL1, hL2⟩ := List.pairwise_cons.mp hL
    obtain ⟨a, ha, ean⟩ := findA_some (hin n List.mem_cons_self)
    have hnL : n ∉ L := fun q => Int.lt_irrefl _ (hL1 n q)
    have ham := findA_mem ha
    have hain := r.as a ham
    obtain ⟨u, hu'⟩ : ∃ u : Nat, st.1.upto = u := ⟨st.1.upto.toNat, by omega⟩
    have stay : ∀ m ∈ L, m ∈ asN (dropA st.1.aside n) := fun m hm => by
      obtain ⟨b, hb, eb⟩ := List.mem_map.mp (hin m (List.mem_cons_of_mem _ hm))
      refine List.mem_map.mpr ⟨b, dropA_mem.mpr ⟨hb, fun q => ?_⟩, eb⟩
      have := hL1 m hm
      omega
    by_cases h1 : n ≤ st.1.upto
    · have e1 : HK.fstep st n = ({ st.1 with aside := dropA st.1.aside n }, st.2) := by
        unfold HK.fstep
        rw [ha]
        dsimp only
        rw [if_pos h1]
      rw [e1]
      exact fold_inv (st := ({ st.1 with aside := dropA st.1.aside n }, st.2)) ⟨r.lo, r.hi, r.ok, fun b hb => r.as b (dropA_mem.mp hb).1, r.nd.sublist (asN_drop _ _)⟩ h0 hL2 stay
        (fun b hb hbL => by
          obtain ⟨hb1, hb2⟩ := dropA_mem.mp hb
          obtain ⟨q1, q2⟩ := hrem b hb1 fun q => by
            rcases List.mem_cons.mp q with q | q
            · exact hb2 q
            · exact hbL q
          exact ⟨q1, fun m hm => q2 m (List.mem_cons_of_mem _ hm)⟩) hu hf hp
    · by_cases h2 : (a.ahead : Int) ≤ st.1.upto
      · have e1 : HK.fstep st n = (({ st.1 with aside := dropA st.1.aside n } : HK).done a.n false a.worth, st.2 ++ [n]) := by
          unfold HK.fstep
          rw [ha]
          dsimp only
          rw [if_neg h1, if_pos h2]
        rw [e1]
        obtain ⟨m, em1, em2, em3⟩ := id hain
        have hle := hain.le
        have hright : st.1.worth + a.worth = wof (cs.take a.n) k ∧ a.n = lof (cs.take a.n) k := by
          obtain ⟨w1, w2⟩ := wof_at em2
          obtain ⟨w3, _⟩ := wof_const (cs := cs) (k := k) (i := u) (j := m) (by omega) (by omega)
          rw [em1]
          refine ⟨?_, w2.symm⟩
          rw [show wof (cs.take (m + 1)) k = (if false = true then (0 : Int) else wof (cs.take m) k) + a.worth from w1, if_neg (by decide), w3, (r.ok u hu').1]
        have hdone : KR cs k (({ st.1 with aside := dropA st.1.aside n } : HK).done a.n false a.worth) := by
          refine ⟨?_, ?_, fun v hv => ?_, fun b hb => r.as b (dropA_mem.mp hb).1, r.nd.sublist (asN_drop _ _)⟩
          · show (-1 : Int) ≤ (a.n : Int)
            omega
          · show (a.n : Int) ≤ cs.length
            omega
          · have hv : (a.n : Int) = v := hv
            have : a.n = v := by omega
            subst this
            exact ⟨hright.1, hright.2⟩
        have hrem' : ∀ b ∈ (({ st.1 with aside := dropA st.1.aside n } : HK).done a.n false a.worth).aside, (b.n : Int) ∉ L → (({ st.1 with aside := dropA st.1.aside n } : HK).done a.n false a.worth).upto < (b.ahead : Int) ∧ ∀ n ∈ L, (b.n : Int) < n := by
          intro b hb hbL
          obtain ⟨hb1, hb2⟩ := dropA_mem.mp hb
          obtain ⟨q1, q2⟩ := hrem b hb1 fun q => by
            rcases List.mem_cons.mp q with q | q
            · exact hb2 q
            · exact hbL q
          have q3 := q2 n List.mem_cons_self
          have := (r.as b hb1).after hain (by omega)
          have := (r.as b hb1).lt
          omega
        have hf' : ∀ x ∈ st.2 ++ [n], u0 < x ∧ x ≤ (({ st.1 with aside := dropA st.1.aside n } : HK).done a.n false a.worth).upto ∧ IsN cs k x := by
          intro x hx
          show u0 < x ∧ x ≤ (a.n : Int) ∧ IsN cs k x
          rcases List.mem_append.mp hx with hx | hx
          · obtain ⟨p1, p2, p3⟩ := hf x hx
            exact ⟨p1, by omega, p3⟩
          · rw [List.mem_singleton] at hx
            subst hx
            exact ⟨by omega, by omega, m, _, by omega, em2, rfl⟩
        have hp' : (st.2 ++ [n]).Pairwise (· < ·) := by
          refine List.pairwise_append.mpr ⟨hp, List.pairwise_singleton _ _, fun x hx y hy => ?_⟩
          rw [List.mem_singleton] at hy
          subst hy
          have := (hf x hx).2.1
          omega
        have q := fold_inv (u0 := u0) (L := L) (st := (({ st.1 with aside := dropA st.1.aside n } : HK).done a.n false a.worth, st.2 ++ [n])) hdone (by show (0 : Int) ≤ (a.n : Int); omega) hL2 stay hrem' (by show u0 ≤ (a.n : Int); omega) hf' hp'
        exact ⟨q.1, Int.le_trans (by show st.1.upto ≤ (a.n : Int); omega) q.2.1, q.2.2⟩
      · have e1 : HK.fstep st n = st := by
          unfold HK.fstep
          rw [ha]
          dsimp only
          rw [if_neg h1, if_neg h2]
        rw [e1]
        refine fold_inv r h0 hL2 (fun m hm => hin m (List.mem_cons_of_mem _ hm)) (fun b hb hbL => ?_) hu hf hp
        by_cases hbn : (b.n : Int) = n
        · have : b = a := nd_same r.nd hb ham (by omega)
          subst this
          exact ⟨by omega, fun m hm => by rw [hbn]; exact hL1 m hm⟩
        · obtain ⟨q1, q2⟩ := hrem b hb fun q => by
            rcases List.mem_cons.mp q with q | q
            · exact hbn q
            · exact hbL q
          exact ⟨q1, fun m hm => q2 m (List.mem_cons_of_mem _ hm)⟩
theorem srt_lt {ns : List Int} (nd : ns.Nodup) : (srt ns).Pairwise (· < ·) := by
  have h1 : (srt ns).Pairwise (· ≤ ·) := by
    have := List.pairwise_mergeSort (le := fun a b : Int => decide (a ≤ b)) (fun a b c h1 h2 => by simp at h1 h2 ⊢; omega) (fun a b => by simp; omega) ns
    exact this.imp fun h => by simpa using h
  have h2 : (srt ns).Nodup := (srt_perm ns).nodup_iff.mpr nd
  exact (List.pairwise_and_iff.mpr ⟨h1, h2⟩).imp fun ⟨a, b⟩ => by omega
/-- what is told as done by a letter, for a key: between what was known and what is known, changes of the key, rising -/
structure Told (cs : List Ch) (k : Nat) (u : Int) (r : HK × List Int) : Prop where
  inv : KI cs k r.1
  up : u ≤ r.1.upto
  num : ∀ n ∈ r.2, u < n ∧ n ≤ r.1.upto ∧ IsN cs k n
  rise : r.2.Pairwise (· < ·)
theorem free_told {cs : List Ch} {k : Nat} {h : HK} {u0 : Int} (r : KR cs k h) (h0 : 0 ≤ h.upto) (hu : u0 ≤ h.upto) : Told cs k u0 h.free ∧ h.upto ≤ h.free.1.upto := by
  obtain ⟨q1, q2, q3, q4⟩ := fold_inv (u0 := u0) (L := srt (asN h.aside)) (st := (h, [])) r h0 (srt_lt r.nd) (fun n hn => (srt_perm _).mem_iff.mp hn)
    (fun a ha q => absurd ((srt_perm _).mem_iff.mpr (List.mem_map.mpr ⟨a, ha, rfl⟩)) q) hu (fun _ q => (nomatch q)) List.Pairwise.nil
  exact ⟨⟨q1, Int.le_trans hu q2, q3, q4⟩, q2⟩
theorem Told.none {cs : List Ch} {k : Nat} {h : HK} (i : KI cs k h) : Told cs k h.upto (h, []) := ⟨i, Int.le_refl _, fun _ q => (nomatch q), List.Pairwise.nil⟩
theorem putA_mem {as : List As} {a b : As} (h : b ∈ putA as a) : b = a ∨ b ∈ as := by
  unfold putA at h
  split at h
  · obtain ⟨x, hx, e⟩ := List.mem_map.mp h
    split at e
    · exact .inl e.symm
    · exact .inr (e ▸ hx)
  · rcases List.mem_append.mp h with h | h
    · exact .inr h
    · exact .inl (List.mem_singleton.mp h)
theorem putA_nd {as : List As} {a : As} (nd : (asN as).Nodup) : (asN (putA as a)).Nodup := by
  unfold putA
  split
  · have : asN (as.map fun x => if x.n = a.n then a else x) = asN as := by
      unfold asN
      rw [List.map_map]
      apply List.map_congr_left
      intro x _
      show ((if x.n = a.n then a else x).n : Int) = x.n
      split
      · rename_i h
        rw [h]
      · rfl
    rw [this]
    exact nd
  · rename_i h
    unfold asN
    rw [List.map_append]
    refine List.nodup_append.mpr ⟨nd, by simp, fun x hx y hy q => h ?_⟩
    obtain ⟨b, hb, eb⟩ := List.mem_map.mp hx
    have hy : y = (a.n : Int) := by simpa using hy
    rw [List.any_eq_true]
    exact ⟨b, hb, by simp; omega⟩
/-- THE STEP -/
theorem hearK_told {nk : Nat} {cs : List Ch} {k : Nat} {h : HK} {l : Letter} (i : KI cs k h) (hk : k < nk) (hl : IsLet nk cs l) : Told cs k h.upto (hearK k h l) := by
  cases hl with
  | @change n c e =>
    simp only [hearK]
    split
    · rename_i hck
      subst hck
      unfold HK.chg
      split
      · exact .none i
      · rename_i h1
        split
        · rename_i h2
          have hin : AsIn cs c.key ⟨n + 1, c.worth, lof (cs.take n) c.key⟩ := by
            refine ⟨n, rfl, ?_, rfl⟩
            rw [e]
            cases c
            cases h2.1
            rfl
          refine ⟨⟨⟨i.lo, i.hi, i.ok, fun a ha => ?_, putA_nd i.nd⟩, fun a ha => ?_⟩, Int.le_refl _, fun _ q => (nomatch q), List.Pairwise.nil⟩
          · rcases putA_mem ha with q | q
            · rw [q]
              exact hin
            · exact i.as a q
          · rcases putA_mem ha with q | q
            · rw [q]
              exact h2.2
            · exact i.ahead a q
        · rename_i h2
          have hn := (List.getElem?_eq_some_iff.mp e).1
          have hr : KR cs c.key (h.done (n + 1) c.set c.worth) := by
            refine ⟨?_, ?_, fun u hu => ?_, i.as, i.nd⟩
            · show (-1 : Int) ≤ ((n + 1 : Nat) : Int)
              omega
            · show ((n + 1 : Nat) : Int) ≤ cs.length
              omega
            · have hu : ((n + 1 : Nat) : Int) = u := hu
              have : n + 1 = u := by omega
              subst this
              obtain ⟨w1, w2⟩ := wof_at e
              refine ⟨?_, w2.symm⟩
              show (if c.set then c.worth else h.worth + c.worth) = _
              rw [w1]
              cases hs : c.set with
              | true => simp
              | false =>
                have hua : (lof (cs.take n) c.key : Int) ≤ h.upto := by
                  by_cases q : h.upto < (lof (cs.take n) c.key : Int)
                  · exact absurd ⟨hs, q⟩ h2
                  · omega
                obtain ⟨v, hv⟩ : ∃ v : Nat, h.upto = v := ⟨h.upto.toNat, by omega⟩
                obtain ⟨w3, _⟩ := wof_const (cs := cs) (k := c.key) (i := v) (j := n) (by omega) (by omega)
                rw [(i.ok v hv).1, w3]
                simp
          obtain ⟨q1, q2⟩ := free_told (u0 := ((n + 1 : Nat) : Int)) hr (by show (0 : Int) ≤ ((n + 1 : Nat) : Int); omega) (Int.le_refl _)
          refine ⟨q1.inv, by show h.upto ≤ (h.done (n + 1) c.set c.worth).free.1.upto; have := q1.up; omega, fun x hx => ?_, List.pairwise_cons.mpr ⟨fun x hx => (q1.num x hx).1, q1.rise⟩⟩
          rcases List.mem_cons.mp hx with hx | hx
          · subst hx
            exact ⟨by omega, q1.up, n, c, rfl, e, rfl⟩
          · obtain ⟨p1, p2, p3⟩ := q1.num x hx
            exact ⟨by omega, p2, p3⟩
    · exact .none i
  | @part n b e hn hbe hek =>
    show Told cs k h.upto (hearK k h (.part n b (partRows cs n b (e - b))))
    simp only [hearK]
    split
    · rename_i hbk
      cases er : (partRows cs n b (e - b))[k - b]? with
      | none => exact .none i
      | some r =>
        have hr : r = (wof (cs.take n) k, lof (cs.take n) k) := by
          have hlt := (List.getElem?_eq_some_iff.mp er).1
          rw [partRows, List.length_map, List.length_range] at hlt
          rw [partRows, List.getElem?_map, List.getElem?_range hlt] at er
          have := Option.some.inj er
          rw [← this]
          show (wof (cs.take n) (b + (k - b)), lof (cs.take n) (b + (k - b))) = _
          rw [show b + (k - b) = k by omega]
        subst hr
        show Told cs k h.upto (h.row n (wof (cs.take n) k) (lof (cs.take n) k))
        unfold HK.row
        split
        · rename_i h1
          have hr : KR cs k { h with worth := wof (cs.take n) k, since := lof (cs.take n) k, upto := n } := by
            refine ⟨by show (-1 : Int) ≤ (n : Int); omega, by show (n : Int) ≤ cs.length; omega, fun u hu => ?_, i.as, i.nd⟩
            have hu : (n : Int) = u := hu
            have : n = u := by omega
            subst this
            exact ⟨rfl, rfl⟩
          exact (free_told hr (by show (0 : Int) ≤ (n : Int); omega) (by show h.upto ≤ (n : Int); omega)).1
        · exact .none i
    · exact .none i
  | @beat n hn =>
    show Told cs k h.upto (hearK k h (.beat n ((List.range nk).map fun k => lof (cs.take n) k)))
    simp only [hearK]
    rw [List.getElem?_map, List.getElem?_range hk]
    show Told cs k h.upto (h.beat n (lof (cs.take n) k), [])
    unfold HK.beat
    split
    · rename_i h1
      obtain ⟨v, hv⟩ : ∃ v : Nat, h.upto = v := ⟨h.upto.toNat, by omega⟩
      obtain ⟨w3, w4⟩ := wof_const (cs := cs) (k := k) (i := v) (j := n) (by omega) (by omega)
      refine ⟨⟨⟨by show (-1 : Int) ≤ (n : Int); omega, by show (n : Int) ≤ cs.length; omega, fun u hu => ?_, i.as, i.nd⟩, fun a ha => ?_⟩, by show h.upto ≤ (n : Int); omega, fun _ q => (nomatch q), List.Pairwise.nil⟩
      · have hu : (n : Int) = u := hu
        have : n = u := by omega
        subst this
        rw [w3, w4]
        exact i.ok v hv
      · show (n : Int) < (a.ahead : Int)
        have h2 := i.ahead a ha
        rcases Nat.lt_or_ge n a.ahead with q | q
        · omega
        · exfalso
          obtain ⟨m, e1, e2, e3⟩ := i.as a ha
          -- the change ahead is one of the key's, at n at the latest
          have h3 : lof (cs.take a.ahead) k = a.ahead := by
            have : lof (cs.take m) k ≤ a.ahead := by omega
            have := wof_const (cs := cs) (k := k) (i := a.ahead) (j := m) (by have := lof_take_le cs m k; omega) this
            omega
          have h4 := lof_mono (cs := cs) (k := k) q
          omega
    · exact .none i
end Cu

namespace Cu
open PySem PySem.Spec PyProof.Rows L2
def wholeD (hs : List HK) : PyData := match wholeM hs with
  | none => .none
  | some (n, ws) => .tuple [.int n, ilst ws]
def standD (hs : List HK) : PyData := .list [.list (hs.map lookM), ilst (hs.map fun h => h.upto), ilst (heldM hs), wholeD hs]
theorem Gd.look {n : Nat} (h : HK) : Gd (n + 2) (lookM h) := by
  unfold lookM
  split
  · exact .none
  · exact .tuple (.all_cons .int (.all_cons .int (.all_cons .int .all_nil)))
theorem Gd.whole {n : Nat} (hs : List HK) : Gd (n + 3) (wholeD hs) := by
  unfold wholeD
  split
  · exact .none
  · exact .tuple (.all_cons .int (.all_cons (.ilst _) .all_nil))
theorem Gd.stand (hs : List HK) : Gd 5 (standD hs) := .list (.all_cons (.list fun d hd => by
  obtain ⟨h, _, rfl⟩ := List.mem_map.mp hd
  exact .look h) (.all_cons (.ilst _) (.all_cons (.ilst _) (.all_cons (.whole _) .all_nil))))
section
variable {K : PySem.W.Frag} {H : Hp} {C : Addr} {σ : L2.St} {Q : VK} {i : Nat} {A : HA} {hs : List HK} {c : Lg} {te : TE}
theorem rd_known (h1 : σ[i]? = some (some (.ref A.p))) (r : HR K C A hs H c) (hc : Has H c) (q : ∀ p H', Grow H H' → FzL K H' p ((hs.map fun h => h.upto).map V.int) → Q (.ref p) H') :
    tFz (tMeth C "known" (spKnown K C) [] E0 (tVar i) tNil) σ H Q :=
  rd_fz ⟨_, h1, A.p, _, _, rfl, r.at_p hc, hFno, rfl, A, hs, c, rfl, r, hc, fun _ _ t => ⟨_, _, rfl, t.own.head, fun _ => q _ _ (t.fz .nil) FzL.frz⟩⟩
theorem rd_held (h1 : σ[i]? = some (some (.ref A.p))) (r : HR K C A hs H c) (hc : Has H c) (hsz : (hs.map fun h => asN h.aside).flatten.length ≤ 1000) (q : ∀ p H', Grow H H' → FzL K H' p ((heldM hs).map V.int) → Q (.ref p) H') :
    tFz (tMeth C "held" (spHeld K C) [] E0 (tVar i) tNil) σ H Q :=
  rd_fz ⟨_, h1, A.p, _, _, rfl, r.at_p hc, hFno, rfl, A, hs, c, rfl, r, hc, hsz, fun _ _ t => ⟨_, _, rfl, t.own.head, fun _ => q _ _ (t.fz .nil) FzL.frz⟩⟩
theorem rd_whole (h1 : σ[i]? = some (some (.ref A.p))) (r : HR K C A hs H c) (hc : Has H c) (hn : 0 < hs.length) (q : ∀ v H', Grow H H' → Rp K H' (wholeD hs) v → Q v H') :
    tFzw (tMeth C "whole" (spWhole K C) [] E0 (tVar i) tNil) σ H Q := by
  refine rd_fzw ⟨_, h1, A.p, _, _, rfl, r.at_p hc, hFno, rfl, A, hs, c, rfl, r, hc, hn, fun hw => .inl (q _ _ (Grow.refl _) ?_), fun n ws hw p t H' t8 ht => .inr ⟨_, _, t8.own.head, fun o => q _ _ (t8.fz (ob := o) .nil) ?_⟩⟩
  · rw [wholeD, hw]
    exact .non
  · rw [wholeD, hw]
    exact .tup (t8.own.mono_put (o' := .frz o (.lst (ws.map V.int))) _ _ ht trivial) (.cons .int (.cons (.il FzL.frz) .nil))
theorem rd_look {k : Nat} {h : HK} {j : Nat} {z : Int} (h1 : σ[i]? = some (some (.ref A.p))) (r : HR K C A hs H c) (hc : Has H c) (h2 : σ[j]? = some (some (.int z))) (ez : z = k) (e : hs[k]? = some h) (q : ∀ v H', Grow H H' → Rp K H' (lookM h) v → Q v H') :
    tMeth C "look" (spLook K C) [] E0 (tVar i) (tCons (tVar j) tNil) σ H Q := by
  subst ez
  exact ⟨_, h1, A.p, _, _, rfl, r.at_p hc, hFno, _, h2, rfl, A, hs, c, k, h, rfl, r, hc, e, q⟩
theorem Rp.look_inv {h : HK} {v : V} (r : Rp K H (lookM h) v) (hu : 0 ≤ h.upto) : ∃ t, v = .ref t ∧ H t = some (.tup [.int h.worth, .int h.since, .int h.upto]) := by
  unfold lookM at r
  rw [if_neg (by omega)] at r
  obtain ⟨a, xs, e, f, r⟩ := r.tup_inv
  obtain ⟨v1, r1, e1, g1, r⟩ := r.cons_inv
  obtain ⟨v2, r2, e2, g2, r⟩ := r.cons_inv
  obtain ⟨v3, r3, e3, g3, r⟩ := r.cons_inv
  have := r.nil_inv
  subst this e3 e2 e1
  have g1 := Rp.int_iff.mp g1
  have g2 := Rp.int_iff.mp g2
  have g3 := Rp.int_iff.mp g3
  subst g1 g2 g3
  exact ⟨a, e, f⟩
theorem Rp.whole_inv {v : V} (r : Rp K H (wholeD hs) v) : (wholeM hs = none ∧ v = .non) ∨ ∃ n ws t p, wholeM hs = some (n, ws) ∧ v = .ref t ∧ H t = some (.tup [.int n, .ref p]) ∧ FzL K H p (ws.map V.int) := by
  unfold wholeD at r
  cases e : wholeM hs with
  | none =>
    rw [e] at r
    exact .inl ⟨rfl, Rp.none_iff.mp r⟩
  | some x =>
    obtain ⟨n, ws⟩ := x
    rw [e] at r
    obtain ⟨a, xs, e1, f, r⟩ := Rp.tup_inv r
    obtain ⟨v1, r1, e2, g1, r⟩ := r.cons_inv
    obtain ⟨v2, r2, e3, g2, r⟩ := r.cons_inv
    have := r.nil_inv
    subst this e3 e2
    have g1 := Rp.int_iff.mp g1
    obtain ⟨p, e4, f4⟩ := g2.il_inv
    subst g1 e4
    exact .inr ⟨n, ws, a, p, rfl, e1, f, f4⟩
end
end Cu

namespace Cu
open PySem PySem.Spec PyProof.Rows L2
/-! all keys of a hearer, by letters of one board -/
theorem IsN.key {cs : List Ch} {k k' : Nat} {n : Int} (h : IsN cs k n) (h' : IsN cs k' n) : k = k' := by
  obtain ⟨m, c, e1, e2, e3⟩ := h
  obtain ⟨m', c', e4, e5, e6⟩ := h'
  have : m = m' := by omega
  subst this
  rw [e2] at e5
  cases e5
  omega
theorem IsN.bd {cs : List Ch} {k : Nat} {n : Int} (h : IsN cs k n) : 0 < n ∧ n ≤ cs.length := by
  obtain ⟨m, c, e1, e2, _⟩ := h
  have := (List.getElem?_eq_some_iff.mp e2).1
  omega
theorem AsIn.isN {cs : List Ch} {k : Nat} {a : As} (h : AsIn cs k a) : IsN cs k a.n := by
  obtain ⟨m, e1, e2, _⟩ := h
  exact ⟨m, _, by omega, e2, rfl⟩
theorem rise_len : ∀ {l : List Int} {a b : Int}, l.Pairwise (· < ·) → (∀ n ∈ l, a < n ∧ n ≤ b) → (l.length : Int) ≤ if a ≤ b then b - a else 0
  | [], a, b, _, _ => by
    show (0 : Int) ≤ _
    split <;> omega
  | n :: l, a, b, h, q => by
    obtain ⟨h1, h2⟩ := List.pairwise_cons.mp h
    have q0 := q n List.mem_cons_self
    have ih := rise_len (a := n) (b := b) h2 fun m hm => ⟨h1 m hm, (q m (List.mem_cons_of_mem _ hm)).2⟩
    rw [if_pos (by omega)] at ih
    rw [if_pos (by omega), List.length_cons]
    omega
theorem nodup_len {l : List Int} {b : Nat} (nd : l.Nodup) (h : ∀ n ∈ l, 0 < n ∧ n ≤ b) : l.length ≤ b := by
  have h1 := rise_len (a := 0) (b := b) (srt_lt nd) fun n hn => h n ((srt_perm l).mem_iff.mp hn)
  rw [(srt_perm l).length_eq, if_pos (by omega)] at h1
  omega
theorem KI.few {cs : List Ch} {k : Nat} {h : HK} (i : KI cs k h) : h.aside.length ≤ cs.length := by
  have := nodup_len (b := cs.length) i.nd fun n hn => by
    obtain ⟨a, ha, e⟩ := List.mem_map.mp hn
    have := (i.as a ha).le
    omega
  rwa [asN, List.length_map] at this
theorem KI.wf {cs : List Ch} {k : Nat} {h : HK} (i : KI cs k h) (hl : cs.length < 122) : Wf h := ⟨i.nd, Nat.lt_of_le_of_lt i.few hl⟩
/-- a letter heard again -/
theorem putA_twice (as : List As) (a : As) : putA (putA as a) a = putA as a := by
  have hany : ((putA as a).any fun x => decide (x.n = a.n)) = true := by
    rw [List.any_eq_true]
    unfold putA
    split
    · rename_i h
      obtain ⟨x, hx, e⟩ := List.any_eq_true.mp h
      have e : x.n = a.n := of_decide_eq_true e
      exact ⟨a, List.mem_map.mpr ⟨x, hx, if_pos e⟩, by simp⟩
    · exact ⟨a, by simp, by simp⟩
  have e : putA (putA as a) a = (putA as a).map fun x => if x.n = a.n then a else x := by
    rw [putA, if_pos hany]
  rw [e]
  unfold putA
  split
  · rw [List.map_map]
    apply List.map_congr_left
    intro x _
    show (if (if x.n = a.n then a else x).n = a.n then a else (if x.n = a.n then a else x)) = if x.n = a.n then a else x
    by_cases h : x.n = a.n
    · rw [if_pos h, if_pos rfl]
    · rw [if_neg h, if_neg h]
  · rename_i h
    rw [List.map_append]
    have : as.map (fun x => if x.n = a.n then a else x) = as := by
      have : as.map (fun x => if x.n = a.n then a else x) = as.map id := by
        apply List.map_congr_left
        intro x hx
        rw [if_neg fun q => h (List.any_eq_true.mpr ⟨x, hx, by simpa using q⟩)]
        rfl
      rw [this, List.map_id]
    rw [this]
    simp
theorem fold_up {l : List Int} {st : HK × List Int} : st.1.upto ≤ (l.foldl HK.fstep st).1.upto := by
  induction l generalizing st with
  | nil => exact Int.le_refl _
  | cons n l ih =>
    rw [List.foldl_cons]
    refine Int.le_trans ?_ ih
    unfold HK.fstep
    cases h : findA st.1.aside n with
    | none => exact Int.le_refl _
    | some a =>
      dsimp only
      split
      · exact Int.le_refl _
      · split
        · have := findA_n h
          show st.1.upto ≤ (a.n : Int)
          omega
        · exact Int.le_refl _
theorem free_up (h : HK) : h.upto ≤ h.free.1.upto := fold_up (st := (h, []))
theorem hearK_twice (k : Nat) (h : HK) (l : Letter) : hearK k (hearK k h l).1 l = ((hearK k h l).1, []) := by
  cases l with
  | change n c ahead =>
    simp only [hearK]
    by_cases hk : c.key = k
    · simp only [if_pos hk]
      by_cases h1 : (n : Int) ≤ h.upto
      · have e : h.chg n c ahead = (h, []) := by rw [HK.chg, if_pos h1]
        rw [e]
        exact e
      · by_cases h2 : c.set = false ∧ h.upto < (ahead : Int)
        · have e : h.chg n c ahead = ({ h with aside := putA h.aside ⟨n, c.worth, ahead⟩ }, []) := by rw [HK.chg, if_neg h1, if_pos h2]
          rw [e]
          show HK.chg { h with aside := putA h.aside ⟨n, c.worth, ahead⟩ } n c ahead = _
          rw [HK.chg, if_neg h1, if_pos h2]
          simp only [putA_twice]
        · have e : h.chg n c ahead = (((h.done n c.set c.worth).free).1, (n : Int) :: ((h.done n c.set c.worth).free).2) := by rw [HK.chg, if_neg h1, if_neg h2]
          rw [e]
          have := free_up (h.done n c.set c.worth)
          have h3 : (n : Int) ≤ ((h.done n c.set c.worth).free).1.upto := this
          show HK.chg ((h.done n c.set c.worth).free).1 n c ahead = _
          rw [HK.chg, if_pos h3]
    · simp only [if_neg hk]
  | part n b rows =>
    simp only [hearK]
    by_cases hk : b ≤ k
    · simp only [if_pos hk]
      cases rows[k - b]? with
      | none => rfl
      | some r =>
        show HK.row (h.row n r.1 r.2).1 n r.1 r.2 = ((h.row n r.1 r.2).1, [])
        by_cases h1 : h.upto < (n : Int)
        · have e : h.row n r.1 r.2 = ({ h with worth := r.1, since := r.2, upto := n } : HK).free := by rw [HK.row, if_pos h1]
          rw [e]
          have h3 : (n : Int) ≤ (({ h with worth := r.1, since := r.2, upto := n } : HK).free).1.upto := free_up { h with worth := r.1, since := r.2, upto := n }
          rw [HK.row, if_neg (by omega)]
        · have e : h.row n r.1 r.2 = (h, []) := by rw [HK.row, if_neg h1]
          rw [e]
          exact e
    · simp only [if_neg hk]
  | beat n lasts =>
    simp only [hearK]
    cases lasts[k]? with
    | none => rfl
    | some x =>
      show ((h.beat n x).beat n x, ([] : List Int)) = (h.beat n x, [])
      congr 1
      unfold HK.beat
      by_cases h1 : (x : Int) ≤ h.upto ∧ h.upto < (n : Int)
      · rw [if_pos h1, if_neg fun q => absurd q.2 (Int.lt_irrefl _)]
      · rw [if_neg h1, if_neg h1]
theorem hear_get {hs : List HK} {l : Letter} {k : Nat} {h : HK} (e : hs[k]? = some h) : (hear hs l)[k]? = some (hearK k h l).1 := by
  rw [hear, List.getElem?_mapIdx, e]
  rfl
theorem hear_inv {hs : List HK} {l : Letter} {k : Nat} {h' : HK} (e : (hear hs l)[k]? = some h') : ∃ h, hs[k]? = some h ∧ h' = (hearK k h l).1 := by
  cases eh : hs[k]? with
  | none =>
    rw [hear, List.getElem?_mapIdx, eh] at e
    cases e
  | some h =>
    rw [hear_get eh] at e
    exact ⟨h, rfl, (Option.some.inj e).symm⟩
theorem heard_mem {hs : List HK} {l : Letter} {n : Int} (h : n ∈ heard hs l) : ∃ k g, hs[k]? = some g ∧ n ∈ (hearK k g l).2 := by
  obtain ⟨x, hx, hn⟩ := List.mem_flatten.mp h
  obtain ⟨k, hk⟩ := List.getElem?_of_mem hx
  rw [List.getElem?_mapIdx] at hk
  cases eh : hs[k]? with
  | none =>
    rw [eh] at hk
    cases hk
  | some g =>
    rw [eh] at hk
    have e : (hearK k g l).2 = x := Option.some.inj hk
    exact ⟨k, g, eh, by rw [e]; exact hn⟩
theorem hear_twice (hs : List HK) (l : Letter) : hear (hear hs l) l = hear hs l ∧ heard (hear hs l) l = [] := by
  constructor
  · apply List.ext_getElem?
    intro k
    cases eh : hs[k]? with
    | none => rw [List.getElem?_eq_none (by rw [hear_len, hear_len]; exact List.getElem?_eq_none_iff.mp eh), List.getElem?_eq_none (by rw [hear_len]; exact List.getElem?_eq_none_iff.mp eh)]
    | some h => rw [hear_get (hear_get eh), hear_get eh, hearK_twice]
  · refine List.eq_nil_iff_forall_not_mem.mpr fun n hn => ?_
    obtain ⟨k, g, e1, e2⟩ := heard_mem hn
    obtain ⟨h, e3, rfl⟩ := hear_inv e1
    rw [hearK_twice] at e2
    cases e2
/-- a hearer, all of whose keys are right -/
def AllI (nk : Nat) (cs : List Ch) (hs : List HK) : Prop := hs.length = nk ∧ ∀ k h, hs[k]? = some h → KI cs k h
theorem AllI.ini (nk : Nat) (cs : List Ch) : AllI nk cs (List.replicate nk HK.ini) := ⟨List.length_replicate, fun k h e => by
  rw [List.getElem?_replicate] at e
  split at e
  · cases e
    exact KI.ini cs k
  · cases e⟩
theorem AllI.told {nk : Nat} {cs : List Ch} {hs : List HK} {l : Letter} {k : Nat} {h : HK} (i : AllI nk cs hs) (hl : IsLet nk cs l) (e : hs[k]? = some h) : Told cs k h.upto (hearK k h l) :=
  hearK_told (i.2 k h e) (by have := (List.getElem?_eq_some_iff.mp e).1; have := i.1; omega) hl
theorem AllI.hear {nk : Nat} {cs : List Ch} {hs : List HK} {l : Letter} (i : AllI nk cs hs) (hl : IsLet nk cs l) : AllI nk cs (hear hs l) := ⟨by rw [hear_len]; exact i.1, fun k h e => by
  obtain ⟨g, eg, rfl⟩ := hear_inv e
  exact (i.told hl eg).inv⟩
theorem AllI.wf {nk : Nat} {cs : List Ch} {hs : List HK} (i : AllI nk cs hs) (hl : cs.length < 122) : ∀ h ∈ hs, Wf h := fun h hm => by
  obtain ⟨k, e⟩ := List.getElem?_of_mem hm
  exact (i.2 k h e).wf hl
theorem flat_le {α β : Type} {f : α → List β} {b : Nat} : ∀ {xs : List α}, (∀ x ∈ xs, (f x).length ≤ b) → ((xs.map f).flatten).length ≤ xs.length * b
  | [], _ => by simp
  | x :: xs, h => by
    have h1 := h x List.mem_cons_self
    have ih := flat_le (xs := xs) fun y hy => h y (List.mem_cons_of_mem _ hy)
    rw [List.map_cons, List.flatten_cons, List.length_append, List.length_cons, Nat.succ_mul]
    omega
theorem AllI.held {nk : Nat} {cs : List Ch} {hs : List HK} (i : AllI nk cs hs) (hl : cs.length ≤ 122) (hn : nk ≤ 8) : (hs.map fun h => asN h.aside).flatten.length ≤ 1000 := by
  have h1 := flat_le (f := fun h : HK => asN h.aside) (b := 122) (xs := hs) fun h hm => by
    obtain ⟨k, e⟩ := List.getElem?_of_mem hm
    have := (i.2 k h e).few
    rw [asN, List.length_map]
    omega
  have := i.1
  have h2 : hs.length * 122 ≤ 8 * 122 := Nat.mul_le_mul_right _ (by omega)
  omega
/-- the number's change is done -/
def Dn (cs : List Ch) (hs : List HK) (n : Int) : Prop := ∃ k h, hs[k]? = some h ∧ n ≤ h.upto ∧ IsN cs k n
section
variable {nk : Nat} {cs : List Ch} {hs : List HK} {l : Letter} {n : Int}
theorem Dn.hear (i : AllI nk cs hs) (hl : IsLet nk cs l) (h : Dn cs hs n) : Dn cs (hear hs l) n := by
  obtain ⟨k, g, e, h1, h2⟩ := h
  exact ⟨k, _, hear_get e, Int.le_trans h1 (i.told hl e).up, h2⟩
theorem heard_dn (i : AllI nk cs hs) (hl : IsLet nk cs l) (h : n ∈ heard hs l) : Dn cs (hear hs l) n ∧ ¬ Dn cs hs n := by
  obtain ⟨k, g, e1, e2⟩ := heard_mem h
  obtain ⟨q1, q2, q3⟩ := (i.told hl e1).num n e2
  refine ⟨⟨k, _, hear_get e1, q2, q3⟩, fun ⟨k', g', e3, q4, q5⟩ => ?_⟩
  have := q3.key q5
  subst this
  rw [e1] at e3
  cases e3
  omega
theorem flat_nodup : ∀ {xs : List (List Int)}, (∀ x ∈ xs, x.Nodup) → (∀ (i j : Nat) x y, xs[i]? = some x → xs[j]? = some y → i < j → ∀ n ∈ x, n ∉ y) → xs.flatten.Nodup
  | [], _, _ => by simp
  | x :: xs, h, q => by
    rw [List.flatten_cons]
    refine List.nodup_append.mpr ⟨h x List.mem_cons_self, flat_nodup (fun y hy => h y (List.mem_cons_of_mem _ hy)) fun i j y z ei ej hij => q (i + 1) (j + 1) y z (by simpa using ei) (by simpa using ej) (by omega), fun a ha b hb e => ?_⟩
    obtain ⟨y, hy, hby⟩ := List.mem_flatten.mp hb
    obtain ⟨j, hj⟩ := List.getElem?_of_mem hy
    subst e
    exact q 0 (j + 1) x y rfl (by simpa using hj) (by omega) a ha hby
theorem heard_nodup (i : AllI nk cs hs) (hl : IsLet nk cs l) : (heard hs l).Nodup := by
  have at_ : ∀ (j : Nat) (x : List Int), (hs.mapIdx fun k h => (hearK k h l).2)[j]? = some x → ∃ g, hs[j]? = some g ∧ x = (hearK j g l).2 := fun j x hx => by
    rw [List.getElem?_mapIdx] at hx
    cases eh : hs[j]? with
    | none =>
      rw [eh] at hx
      cases hx
    | some g =>
      rw [eh] at hx
      exact ⟨g, rfl, (Option.some.inj hx).symm⟩
  refine flat_nodup (fun x hx => ?_) fun a b x y ha hb hab m hm hm' => ?_
  · obtain ⟨j, hj⟩ := List.getElem?_of_mem hx
    obtain ⟨g, eg, rfl⟩ := at_ j x hj
    exact (i.told hl eg).rise.imp fun h => Int.ne_of_lt h
  · obtain ⟨g, eg, rfl⟩ := at_ a x ha
    obtain ⟨g', eg', rfl⟩ := at_ b y hb
    have := ((i.told hl eg).num m hm).2.2.key ((i.told hl eg').num m hm').2.2
    omega
theorem heard_bd (i : AllI nk cs hs) (hl : IsLet nk cs l) (h : n ∈ heard hs l) : 0 < n ∧ n ≤ cs.length := by
  obtain ⟨k, g, e1, e2⟩ := heard_mem h
  exact ((i.told hl e1).num n e2).2.2.bd
theorem heard_few (i : AllI nk cs hs) (hl : IsLet nk cs l) : (heard hs l).length ≤ cs.length := nodup_len (heard_nodup i hl) fun _ h => heard_bd i hl h
theorem held_not (i : AllI nk cs hs) (h : n ∈ heldM hs) : ¬ Dn cs hs n := by
  have h := (srt_perm _).mem_iff.mp h
  obtain ⟨x, hx, hn⟩ := List.mem_flatten.mp h
  obtain ⟨g, hg, rfl⟩ := List.mem_map.mp hx
  obtain ⟨k, ek⟩ := List.getElem?_of_mem hg
  obtain ⟨a, ha, rfl⟩ := List.mem_map.mp hn
  rintro ⟨k', g', e1, q1, q2⟩
  have hin := (i.2 k g ek).as a ha
  have := hin.isN.key q2
  subst this
  rw [ek] at e1
  cases e1
  have h1 := (i.2 k g ek).ahead a ha
  have h2 := hin.lt
  omega
theorem let_ok (hc : ∀ c ∈ cs, c.key < nk) (h : hs.length = nk) : IsLet nk cs l →
    match l with | .change _ ch _ => ch.key < hs.length | .part _ b rows => b + rows.length ≤ hs.length | .beat _ lasts => lasts.length = hs.length := by
  intro hl
  cases hl with
  | change e =>
    show _ < hs.length
    rw [h]
    exact hc _ (List.mem_of_getElem? e)
  | @part n b e hn hbe hek =>
    show b + (partRows cs n b (e - b)).length ≤ hs.length
    rw [partRows, List.length_map, List.length_range]
    omega
  | beat hn =>
    show ((List.range nk).map _).length = hs.length
    rw [List.length_map, List.length_range]
    omega
end
theorem set_srt {ns ms : List Int} (nd : ns.Nodup) (h1 : ms.Pairwise (· < ·)) (h2 : ∀ k : Int, k ∈ ms ↔ decide (k ∈ ns) = true) : ms = srt ns := by
  refine srt_eq ?_ (h1.imp fun h => Int.le_of_lt h)
  exact (List.perm_ext_iff_of_nodup (h1.imp fun h => Int.ne_of_lt h) nd).mpr fun a => by rw [h2 a, decide_eq_true_eq]
end Cu

namespace Cu
open PySem PySem.Spec PyProof.Rows L2
theorem mk_tr {H : Hp} {x dx C : Addr} (h1 : H x = none) (h2 : H dx = none) (n : dx ≠ x) : Tr H [] (upd (upd H dx (.own x)) x (.ins C dx [])) [(x, .ins C dx [])] :=
  ((Tr.refl H []).old h2).new (by rw [upd_ne n.symm]; exact h1) nins
theorem inV_ints (n : Int) (ns : List Int) : inV (.int n) (ns.map V.int) = decide (n ∈ ns) := by
  induction ns with
  | nil => rfl
  | cons m ns ih =>
    have e : inV (.int n) ((m :: ns).map V.int) = (eqV (.int m) (.int n) || inV (.int n) (ns.map V.int)) := rfl
    rw [e, ih]
    have e2 : eqV (.int m) (.int n) = decide (m = n) := by
      by_cases h : m = n <;> simp [eqV, h]
    rw [e2]
    by_cases h : m = n
    · simp [h]
    · simp [h, Ne.symm h]
theorem flat_ints (ns : List Int) : (ns.map V.int).all flatV = true := by
  rw [List.all_eq_true]
  intro x hx
  obtain ⟨n, _, rfl⟩ := List.mem_map.mp hx
  rfl
theorem int_get {ns : List Int} {i : Nat} {x : V} (h : (ns.map V.int)[i]? = some x) : ∃ n, ns[i]? = some n ∧ x = .int n := by
  rw [List.getElem?_map] at h
  cases e : ns[i]? with
  | none =>
    rw [e] at h
    cases h
  | some n =>
    rw [e] at h
    exact ⟨n, rfl, (Option.some.inj h).symm⟩
theorem Dp.ints' {K : PySem.W.Frag} {H : Hp} {a : Addr} {ns : List Int} (h : H a = some (.lst (ns.map V.int))) : Dp K H (.ref a) (ilst ns) := Dp.ints (SqL.of h)
theorem Dp.il {K : PySem.W.Frag} {H : Hp} {a : Addr} {ns : List Int} (h : SqL K H a (ns.map V.int)) : Dp K H (.ref a) (ilst ns) := Dp.ints h
def spLaw (K : PySem.W.Frag) : Sp := fun vs H Q _ => vs.length = 1 ∧ ∃ (c : Addr) (ns : List Int), vs = [.ref c] ∧ ns.length ≤ 63 ∧ FzL K H c (ns.map V.int) ∧ ∀ H', Q (.bl true) H'
end Cu

namespace Cu
open PySem PySem.Spec PyProof.Rows L2
/-! two hearers of a key, of which the one has heard more -/
def Closed (as : List As) (U : Int) : Prop := ∀ a ∈ as, (a.ahead : Int) ≤ U → (a.n : Int) ≤ U
theorem fstep_cases (st : HK × List Int) (n : Int) : HK.fstep st n = st ∨ (∃ a, findA st.1.aside n = some a ∧ n ≤ st.1.upto ∧ HK.fstep st n = ({ st.1 with aside := dropA st.1.aside n }, st.2)) ∨
    (∃ a, findA st.1.aside n = some a ∧ st.1.upto < n ∧ (a.ahead : Int) ≤ st.1.upto ∧ HK.fstep st n = (({ st.1 with aside := dropA st.1.aside n } : HK).done a.n false a.worth, st.2 ++ [n])) := by
  unfold HK.fstep
  cases h : findA st.1.aside n with
  | none => exact .inl rfl
  | some a =>
    dsimp only
    by_cases h1 : n ≤ st.1.upto
    · exact .inr (.inl ⟨a, rfl, h1, by rw [if_pos h1]⟩)
    · by_cases h2 : (a.ahead : Int) ≤ st.1.upto
      · exact .inr (.inr ⟨a, rfl, by omega, h2, by rw [if_neg h1, if_pos h2]⟩)
      · exact .inl (by rw [if_neg h1, if_neg h2])
theorem fold_le {U : Int} : ∀ {L : List Int} {st : HK × List Int}, st.1.upto ≤ U → Closed st.1.aside U → (L.foldl HK.fstep st).1.upto ≤ U
  | [], st, h, _ => h
  | n :: L, st, h, c => by
    rw [List.foldl_cons]
    rcases fstep_cases st n with e | ⟨a, ha, h1, e⟩ | ⟨a, ha, h1, h2, e⟩
    · rw [e]
      exact fold_le h c
    · rw [e]
      exact fold_le (st := ({ st.1 with aside := dropA st.1.aside n }, st.2)) h fun b hb => c b (dropA_mem.mp hb).1
    · rw [e]
      exact fold_le (st := (({ st.1 with aside := dropA st.1.aside n } : HK).done a.n false a.worth, st.2 ++ [n])) (c a (findA_mem ha) (Int.le_trans h2 h)) fun b hb => c b (dropA_mem.mp hb).1
theorem fold_keep : ∀ {L : List Int} {st : HK × List Int} {b : As}, b ∈ st.1.aside → b ∈ (L.foldl HK.fstep st).1.aside ∨ (b.n : Int) ≤ (L.foldl HK.fstep st).1.upto
  | [], _, _, h => .inl h
  | n :: L, st, b, h => by
    rw [List.foldl_cons]
    rcases fstep_cases st n with e | ⟨a, ha, h1, e⟩ | ⟨a, ha, h1, h2, e⟩
    · rw [e]
      exact fold_keep h
    · rw [e]
      by_cases hb : (b.n : Int) = n
      · exact .inr (Int.le_trans (by show (b.n : Int) ≤ st.1.upto; omega) fold_up)
      · exact fold_keep (st := ({ st.1 with aside := dropA st.1.aside n }, st.2)) (dropA_mem.mpr ⟨h, hb⟩)
    · rw [e]
      by_cases hb : (b.n : Int) = n
      · have := findA_n ha
        exact .inr (Int.le_trans (by show (b.n : Int) ≤ (a.n : Int); omega) fold_up)
      · exact fold_keep (st := (({ st.1 with aside := dropA st.1.aside n } : HK).done a.n false a.worth, st.2 ++ [n])) (dropA_mem.mpr ⟨h, hb⟩)
theorem fold_sub : ∀ {L : List Int} {st : HK × List Int} {b : As}, b ∈ (L.foldl HK.fstep st).1.aside → b ∈ st.1.aside
  | [], _, _, h => h
  | n :: L, st, b, h => by
    rw [List.foldl_cons] at h
    have h := fold_sub h
    rcases fstep_cases st n with e | ⟨a, ha, h1, e⟩ | ⟨a, ha, h1, h2, e⟩
    · rwa [e] at h
    · rw [e] at h
      exact (dropA_mem.mp h).1
    · rw [e] at h
      exact (dropA_mem.mp h).1
theorem putA_new (as : List As) (a : As) : a ∈ putA as a := by
  unfold putA
  split
  · rename_i h
    obtain ⟨x, hx, e⟩ := List.any_eq_true.mp h
    exact List.mem_map.mpr ⟨x, hx, if_pos (of_decide_eq_true e)⟩
  · simp
theorem putA_old {as : List As} {a b : As} (h : b ∈ as) : b ∈ putA as a ∨ b.n = a.n := by
  by_cases e : b.n = a.n
  · exact .inr e
  · left
    unfold putA
    split
    · exact List.mem_map.mpr ⟨b, h, if_neg e⟩
    · exact List.mem_append_left _ h
theorem AsIn.same {cs : List Ch} {k : Nat} {a b : As} (ha : AsIn cs k a) (hb : AsIn cs k b) (e : a.n = b.n) : a = b := by
  obtain ⟨m, e1, e2, e3⟩ := ha
  obtain ⟨m', e4, e5, e6⟩ := hb
  have : m = m' := by omega
  subst this
  rw [e2] at e5
  cases a
  cases b
  simp only at e e3 e6 e5
  cases e5
  simp_all
structure Rel (h1 h2 : HK) : Prop where
  up : h2.upto ≤ h1.upto
  as : ∀ a ∈ h2.aside, a ∈ h1.aside ∨ (a.n : Int) ≤ h1.upto
theorem Rel.refl (h : HK) : Rel h h := ⟨Int.le_refl _, fun _ h => .inl h⟩
section
variable {nk : Nat} {cs : List Ch} {k : Nat} {h h1 h2 : HK} {l : Letter}
theorem hearK_keep (i : KI cs k h) (hl : IsLet nk cs l) {b : As} (hb : b ∈ h.aside) : b ∈ (hearK k h l).1.aside ∨ (b.n : Int) ≤ (hearK k h l).1.upto := by
  cases hl with
  | @change n c e =>
    simp only [hearK]
    split
    · rename_i hck
      subst hck
      unfold HK.chg
      split
      · exact .inl hb
      · split
        · rename_i h1 h2
          rcases putA_old (a := ⟨n + 1, c.worth, lof (cs.take n) c.key⟩) hb with q | q
          · exact .inl q
          · have hin : AsIn cs c.key ⟨n + 1, c.worth, lof (cs.take n) c.key⟩ := by
              refine ⟨n, rfl, ?_, rfl⟩
              rw [e]
              cases c
              cases h2.1
              rfl
            rw [(i.as b hb).same hin q]
            exact .inl (putA_new _ _)
        · exact fold_keep (st := (h.done (n + 1) c.set c.worth, [])) hb
    · exact .inl hb
  | @part n b e hn hbe hek =>
    unfold partL
    simp only [hearK]
    split
    · split
      · unfold HK.row
        split
        · rename_i r _ _
          exact fold_keep (st := ({ h with worth := r.1, since := r.2, upto := n }, [])) hb
        · exact .inl hb
      · exact .inl hb
    · exact .inl hb
  | @beat n hn =>
    unfold beatL
    simp only [hearK]
    split
    · unfold HK.beat
      split
      · exact .inl hb
      · exact .inl hb
    · exact .inl hb
theorem Rel.lost (i : KI cs k h1) (hk : k < nk) (hl : IsLet nk cs l) (r : Rel h1 h2) : Rel (hearK k h1 l).1 h2 := by
  have up := (hearK_told i hk hl).up
  refine ⟨Int.le_trans r.up up, fun a ha => ?_⟩
  rcases r.as a ha with q | q
  · exact hearK_keep i hl q
  · exact .inr (Int.le_trans q up)
theorem Rel.closed (i : KI cs k h1) (hk : k < nk) (hl : IsLet nk cs l) (r : Rel h1 h2) : Closed h2.aside (hearK k h1 l).1.upto := fun a ha hah => by
  have t := hearK_told i hk hl
  rcases (r.lost i hk hl).as a ha with q | q
  · have := t.inv.ahead a q
    omega
  · exact q
theorem Rel.both (i1 : KI cs k h1) (i2 : KI cs k h2) (hk : k < nk) (hl : IsLet nk cs l) (r : Rel h1 h2) : Rel (hearK k h1 l).1 (hearK k h2 l).1 := by
  have rl := r.lost i1 hk hl
  have rc := r.closed i1 hk hl
  have t1 := hearK_told i1 hk hl
  cases hl with
  | @change n c e =>
    by_cases hck : c.key = k
    · by_cases q1 : ((n + 1 : Nat) : Int) ≤ h2.upto
      · have e2 : (hearK k h2 (.change (n + 1) c (lof (cs.take n) c.key))).1 = h2 := by
          simp only [hearK, if_pos hck, HK.chg, if_pos q1]
        rw [e2]
        exact rl
      · by_cases q2 : c.set = false ∧ h2.upto < (lof (cs.take n) c.key : Int)
        · have e2 : (hearK k h2 (.change (n + 1) c (lof (cs.take n) c.key))).1 = { h2 with aside := putA h2.aside ⟨n + 1, c.worth, lof (cs.take n) c.key⟩ } := by
            simp only [hearK, if_pos hck, HK.chg, if_neg q1, if_pos q2]
          rw [e2]
          refine ⟨rl.up, fun a ha => ?_⟩
          rcases putA_mem ha with q | q
          · subst q
            simp only [hearK, if_pos hck, HK.chg]
            split
            · exact .inr (by assumption)
            · split
              · exact .inl (putA_new _ _)
              · exact .inr (free_up (h1.done (n + 1) c.set c.worth))
          · exact rl.as a q
        · have e2 : (hearK k h2 (.change (n + 1) c (lof (cs.take n) c.key))).1 = ((h2.done (n + 1) c.set c.worth).free).1 := by
            simp only [hearK, if_pos hck, HK.chg, if_neg q1, if_neg q2]
          have hbase : ((n + 1 : Nat) : Int) ≤ (hearK k h1 (.change (n + 1) c (lof (cs.take n) c.key))).1.upto := by
            simp only [hearK, if_pos hck, HK.chg]
            split
            · assumption
            · split
              · rename_i q3 q4
                refine absurd ⟨q4.1, ?_⟩ q2
                have := r.up
                omega
              · exact free_up (h1.done (n + 1) c.set c.worth)
          rw [e2]
          exact ⟨fold_le (st := (h2.done (n + 1) c.set c.worth, [])) hbase rc, fun a ha => rl.as a (fold_sub (st := (h2.done (n + 1) c.set c.worth, [])) ha)⟩
    · have e2 : (hearK k h2 (.change (n + 1) c (lof (cs.take n) c.key))).1 = h2 := by
        simp only [hearK, if_neg hck]
      rw [e2]
      exact rl
  | @part n b e hn hbe hek =>
    unfold partL at rl rc t1 ⊢
    by_cases hbk : b ≤ k
    · cases er : (partRows cs n b (e - b))[k - b]? with
      | none =>
        have e2 : (hearK k h2 (.part n b (partRows cs n b (e - b)))).1 = h2 := by simp only [hearK, if_pos hbk, er]
        rw [e2]
        exact rl
      | some x =>
        by_cases q1 : h2.upto < (n : Int)
        · have e2 : (hearK k h2 (.part n b (partRows cs n b (e - b)))).1 = (({ h2 with worth := x.1, since := x.2, upto := n } : HK).free).1 := by simp only [hearK, if_pos hbk, er, HK.row, if_pos q1]
          have hbase : (n : Int) ≤ (hearK k h1 (.part n b (partRows cs n b (e - b)))).1.upto := by
            simp only [hearK, if_pos hbk, er, HK.row]
            split
            · exact free_up { h1 with worth := x.1, since := x.2, upto := n }
            · show (n : Int) ≤ h1.upto
              omega
          rw [e2]
          exact ⟨fold_le (st := ({ h2 with worth := x.1, since := x.2, upto := n }, [])) hbase rc, fun a ha => rl.as a (fold_sub (st := ({ h2 with worth := x.1, since := x.2, upto := n }, [])) ha)⟩
        · have e2 : (hearK k h2 (.part n b (partRows cs n b (e - b)))).1 = h2 := by simp only [hearK, if_pos hbk, er, HK.row, if_neg q1]
          rw [e2]
          exact rl
    · have e2 : (hearK k h2 (.part n b (partRows cs n b (e - b)))).1 = h2 := by simp only [hearK, if_neg hbk]
      rw [e2]
      exact rl
  | @beat n hn =>
    unfold beatL at rl rc t1 ⊢
    cases er : ((List.range nk).map fun k => lof (cs.take n) k)[k]? with
    | none =>
      have e2 : (hearK k h2 (.beat n ((List.range nk).map fun k => lof (cs.take n) k))).1 = h2 := by simp only [hearK, er]
      rw [e2]
      exact rl
    | some x =>
      have e2 : ∀ h : HK, (hearK k h (.beat n ((List.range nk).map fun k => lof (cs.take n) k))).1 = h.beat n x := fun h => by simp only [hearK, er]
      rw [e2, e2] at *
      by_cases q1 : (x : Int) ≤ h2.upto ∧ h2.upto < (n : Int)
      · have e3 : h2.beat n x = { h2 with upto := n } := by rw [HK.beat, if_pos q1]
        rw [e3]
        refine ⟨?_, rl.as⟩
        show (n : Int) ≤ (h1.beat n x).upto
        unfold HK.beat
        have := r.up
        split
        · exact Int.le_refl _
        · rename_i q2
          by_cases q3 : h1.upto < (n : Int)
          · exact absurd ⟨by omega, q3⟩ q2
          · show (n : Int) ≤ h1.upto
            omega
      · have e3 : h2.beat n x = h2 := by rw [HK.beat, if_neg q1]
        rw [e3]
        exact rl
/-- what is known up to the same number is the same -/
theorem look_same (i1 : KI cs k h1) (i2 : KI cs k h2) (e : h2.upto = h1.upto) : lookM h1 = lookM h2 := by
  unfold lookM
  rw [e]
  split
  · rfl
  · obtain ⟨u, hu⟩ : ∃ u : Nat, h1.upto = u := ⟨h1.upto.toNat, by omega⟩
    rw [(i1.ok u hu).1, (i1.ok u hu).2, (i2.ok u (e.trans hu)).1, (i2.ok u (e.trans hu)).2]
end
theorem min_le {hs : List HK} {m : Int} {k : Nat} {h : HK} (e : minU hs = m) (hk : hs[k]? = some h) : m ≤ h.upto := by
  unfold minU at e
  cases q : (hs.map fun h => h.upto).min? with
  | none =>
    rw [List.min?_eq_none_iff, List.map_eq_nil_iff] at q
    rw [q] at hk
    cases hk
  | some x =>
    rw [q] at e
    have e : x = m := e
    subst e
    exact (List.min?_eq_some_iff.mp q).2 _ (List.mem_map.mpr ⟨h, List.mem_of_getElem? hk, rfl⟩)
theorem le_max {hs : List HK} {k : Nat} {h : HK} (hk : hs[k]? = some h) : (h.since : Int) ≤ maxS hs := by
  unfold maxS
  cases q : (hs.map fun h => (h.since : Int)).max? with
  | none =>
    rw [List.max?_eq_none_iff, List.map_eq_nil_iff] at q
    rw [q] at hk
    cases hk
  | some x => exact (List.max?_eq_some_iff.mp q).2 _ (List.mem_map.mpr ⟨h, List.mem_of_getElem? hk, rfl⟩)
/-- whole is the board, at its number -/
theorem whole_row {nk : Nat} {cs : List Ch} {hs : List HK} {n : Int} {ws : List Int} (i : AllI nk cs hs) (hne : 0 < nk) (h : wholeM hs = some (n, ws)) : ∃ m : Nat, n = m ∧ m ≤ cs.length ∧ ws = wrow nk (cs.take m) := by
  unfold wholeM at h
  split at h
  · cases h
  · rename_i h1
    split at h
    · rename_i h2
      cases h
      obtain ⟨m, em⟩ : ∃ m : Nat, minU hs = m := ⟨(minU hs).toNat, by omega⟩
      have hm : m ≤ cs.length := by
        obtain ⟨g, eg⟩ : ∃ g, hs[0]? = some g := ⟨hs[0]'(by rw [i.1]; exact hne), List.getElem?_eq_getElem _⟩
        have := min_le em eg
        have := (i.2 0 g eg).hi
        omega
      refine ⟨m, em, hm, ?_⟩
      apply List.ext_getElem?
      intro k
      rw [List.getElem?_map]
      cases ek : hs[k]? with
      | none =>
        have := List.getElem?_eq_none_iff.mp ek
        rw [List.getElem?_eq_none (by rw [wrow_len]; have := i.1; omega)]
        rfl
      | some g =>
        have hk : k < nk := by
          have := (List.getElem?_eq_some_iff.mp ek).1
          have := i.1
          omega
        rw [wrow_get hk]
        have q1 := min_le em ek
        have q2 := le_max ek
        have ki := i.2 k g ek
        obtain ⟨u, hu⟩ : ∃ u : Nat, g.upto = u := ⟨g.upto.toNat, by omega⟩
        obtain ⟨w1, w2⟩ := ki.ok u hu
        have w3 := (wof_const (cs := cs) (k := k) (i := m) (j := u) (by omega) (by omega)).1
        show some g.worth = some (wof (cs.take m) k)
        rw [w1, w3]
    · cases h
end Cu

namespace Cu
open PySem PySem.Spec PyProof.Rows L2
/-! what has been heard of is known, or put aside -/
theorem fold_told : ∀ {L : List Int} {st : HK × List Int} {n : Int}, n ∈ (L.foldl HK.fstep st).2 → n ∈ st.2 ∨ n ∈ asN st.1.aside
  | [], _, _, h => .inl h
  | m :: L, st, n, h => by
    rw [List.foldl_cons] at h
    have h := fold_told h
    rcases fstep_cases st m with e | ⟨a, ha, h1, e⟩ | ⟨a, ha, h1, h2, e⟩
    · rwa [e] at h
    · rw [e] at h
      rcases h with h | h
      · exact .inl h
      · exact .inr ((asN_drop _ _).subset h)
    · rw [e] at h
      rcases h with h | h
      · rcases List.mem_append.mp h with h | h
        · exact .inl h
        · rw [List.mem_singleton] at h
          have := findA_n ha
          exact .inr (by rw [h, ← this]; exact asN_of (findA_mem ha))
      · exact .inr ((asN_drop _ _).subset h)
/-- a letter of changes behind n0 alone -/
def Fresh (n0 : Nat) : Letter → Prop
  | .change n _ _ => n0 < n
  | .part n _ _ => n0 ≤ n
  | .beat _ _ => True
def Lo (n0 : Nat) (h : HK) : Prop := ∀ a ∈ h.aside, n0 < a.n
theorem hearK_lo {n0 k : Nat} {h : HK} {l : Letter} (lo : Lo n0 h) (fr : Fresh n0 l) : Lo n0 (hearK k h l).1 ∧ ∀ n ∈ (hearK k h l).2, (n0 : Int) < n := by
  have fre : ∀ g : HK, g.aside = h.aside → Lo n0 g.free.1 ∧ ∀ n ∈ g.free.2, (n0 : Int) < n := fun g eg => by
    refine ⟨fun a ha => lo a (by rw [← eg]; exact fold_sub (st := (g, [])) ha), fun n hn => ?_⟩
    rcases fold_told (st := (g, [])) hn with q | q
    · cases q
    · obtain ⟨a, ha, e⟩ := List.mem_map.mp q
      have := lo a (by rw [← eg]; exact ha)
      omega
  have no : Lo n0 h ∧ ∀ n ∈ ([] : List Int), (n0 : Int) < n := ⟨lo, fun _ q => (nomatch q)⟩
  cases l with
  | change n c ahead =>
    simp only [hearK]
    split
    · unfold HK.chg
      split
      · exact no
      · split
        · refine ⟨fun a ha => ?_, fun _ q => (nomatch q)⟩
          rcases putA_mem ha with q | q
          · rw [q]
            exact fr
          · exact lo a q
        · obtain ⟨q1, q2⟩ := fre (h.done n c.set c.worth) rfl
          refine ⟨q1, fun m hm => ?_⟩
          rcases List.mem_cons.mp hm with q | q
          · have : n0 < n := fr
            omega
          · exact q2 m q
    · exact no
  | part n b rows =>
    simp only [hearK]
    split
    · split
      · unfold HK.row
        split
        · rename_i r _ _
          exact fre { h with worth := r.1, since := r.2, upto := n } rfl
        · exact no
      · exact no
    · exact no
  | beat n lasts =>
    simp only [hearK]
    split
    · unfold HK.beat
      split
      · exact no
      · exact no
    · exact no
def Got (k : Nat) (l : Letter) (h : HK) : Prop := match l with
  | .change n c _ => c.key = k → (n : Int) ≤ h.upto ∨ (c.set = false ∧ (n : Int) ∈ asN h.aside)
  | .part n b rows => b ≤ k → k < b + rows.length → (n : Int) ≤ h.upto
  | .beat _ _ => True
theorem got_self (k : Nat) (h : HK) (l : Letter) : Got k l (hearK k h l).1 := by
  cases l with
  | change n c ahead =>
    intro hk
    simp only [hearK, if_pos hk]
    unfold HK.chg
    split
    · exact .inl (by assumption)
    · split
      · rename_i q
        exact .inr ⟨q.1, asN_of (putA_new h.aside ⟨n, c.worth, ahead⟩)⟩
      · exact .inl (free_up (h.done n c.set c.worth))
  | part n b rows =>
    intro h1 h2
    simp only [hearK, if_pos h1]
    obtain ⟨r, er⟩ : ∃ r, rows[k - b]? = some r := ⟨rows[k - b], List.getElem?_eq_getElem (by omega)⟩
    rw [er]
    show (n : Int) ≤ (h.row n r.1 r.2).1.upto
    unfold HK.row
    split
    · exact free_up { h with worth := r.1, since := r.2, upto := n }
    · show (n : Int) ≤ h.upto
      omega
  | beat n lasts => trivial
theorem got_keep {nk : Nat} {cs : List Ch} {k : Nat} {h : HK} {l l' : Letter} (i : KI cs k h) (hk : k < nk) (hl : IsLet nk cs l') (g : Got k l h) : Got k l (hearK k h l').1 := by
  have up := (hearK_told i hk hl).up
  cases l with
  | change n c ahead =>
    intro q
    rcases g q with g | ⟨gs, g⟩
    · exact .inl (Int.le_trans g up)
    · obtain ⟨a, ha, e⟩ := List.mem_map.mp g
      rcases hearK_keep i hl ha with z | z
      · exact .inr ⟨gs, by rw [← e]; exact asN_of z⟩
      · exact .inl (by rw [← e]; exact z)
  | part n b rows => exact fun q1 q2 => Int.le_trans (g q1 q2) up
  | beat n lasts => trivial
theorem lof_is (cs : List Ch) (k : Nat) : lof cs k = 0 ∨ ∃ j c, cs[j]? = some c ∧ c.key = k ∧ lof cs k = j + 1 := by
  induction cs using snoc_ind with
  | h0 => exact .inl rfl
  | h1 cs c ih =>
    rw [lof_snoc]
    by_cases h : c.key = k
    · rw [if_pos h]
      exact .inr ⟨cs.length, c, by simp, h, rfl⟩
    · rw [if_neg h]
      rcases ih with q | ⟨j, d, q1, q2, q3⟩
      · exact .inl q
      · exact .inr ⟨j, d, by rw [List.getElem?_append_left (List.getElem?_eq_some_iff.mp q1).1]; exact q1, q2, q3⟩
theorem take_get {cs : List Ch} {m j : Nat} {c : Ch} (h : (cs.take m)[j]? = some c) : cs[j]? = some c ∧ j < m := by
  have hj : j < m := by
    have := (List.getElem?_eq_some_iff.mp h).1
    rw [List.length_take] at this
    omega
  rw [List.getElem?_take_of_lt hj] at h
  exact ⟨h, hj⟩
/-- all changes behind n0 have been heard of, and n0 is known: nothing is put aside, all is known -/
theorem got_end {cs : List Ch} {k n0 : Nat} {h : HK} (i : KI cs k h) (h0 : (n0 : Int) ≤ h.upto) (g : ∀ m c, cs[m]? = some c → c.key = k → n0 < m + 1 → ((m + 1 : Nat) : Int) ≤ h.upto ∨ ((m + 1 : Nat) : Int) ∈ asN h.aside) :
    h.aside = [] ∧ (lof cs k : Int) ≤ h.upto := by
  have ind : ∀ N, ∀ a ∈ h.aside, a.n ≤ N → False := fun N => by
    induction N with
    | zero =>
      intro a ha hn
      have := (i.as a ha).le
      omega
    | succ N ih =>
      intro a ha hn
      have q1 := i.ahead a ha
      obtain ⟨m, e1, e2, e3⟩ := i.as a ha
      rcases lof_is (cs.take m) k with q | ⟨j, c, e4, e5, e6⟩
      · omega
      · obtain ⟨e7, e8⟩ := take_get e4
        rcases g j c e7 e5 (by omega) with z | z
        · omega
        · obtain ⟨b, hb, eb⟩ := List.mem_map.mp z
          exact ih b hb (by omega)
  have e : h.aside = [] := by
    cases ha : h.aside with
    | nil => rfl
    | cons a as => exact (ind a.n a (by rw [ha]; exact List.mem_cons_self) (Nat.le_refl _)).elim
  refine ⟨e, ?_⟩
  rcases lof_is cs k with q | ⟨j, c, e4, e5, e6⟩
  · omega
  · by_cases hj : n0 < j + 1
    · rcases g j c e4 e5 hj with z | z
      · omega
      · rw [e] at z
        cases z
    · omega
theorem full_look {cs : List Ch} {k : Nat} {h : HK} (i : KI cs k h) (hl : (lof cs k : Int) ≤ h.upto) : h.worth = wof cs k ∧ h.since = lof cs k := by
  obtain ⟨u, hu⟩ : ∃ u : Nat, h.upto = u := ⟨h.upto.toNat, by omega⟩
  have hi := i.hi
  obtain ⟨w1, w2⟩ := i.ok u hu
  have := wof_const (cs := cs) (k := k) (i := u) (j := cs.length) (by omega) (by rw [List.take_length]; omega)
  rw [List.take_length] at this
  exact ⟨w1.trans this.1.symm, w2.trans this.2.symm⟩
/-- behind a beat all keys are known up to it -/
theorem beat_whole {nk : Nat} {cs : List Ch} {hs : List HK} (i : AllI nk cs hs) (hne : 0 < nk) (hl : ∀ (k : Nat) (h : HK), hs[k]? = some h → (lof cs k : Int) ≤ h.upto) :
    wholeM (hear hs (beatL nk cs cs.length)) = some ((cs.length : Int), wrow nk cs) ∧ ∀ (k : Nat) (h : HK), (hear hs (beatL nk cs cs.length))[k]? = some h → h.upto = cs.length := by
  have il : IsLet nk cs (beatL nk cs cs.length) := .beat (Nat.le_refl _)
  have i' := i.hear il
  have hup : ∀ (k : Nat) (h : HK), (hear hs (beatL nk cs cs.length))[k]? = some h → h.upto = cs.length := fun k h e => by
    obtain ⟨g, eg, rfl⟩ := hear_inv e
    have hk : k < nk := by
      have := (List.getElem?_eq_some_iff.mp eg).1
      have := i.1
      omega
    have hi := (i.2 k g eg).hi
    have := hl k g eg
    unfold beatL
    simp only [hearK]
    rw [List.getElem?_map, List.getElem?_range hk]
    show (g.beat cs.length (lof (cs.take cs.length) k)).upto = _
    rw [List.take_length]
    unfold HK.beat
    split
    · rfl
    · rename_i q
      by_cases z : g.upto < (cs.length : Int)
      · exact absurd ⟨this, z⟩ q
      · show g.upto = _
        omega
  refine ⟨?_, hup⟩
  have hlen := i'.1
  obtain ⟨g0, e0⟩ : ∃ g, (hear hs (beatL nk cs cs.length))[0]? = some g := ⟨(hear hs (beatL nk cs cs.length))[0]'(by omega), List.getElem?_eq_getElem _⟩
  have em : minU (hear hs (beatL nk cs cs.length)) = cs.length := by
    unfold minU
    rw [List.min?_eq_some_iff.mpr ⟨List.mem_map.mpr ⟨g0, List.mem_of_getElem? e0, hup 0 g0 e0⟩, fun b hb => ?_⟩]
    · rfl
    · obtain ⟨g, hg, rfl⟩ := List.mem_map.mp hb
      obtain ⟨k, ek⟩ := List.getElem?_of_mem hg
      rw [hup k g ek]
      exact Int.le_refl _
  have es : maxS (hear hs (beatL nk cs cs.length)) ≤ cs.length := by
    unfold maxS
    cases q : ((hear hs (beatL nk cs cs.length)).map fun h => (h.since : Int)).max? with
    | none => show (0 : Int) ≤ _; omega
    | some x =>
      obtain ⟨g, hg, e⟩ := List.mem_map.mp (List.max?_eq_some_iff.mp q).1
      obtain ⟨k, ek⟩ := List.getElem?_of_mem hg
      have := ((i'.2 k g ek).ok cs.length (hup k g ek)).2
      have := lof_take_le cs cs.length k
      show x ≤ _
      omega
  unfold wholeM
  rw [em, if_neg (by omega), if_pos (by omega)]
  congr 2
  apply List.ext_getElem?
  intro k
  rw [List.getElem?_map]
  cases ek : (hear hs (beatL nk cs cs.length))[k]? with
  | none =>
    have := List.getElem?_eq_none_iff.mp ek
    rw [List.getElem?_eq_none (by rw [wrow_len]; omega)]
    rfl
  | some g =>
    have hk : k < nk := by
      have := (List.getElem?_eq_some_iff.mp ek).1
      omega
    rw [wrow_get hk]
    show some g.worth = some (wof cs k)
    rw [((i'.2 k g ek).ok cs.length (hup k g ek)).1, List.take_length]
/-! a story that goes on -/
theorem IsLet.on {nk : Nat} {cs ds : List Ch} {l : Letter} (h : IsLet nk cs l) : IsLet nk (cs ++ ds) l := by
  have tk : ∀ {n : Nat}, n ≤ cs.length → (cs ++ ds).take n = cs.take n := fun hn => List.take_append_of_le_length hn
  cases h with
  | @change n c e =>
    have hn := (List.getElem?_eq_some_iff.mp e).1
    rw [← tk (Nat.le_of_lt hn)]
    exact .change (by rw [List.getElem?_append_left hn]; exact e)
  | @part n b e hn hbe hek =>
    have : partL cs n b e = partL (cs ++ ds) n b e := by
      unfold partL partRows
      rw [tk hn]
    rw [this]
    exact .part (by rw [List.length_append]; omega) hbe hek
  | @beat n hn =>
    have : beatL nk cs n = beatL nk (cs ++ ds) n := by
      unfold beatL
      rw [tk hn]
    rw [this]
    exact .beat (by rw [List.length_append]; omega)
theorem partL_on {cs ds : List Ch} {n b e : Nat} (hn : n ≤ cs.length) : partL (cs ++ ds) n b e = partL cs n b e := by
  unfold partL partRows
  rw [List.take_append_of_le_length hn]
theorem few_from {cs : List Ch} {k n0 : Nat} {h : HK} (i : KI cs k h) (lo : Lo n0 h) (hn : n0 ≤ cs.length) : h.aside.length + n0 ≤ cs.length := by
  have h1 := rise_len (a := n0) (b := cs.length) (srt_lt i.nd) fun n hn => by
    obtain ⟨a, ha, e⟩ := List.mem_map.mp ((srt_perm _).mem_iff.mp hn)
    have := lo a ha
    have := (i.as a ha).le
    omega
  rw [(srt_perm _).length_eq, asN, List.length_map, if_pos (by omega)] at h1
  omega
theorem nodup_from {l : List Int} {a b : Nat} (nd : l.Nodup) (h : ∀ n ∈ l, (a : Int) < n ∧ n ≤ b) (hab : a ≤ b) : l.length + a ≤ b := by
  have h1 := rise_len (a := a) (b := b) (srt_lt nd) fun n hn => h n ((srt_perm l).mem_iff.mp hn)
  rw [(srt_perm l).length_eq, if_pos (by omega)] at h1
  omega
end Cu

namespace Cu
open PySem PySem.Spec PyProof.Rows L2
/-! a board: where it lies -/
structure BA where
  p : Addr
  dx : Addr
  l1 : Addr
  l2 : Addr
  l3 : Addr
def bF (B : BA) (keep many : Int) : List (Str × V) := [("now", .ref B.l1), ("keep", .int keep), ("rows", .ref B.l2), ("many", .int many), ("last", .ref B.l3)]
/-- the letters that a board keeps -/
def tailL (keep : Nat) (cs : List Ch) : List Letter := (lets cs).drop (cs.length - keep)
structure BR (K : PySem.W.Frag) (C : Addr) (B : BA) (nk keep : Nat) (cs : List Ch) (H : Hp) (c : Lg) : Prop where
  ex : ∃ xs, c = [(B.p, HO.ins C B.dx (bF B keep cs.length)), (B.l1, HO.lst ((wrow nk cs).map V.int)), (B.l2, HO.lst xs), (B.l3, HO.lst ((lrow nk cs).map V.int))] ∧ RpL K H ((tailL keep cs).map Letter.enc) xs
section
variable {K : PySem.W.Frag} {C : Addr} {B : BA} {nk keep : Nat} {cs : List Ch} {H H' : Hp} {c : Lg}
theorem BR.mono (r : BR K C B nk keep cs H c) (m : Mono H H') : BR K C B nk keep cs H' c :=
  let ⟨xs, e, q⟩ := r.ex
  ⟨xs, e, q.mono m⟩
theorem BR.at_p (r : BR K C B nk keep cs H c) (h : Has H c) : H B.p = some (.ins C B.dx (bF B keep cs.length)) := by
  obtain ⟨xs, rfl, _⟩ := r.ex
  exact h.head
theorem BR.at1 (r : BR K C B nk keep cs H c) (h : Has H c) : H B.l1 = some (.lst ((wrow nk cs).map V.int)) := by
  obtain ⟨xs, rfl, _⟩ := r.ex
  exact h.tail.head
theorem BR.at3 (r : BR K C B nk keep cs H c) (h : Has H c) : H B.l3 = some (.lst ((lrow nk cs).map V.int)) := by
  obtain ⟨xs, rfl, _⟩ := r.ex
  exact h.tail.tail.tail.head
theorem BR.at2 (r : BR K C B nk keep cs H c) (h : Has H c) : ∃ xs, H B.l2 = some (.lst xs) ∧ RpL K H ((tailL keep cs).map Letter.enc) xs := by
  obtain ⟨xs, rfl, q⟩ := r.ex
  exact ⟨xs, h.tail.tail.head, q⟩
end
/-- what a class of boards is -/
structure CBo (K : PySem.W.Frag) (C : Addr) : Prop where
  cl : Cls K C
  n1 : NoAttr K C "now"
  n2 : NoAttr K C "keep"
  n3 : NoAttr K C "rows"
  n4 : NoAttr K C "many"
  n5 : NoAttr K C "last"
theorem bF1 (B : BA) (a b : Int) : (bF B a b).lookup ("now" : Str) = some (.ref B.l1) := by rfl
theorem bF2 (B : BA) (a b : Int) : (bF B a b).lookup ("keep" : Str) = some (.int a) := by rfl
theorem bF3 (B : BA) (a b : Int) : (bF B a b).lookup ("rows" : Str) = some (.ref B.l2) := by rfl
theorem bF4 (B : BA) (a b : Int) : (bF B a b).lookup ("many" : Str) = some (.int b) := by rfl
theorem bF5 (B : BA) (a b : Int) : (bF B a b).lookup ("last" : Str) = some (.ref B.l3) := by rfl
theorem tailL_len (keep : Nat) (cs : List Ch) : (tailL keep cs).length = min cs.length keep := by
  unfold tailL
  rw [List.length_drop, lets_length]
  omega
theorem tailL_snoc (keep : Nat) (cs : List Ch) (ch : Ch) : tailL keep (cs ++ [ch]) = if cs.length + 1 ≤ keep then tailL keep cs ++ [Letter.change (cs.length + 1) ch (lof cs ch.key)] else (tailL keep cs ++ [Letter.change (cs.length + 1) ch (lof cs ch.key)]).drop 1 := by
  unfold tailL
  rw [lets_snoc, List.length_append]
  show List.drop (cs.length + 1 - keep) _ = _
  split
  · rw [show cs.length + 1 - keep = 0 by omega, show cs.length - keep = 0 by omega]
    rfl
  · rw [List.drop_append, List.drop_append, List.drop_drop, List.length_drop, lets_length]
    rw [show cs.length - keep + 1 = cs.length + 1 - keep by omega, show cs.length + 1 - keep - cs.length = 1 - (cs.length - (cs.length - keep)) by omega]
theorem wdS (b : Bool) : decide (V.str (wd b) = V.str "set") = b := by cases b <;> decide +kernel
/-! promises -/
def spBinit (K : PySem.W.Frag) (C : Addr) : Sp := fun vs H Q _ => vs.length = 3 ∧ ∃ (p dx : Addr) (nk keep : Nat), vs = [.ref p, .int nk, .int keep] ∧ 0 < nk ∧ nk ≤ 8 ∧ keep ≤ 20 ∧ H p = some (.ins C dx []) ∧
  ∀ (B : BA) (c : Lg) (H' : Hp), B.p = p → BR K C B nk keep [] H' c → Tr H [(p, .ins C dx [])] H' c → Q .non H'
def spBnumber (K : PySem.W.Frag) (C : Addr) : Sp := fun vs H Q _ => vs.length = 1 ∧ ∃ (B : BA) (nk keep : Nat) (cs : List Ch) (c : Lg), vs = [.ref B.p] ∧ BR K C B nk keep cs H c ∧ Has H c ∧ Q (.int cs.length) H
def spBworths (K : PySem.W.Frag) (C : Addr) : Sp := fun vs H Q _ => vs.length = 1 ∧ ∃ (B : BA) (nk keep : Nat) (cs : List Ch) (c : Lg), vs = [.ref B.p] ∧ BR K C B nk keep cs H c ∧ Has H c ∧ ∀ (r : Addr) (H' : Hp), Tr H [] H' [(r, .lst ((wrow nk cs).map V.int))] → Q (.ref r) H'
def spBlasts (K : PySem.W.Frag) (C : Addr) : Sp := fun vs H Q _ => vs.length = 1 ∧ ∃ (B : BA) (nk keep : Nat) (cs : List Ch) (c : Lg), vs = [.ref B.p] ∧ BR K C B nk keep cs H c ∧ Has H c ∧ ∀ (r : Addr) (H' : Hp), Tr H [] H' [(r, .lst ((lrow nk cs).map V.int))] → Q (.ref r) H'
def spBtail (K : PySem.W.Frag) (C : Addr) : Sp := fun vs H Q _ => vs.length = 1 ∧ ∃ (B : BA) (nk keep : Nat) (cs : List Ch) (c : Lg), vs = [.ref B.p] ∧ BR K C B nk keep cs H c ∧ Has H c ∧
  ∀ (r : Addr) (xs : List V) (H' : Hp), Tr H [] H' [(r, .lst xs)] → RpL K H' ((tailL keep cs).map Letter.enc) xs → Q (.ref r) H'
def spBchange (K : PySem.W.Frag) (C : Addr) : Sp := fun vs H Q _ => vs.length = 4 ∧ ∃ (B : BA) (nk keep : Nat) (cs : List Ch) (c : Lg) (ch : Ch), vs = [.ref B.p, .int ch.key, .str (wd ch.set), .int ch.worth] ∧ BR K C B nk keep cs H c ∧ Has H c ∧ ch.key < nk ∧ nk ≤ 8 ∧ keep ≤ 20 ∧
  ∀ (v : V) (c' : Lg) (H' : Hp), BR K C B nk keep (cs ++ [ch]) H' c' → Tr H c H' c' → Rp K H' (Letter.change (cs.length + 1) ch (lof cs ch.key)).enc v → Q v H'
def spBpart (K : PySem.W.Frag) (C : Addr) : Sp := fun vs H Q _ => vs.length = 3 ∧ ∃ (B : BA) (nk keep : Nat) (cs : List Ch) (c : Lg) (b e : Nat), vs = [.ref B.p, .int b, .int e] ∧ BR K C B nk keep cs H c ∧ Has H c ∧ b < e ∧ e ≤ nk ∧ nk ≤ 8 ∧
  ∀ (v : V) (H' : Hp), Grow H H' → Rp K H' (partL cs cs.length b e).enc v → Q v H'
def spBbeat (K : PySem.W.Frag) (C : Addr) : Sp := fun vs H Q _ => vs.length = 1 ∧ ∃ (B : BA) (nk keep : Nat) (cs : List Ch) (c : Lg), vs = [.ref B.p] ∧ BR K C B nk keep cs H c ∧ Has H c ∧
  ∀ (v : V) (H' : Hp), Grow H H' → Rp K H' (beatL nk cs cs.length).enc v → Q v H'
abbrev s_Board_init : Stmt := (inClass (top 10) 0)
theorem sc_Board_init : FnScope ["self", "keys", "keep", "key"] ["self", "keys", "keep"] (defScope s_Board_init) := ⟨rfl, rfl, rfl, by decide +kernel, rfl, by decide +kernel, by decide +kernel⟩

abbrev s_Board_number : Stmt := (inClass (top 10) 2)
theorem sc_Board_number : FnScope ["self"] ["self"] (defScope s_Board_number) := ⟨rfl, rfl, rfl, by decide +kernel, rfl, by decide +kernel, by decide +kernel⟩

abbrev s_Board_worths : Stmt := (inClass (top 10) 3)
theorem sc_Board_worths : FnScope ["self"] ["self"] (defScope s_Board_worths) := ⟨rfl, rfl, rfl, by decide +kernel, rfl, by decide +kernel, by decide +kernel⟩

abbrev s_Board_lasts : Stmt := (inClass (top 10) 4)
theorem sc_Board_lasts : FnScope ["self"] ["self"] (defScope s_Board_lasts) := ⟨rfl, rfl, rfl, by decide +kernel, rfl, by decide +kernel, by decide +kernel⟩

abbrev s_Board_tail : Stmt := (inClass (top 10) 5)
theorem sc_Board_tail : FnScope ["self"] ["self"] (defScope s_Board_tail) := ⟨rfl, rfl, rfl, by decide +kernel, rfl, by decide +kernel, by decide +kernel⟩

abbrev s_Board_change : Stmt := (inClass (top 10) 6)
theorem sc_Board_change : FnScope ["self", "key", "word", "worth", "letter"] ["self", "key", "word", "worth"] (defScope s_Board_change) := ⟨rfl, rfl, rfl, by decide +kernel, rfl, by decide +kernel, by decide +kernel⟩

abbrev s_Board_part : Stmt := (inClass (top 10) 7)
theorem sc_Board_part : FnScope ["self", "begin", "end", "rows", "key"] ["self", "begin", "end"] (defScope s_Board_part) := ⟨rfl, rfl, rfl, by decide +kernel, rfl, by decide +kernel, by decide +kernel⟩

abbrev s_Board_beat : Stmt := (inClass (top 10) 8)
theorem sc_Board_beat : FnScope ["self"] ["self"] (defScope s_Board_beat) := ⟨rfl, rfl, rfl, by decide +kernel, rfl, by decide +kernel, by decide +kernel⟩

end Cu

namespace Cu
open PySem PySem.Spec PyProof.Rows L2
section
variable {P : Program} {w : World} {K : PySem.W.Frag} {mg : Str → Option Value} {base : Heap} {C : Addr}
theorem ok_Binit {tk tk2 : Tok} (F : Kd K mg "Board" C "Board.__init__" s_Board_init) (Bm : Blt mg) (CBoard : CBo K C) (km_MOST_KEYS : mg "MOST_KEYS" = some (.int 8 tk)) (km_MOST_TAIL : mg "MOST_TAIL" = some (.int 20 tk2)) : Kf P w K mg base 1 "Board" C ["self", "keys", "keep"] (spBinit K C) := by
  refine F.ok sc_Board_init (fun _ _ _ _ _ _ us hl => match us, hl with | [_, _, _], _ => rfl) len_of fun qual f cdv A0 outer s H vs Q E hr h => ?_
  obtain ⟨_, p, dx, nk, keep, rfl, hk, hk8, hkp, hp, go⟩ := h
  refine ⟨_, (pss_cons (ps_if (PW.pt (pw_or (pt_not (pt_chain op_le op_le pe_int (pv 1) (pe_glob (v := .int 8) rfl km_MOST_KEYS ⟨_, rfl⟩))) (pw_or1 (pt_not (pt_chain op_le op_le pe_int (pv 2) (pe_glob (v := .int 20) rfl km_MOST_TAIL ⟨_, rfl⟩))))))
        (pss_one ps_never)
        pss_nil)
      (pss_cons (ps_fld (pv 0) (pe_I (pe_lc (own := [("key", 3)]) (g := (gName 3)) (tt := tYes) rfl sc_Board_init.nd (pi_range1 rfl Bm.range (pa_cons (pv 1) pa_nil)) (blkOk_by (N := ["self", "keys", "keep", "key"]) (sc := defScope s_Board_init) (by decide +kernel)) (fun _ _ _ _ _ => (pg_name (i := 3) sc_Board_init.nd rfl (Or.inl rfl))) (fun _ _ _ _ _ => pts_nil) (fun _ _ _ _ _ => pe_int))) rfl)
      (pss_cons (ps_fld (pv 0) (pv 2) rfl)
      (pss_cons (ps_fld (pv 0) (pe_lst pa_nil) rfl)
      (pss_cons (ps_fld (pv 0) pe_int rfl)
      (pss_one (ps_fld (pv 0) (pe_I (pe_lc (own := [("key", 3)]) (g := (gName 3)) (tt := tYes) rfl sc_Board_init.nd (pi_range1 rfl Bm.range (pa_cons (pv 1) pa_nil)) (blkOk_by (N := ["self", "keys", "keep", "key"]) (sc := defScope s_Board_init) (by decide +kernel)) (fun _ _ _ _ _ => (pg_name (i := 3) sc_Board_init.nd rfl (Or.inl rfl))) (fun _ _ _ _ _ => pts_nil) (fun _ _ _ _ _ => pe_int))) rfl))))))), ?_⟩
  have h0 := Has.one hp nins
  refine ⟨_, rfl, _, _, rfl, rfl, _, rfl, iteP (decide_eq_true (by omega)) ⟨_, _, rfl, rfl, _, rfl, iteM (by simp; omega) ?_⟩⟩
  refine ⟨_, rfl, _, _, rfl, rfl, _, rfl, iteP (decide_eq_true (by omega)) ⟨_, _, rfl, rfl, _, rfl, iteM (by simp; omega) ?_⟩⟩
  refine rd_const (v := .int 0) (by rfl) hk8 (fun _ => rfl) (fun _ _ _ q => q) fun p1 H1 t1 => ?_
  have s1 := (show Tr H [(p, .ins C dx [])] H1 [(p1, .lst (List.replicate nk (.int 0))), (p, .ins C dx [])] from t1.right (D := [(p, .ins C dx [])])).swap2
  refine ⟨_, rfl, p, C, dx, [], rfl, (s1.now h0).head, CBoard.cl, CBoard.n1, (by show 0 < 1000; decide), ?_⟩
  have s2 := s1.put (o' := .ins C dx [("now", .ref p1)]) h0 nins
  refine ⟨_, rfl, _, rfl, p, C, dx, [("now", .ref p1)], rfl, (s2.now h0).head, CBoard.cl, CBoard.n2, (by show 1 < 1000; decide), ?_⟩
  have s3 := s2.put (o' := .ins C dx [("now", .ref p1), ("keep", .int keep)]) h0 nins
  refine ⟨(by show 0 ≤ sizeLine; decide), fun p2 hp2 => ?_⟩
  have s4 := (s3.new (o := .lst []) hp2 nl).swap2
  refine ⟨_, rfl, p, C, dx, [("now", .ref p1), ("keep", .int keep)], rfl, (s4.now h0).head, CBoard.cl, CBoard.n3, (by show 2 < 1000; decide), ?_⟩
  have s5 := s4.put (o' := .ins C dx [("now", .ref p1), ("keep", .int keep), ("rows", .ref p2)]) h0 nins
  refine ⟨_, rfl, p, C, dx, [("now", .ref p1), ("keep", .int keep), ("rows", .ref p2)], rfl, (s5.now h0).head, CBoard.cl, CBoard.n4, (by show 3 < 1000; decide), ?_⟩
  have s6 := s5.put (o' := .ins C dx [("now", .ref p1), ("keep", .int keep), ("rows", .ref p2), ("many", .int 0)]) h0 nins
  refine rd_const (v := .int 0) (by rfl) hk8 (fun _ => rfl) (fun _ _ _ q => q) fun p3 H3 t3 => ?_
  have s7 := (s6.trans (t3.right (D := [(p, .ins C dx [("now", .ref p1), ("keep", .int keep), ("rows", .ref p2), ("many", .int 0)]), (p2, .lst []), (p1, .lst (List.replicate nk (.int 0)))]))).swap2
  refine ⟨_, rfl, p, C, dx, [("now", .ref p1), ("keep", .int keep), ("rows", .ref p2), ("many", .int 0)], rfl, (s7.now h0).head, CBoard.cl, CBoard.n5, (by show 4 < 1000; decide), ?_⟩
  have s8 := s7.put (o' := .ins C dx [("now", .ref p1), ("keep", .int keep), ("rows", .ref p2), ("many", .int 0), ("last", .ref p3)]) h0 nins
  have e0 : ∀ n : Nat, (List.replicate n (0 : Int)).map V.int = List.replicate n (V.int 0) := fun n => List.map_replicate
  refine go ⟨p, dx, p1, p2, p3⟩ _ _ rfl ⟨[], ?_, by unfold tailL; rw [lets_nil, List.drop_nil]; exact .nil⟩ (s8.perm (List.Perm.cons _ (List.reverse_perm [(p1, HO.lst (List.replicate nk (V.int 0))), (p2, HO.lst []), (p3, HO.lst (List.replicate nk (V.int 0)))])))
  rw [wrow_nil, lrow_nil, e0]
  rfl
end
end Cu

namespace Cu
open PySem PySem.Spec PyProof.Rows L2
section
variable {P : Program} {w : World} {K : PySem.W.Frag} {mg : Str → Option Value} {base : Heap} {C : Addr}
theorem ok_Bnumber (F : Md K C "number" "Board.number" s_Board_number) (Bm : Blt mg) (CBoard : CBo K C) : Mf P w K mg base 1 C "number" ["self"] (spBnumber K C) := by
  refine F.ok sc_Board_number (fun _ _ _ _ _ _ us hl => match us, hl with | [_], _ => rfl) len_of fun qual f cdv A0 outer s H vs Q E hr h => ?_
  obtain ⟨_, B, nk, keep, cs, c, rfl, r, hc, go⟩ := h
  refine ⟨_, (pss_one (ps_ret (pe_fld (pv 0) rfl))), ?_⟩
  exact ⟨_, rfl, _, C, _, _, _, rfl, r.at_p hc, CBoard.cl, CBoard.n4, bF4 B _ _, go⟩
end
end Cu

namespace Cu
open PySem PySem.Spec PyProof.Rows L2
section
variable {P : Program} {w : World} {K : PySem.W.Frag} {mg : Str → Option Value} {base : Heap} {C : Addr}
theorem ok_Bworths (F : Md K C "worths" "Board.worths" s_Board_worths) (Bm : Blt mg) (CBoard : CBo K C) : Mf P w K mg base 1 C "worths" ["self"] (spBworths K C) := by
  refine F.ok sc_Board_worths (fun _ _ _ _ _ _ us hl => match us, hl with | [_], _ => rfl) len_of fun qual f cdv A0 outer s H vs Q E hr h => ?_
  obtain ⟨_, B, nk, keep, cs, c, rfl, r, hc, go⟩ := h
  refine ⟨_, (pss_one (ps_ret (pe_callTy call_list_of rfl Bm.list (by decide +kernel) (pa_cons (pe_fld (pv 0) rfl) pa_nil)))), ?_⟩
  exact ⟨_, rfl, _, C, _, _, _, rfl, r.at_p hc, CBoard.cl, CBoard.n1, bF1 B _ _, _, _, rfl, .inl (SqL.of (r.at1 hc)), fun l hl => go l _ ((Tr.refl H []).new hl nl)⟩
end
end Cu

namespace Cu
open PySem PySem.Spec PyProof.Rows L2
section
variable {P : Program} {w : World} {K : PySem.W.Frag} {mg : Str → Option Value} {base : Heap} {C : Addr}
theorem ok_Blasts (F : Md K C "lasts" "Board.lasts" s_Board_lasts) (Bm : Blt mg) (CBoard : CBo K C) : Mf P w K mg base 1 C "lasts" ["self"] (spBlasts K C) := by
  refine F.ok sc_Board_lasts (fun _ _ _ _ _ _ us hl => match us, hl with | [_], _ => rfl) len_of fun qual f cdv A0 outer s H vs Q E hr h => ?_
  obtain ⟨_, B, nk, keep, cs, c, rfl, r, hc, go⟩ := h
  refine ⟨_, (pss_one (ps_ret (pe_callTy call_list_of rfl Bm.list (by decide +kernel) (pa_cons (pe_fld (pv 0) rfl) pa_nil)))), ?_⟩
  exact ⟨_, rfl, _, C, _, _, _, rfl, r.at_p hc, CBoard.cl, CBoard.n5, bF5 B _ _, _, _, rfl, .inl (SqL.of (r.at3 hc)), fun l hl => go l _ ((Tr.refl H []).new hl nl)⟩
end
end Cu

namespace Cu
open PySem PySem.Spec PyProof.Rows L2
section
variable {P : Program} {w : World} {K : PySem.W.Frag} {mg : Str → Option Value} {base : Heap} {C : Addr}
theorem ok_Bbeat (F : Md K C "beat" "Board.beat" s_Board_beat) (Bm : Blt mg) (CBoard : CBo K C) : Mf P w K mg base 1 C "beat" ["self"] (spBbeat K C) := by
  refine F.ok sc_Board_beat (fun _ _ _ _ _ _ us hl => match us, hl with | [_], _ => rfl) len_of fun qual f cdv A0 outer s H vs Q E hr h => ?_
  obtain ⟨_, B, nk, keep, cs, c, rfl, r, hc, go⟩ := h
  refine ⟨_, (pss_one (ps_ret (pe_tup (pa_cons pe_str (pa_cons (pe_fld (pv 0) rfl) (pa_cons (pe_callTy call_tuple_of rfl Bm.tuple (by decide +kernel) (pa_cons (pe_fld (pv 0) rfl) pa_nil)) pa_nil)))))), ?_⟩
  refine ⟨_, rfl, _, C, _, _, _, rfl, r.at_p hc, CBoard.cl, CBoard.n4, bF4 B _ _, _, rfl, _, C, _, _, _, rfl, r.at_p hc, CBoard.cl, CBoard.n5, bF5 B _ _, B.l3, _, rfl, .inl ⟨SqL.of (r.at3 hc), fun l hl => ⟨(by show 3 ≤ sizeLine; decide), fun t ht => ?_⟩⟩⟩
  refine go _ _ (((Grow.refl H).old hl).old ht) (.tup upd_same (.cons .str (.cons .int (.cons (.tup ((Mono.new ht) _ _ upd_same trivial) ?_) .nil))))
  have : ((List.range nk).map fun k => lof (cs.take cs.length) k).map (fun k : Nat => PyData.int k) = (lrow nk cs).map PyData.int := by
    rw [lrow, List.map_map, List.map_map, List.take_length]
    rfl
  rw [this]
  exact RpL.of_ints _
end
end Cu

namespace Cu
open PySem PySem.Spec PyProof.Rows L2
section
variable {P : Program} {w : World} {K : PySem.W.Frag} {mg : Str → Option Value} {base : Heap} {C : Addr}
theorem ok_Bpart (F : Md K C "part" "Board.part" s_Board_part) (Bm : Blt mg) (CBoard : CBo K C) : Mf P w K mg base 1 C "part" ["self", "begin", "end"] (spBpart K C) := by
  refine F.ok sc_Board_part (fun _ _ _ _ _ _ us hl => match us, hl with | [_, _, _], _ => rfl) len_of fun qual f cdv A0 outer s H vs Q E hr h => ?_
  obtain ⟨_, B, nk, keep, cs, c, b, e, rfl, r, hc, hbe, hek, hk8, go⟩ := h
  refine ⟨_, (pss_cons (ps_if (pt_not (pt_chain3 op_le op_lt op_le pe_int (pv 1) (pv 2) (pe_callB call_len_seq rfl Bm.len (by decide +kernel) (pa_cons (pe_fld (pv 0) rfl) pa_nil))))
        (pss_one ps_never)
        pss_nil)
      (pss_cons (ps_setLc (i := 3) (own := [("key", 4)]) (g := (gName 4)) (tt := tYes) rfl sc_Board_part.nd rfl rfl (sw_true rfl rfl rfl (by decide +kernel)) (pi_range2 rfl Bm.range (pa_cons (pv 1) (pa_cons (pv 2) pa_nil))) (blkOk_by (N := ["self", "begin", "end", "rows", "key"]) (sc := defScope s_Board_part) (by decide +kernel)) (fun _ _ _ _ _ => (pg_name (i := 4) sc_Board_part.nd rfl (Or.inl rfl))) (fun _ _ _ _ _ => pts_nil) (fun _ _ _ _ _ => (pe_tup (pa_cons (pe_ix (ix_listK K rfl) (pe_fldK K rfl (pv 0) rfl) (pv 4) (fun _ _ => rfl)) (pa_cons (pe_ix (ix_listK K rfl) (pe_fldK K rfl (pv 0) rfl) (pv 4) (fun _ _ => rfl)) pa_nil)))))
      (pss_one (ps_ret (pe_tup (pa_cons pe_str (pa_cons (pe_fld (pv 0) rfl) (pa_cons (pv 1) (pa_cons (pe_callTy call_tuple_of rfl Bm.tuple (by decide +kernel) (pa_cons (pv 3) pa_nil)) pa_nil))))))))), ?_⟩
  refine ⟨_, rfl, _, _, rfl, rfl, _, rfl, iteP (decide_eq_true (by omega)) ⟨_, rfl, _, _, rfl, rfl, _, rfl, iteP (decide_eq_true (by omega)) ⟨_, rfl, _, C, _, _, _, rfl, r.at_p hc, CBoard.cl, CBoard.n1, bF1 B _ _, _, _, rfl, .inl (SqL.of (r.at1 hc)), _, _, rfl, rfl, _, rfl, iteM (by rw [List.length_map, wrow_len]; simp; omega) ?_⟩⟩⟩
  have up : ∀ {H2 : Hp} {O : Lg}, Tr H [] H2 O → Has H2 c ∧ BR K C B nk keep cs H2 c := fun t => ⟨(t.has c hc).right, r.mono t.mono⟩
  refine ⟨_, rfl, _, rfl, _, _, rfl, ⟨by omega, by omega, by omega, by omega⟩, fun D hD => ?_⟩
  refine lc_range (lo := b) (n := ((e : Int) - b).toNat) (fun i H2 => ∃ xs, Tr H [] H2 [(D, .lst xs)] ∧ RpL K H2 ((partRows cs cs.length b i).map fun r => .tuple [.int r.1, .int r.2]) xs)
    ⟨[], (Tr.refl H []).new hD nl, .nil⟩ ?_ ?_
  · rintro i H2 hi ⟨xs, t2, rx⟩
    have hbi : b + i < nk := by omega
    have e1 : ((b : Int) + i) = ((b + i : Nat) : Int) := by omega
    have u := up t2
    refine ⟨rfl, ?_⟩
    refine ⟨_, rfl, _, C, _, _, _, rfl, u.2.at_p u.1, CBoard.cl, CBoard.n1, bF1 B _ _, _, rfl, _, _, _, _, rfl, rfl, SqL.of (u.2.at1 u.1), at_of (j := b + i) e1 (by rw [List.getElem?_map, wrow_get hbi]; rfl),
      _, rfl, _, C, _, _, _, rfl, u.2.at_p u.1, CBoard.cl, CBoard.n5, bF5 B _ _, _, rfl, _, _, _, _, rfl, rfl, SqL.of (u.2.at3 u.1), at_of (j := b + i) e1 (by rw [List.getElem?_map, lrow_get hbi]; rfl), ⟨(by show 2 ≤ sizeLine; decide), fun t ht => ?_⟩⟩
    obtain ⟨s3, r3⟩ := snoc_tup (K := K) (ds := [.int (wof cs (b + i)), .int (lof cs (b + i))]) t2.own ht (.cons .int (.cons .int .nil))
    have hx : xs.length = i := by rw [rx.length, List.length_map, partRows, List.length_map, List.length_range]
    refine ⟨xs, by rw [upd_ne (ne_of_none t2.own.head ht)]; exact t2.own.head, by rw [hx]; exact small1000 (by omega), xs ++ [.ref t], t2.trans s3, ?_⟩
    unfold partRows at rx ⊢
    rw [List.take_length] at rx ⊢
    rw [List.range_succ, List.map_append, List.map_append]
    exact (rx.mono s3.mono).snoc r3
  · rintro H2 ⟨xs, t2, rx⟩
    have e2 : ((e : Int) - b).toNat = e - b := by omega
    rw [e2] at rx
    have u := up t2
    refine ⟨_, rfl, _, C, _, _, _, rfl, u.2.at_p u.1, CBoard.cl, CBoard.n4, bF4 B _ _, _, rfl, _, rfl, D, xs, rfl, .inl ⟨SqL.of t2.own.head, fun l hl => ⟨(by show 4 ≤ sizeLine; decide), fun t ht => ?_⟩⟩⟩
    have g := ((t2.old (o := .tup xs) hl).old (o := .tup [.str "part", .int cs.length, .int b, .ref l]) ht).tail
    refine go _ _ g (.tup upd_same (.cons .str (.cons .int (.cons .int (.cons (.tup ((Mono.new ht) _ _ upd_same trivial) (rx.mono ((Mono.new hl).trans (Mono.new ht)))) .nil)))))
end
end Cu

namespace Cu
open PySem PySem.Spec PyProof.Rows L2
section
variable {P : Program} {w : World} {K : PySem.W.Frag} {mg : Str → Option Value} {base : Heap} {C : Addr}
theorem ok_Bchange (F : Md K C "change" "Board.change" s_Board_change) (Bm : Blt mg) (CBoard : CBo K C) : Mf P w K mg base 1 C "change" ["self", "key", "word", "worth"] (spBchange K C) := by
  refine F.ok sc_Board_change (fun _ _ _ _ _ _ us hl => match us, hl with | [_, _, _, _], _ => rfl) len_of fun qual f cdv A0 outer s H vs Q E hr h => ?_
  obtain ⟨_, B, nk, keep, cs, c, ch, rfl, r, hc, hk, hk8, hkp, go⟩ := h
  refine ⟨_, (pss_cons (ps_if (pt_not (pt_chain op_le op_lt pe_int (pv 1) (pe_callB call_len_seq rfl Bm.len (by decide +kernel) (pa_cons (pe_fld (pv 0) rfl) pa_nil))))
        (pss_one ps_never)
        pss_nil)
      (pss_cons (ps_if (pt_cmpR op_notIn_seq (pv 2) (pe_tup (pa_cons pe_str (pa_cons pe_str pa_nil))) (by rfl))
        (pss_one ps_never)
        pss_nil)
      (pss_cons (ps_fld (pv 0) (pe_op op_add (pe_fld (pv 0) rfl) pe_int) rfl)
      (pss_cons (ps_set (i := 4) sc_Board_change.nd rfl (Or.inl rfl) (pe_tup (pa_cons pe_str (pa_cons (pe_fld (pv 0) rfl) (pa_cons (pv 1) (pa_cons (pv 2) (pa_cons (pv 3) (pa_cons (pe_ix ix_list (pe_fld (pv 0) rfl) (pv 1) (fun _ _ => rfl)) pa_nil))))))))
      (pss_cons (ps_mid (ps_asg (pe_ifExp (pt_cmpR op_eq (pv 2) pe_str (nomark _)) (pv 3) (pe_op op_add (pe_ix ix_list (pe_fld (pv 0) rfl) (pv 1) (fun _ _ => rfl)) (pv 3))) (pg_sub (pe_fld (pv 0) rfl) (pv 1) set_list)))
      (pss_cons (ps_asg (pe_fld (pv 0) rfl) (pg_sub (pe_fld (pv 0) rfl) (pv 1) set_list))
      (pss_cons (ps_expr (pe_bm PySem.F.plainAttrs_list PySem.F.slot_list_append PySem.F.type_list_append mt_append (pe_fld (pv 0) rfl) (pa_cons (pv 4) pa_nil)))
      (pss_cons (ps_mid (ps_if (pt_cmpR op_gt (pe_callB call_len_seq rfl Bm.len (by decide +kernel) (pa_cons (pe_fld (pv 0) rfl) pa_nil)) (pe_fld (pv 0) rfl) (nomark _))
        (pss_one (ps_expr (pe_bm PySem.F.plainAttrs_list PySem.F.slot_list_pop PySem.F.type_list_pop mt_popAt (pe_fld (pv 0) rfl) (pa_cons pe_int pa_nil))))
        pss_nil))
      (pss_one (ps_ret (pv 4))))))))))), ?_⟩
  refine ⟨_, rfl, _, _, rfl, rfl, _, rfl, iteP (decide_eq_true (by omega)) ⟨_, rfl, _, C, _, _, _, rfl, r.at_p hc, CBoard.cl, CBoard.n1, bF1 B _ _, _, _, rfl, .inl (SqL.of (r.at1 hc)), _, _, rfl, rfl, _, rfl, iteM (by rw [List.length_map, wrow_len]; simp; omega) ?_⟩⟩
  refine ⟨_, rfl, ⟨(by show 2 ≤ sizeLine; decide), fun t1 ht1 => ⟨t1, _, rfl, .inr (SqT.of upd_same), rfl, rfl, _, rfl, iteM (by cases ch.set <;> decide +kernel) ?_⟩⟩⟩
  obtain ⟨xs, ec, rxs⟩ := r.ex
  subst ec
  have u0 := (Tr.refl H [(B.p, HO.ins C B.dx (bF B keep cs.length)), (B.l1, HO.lst ((wrow nk cs).map V.int)), (B.l2, HO.lst xs), (B.l3, HO.lst ((lrow nk cs).map V.int))]).old (o := .tup [V.str "set", .str "add"]) ht1
  have h0 := u0.now hc
  have n1 : ((cs.length : Int) + 1) = ((cs.length + 1 : Nat) : Int) := by omega
  refine ⟨_, rfl, _, C, _, _, _, rfl, h0.head, CBoard.cl, CBoard.n4, bF4 B _ _, _, _, rfl, rfl, _, rfl, B.p, C, B.dx, _, rfl, h0.head, CBoard.cl, CBoard.n4, (by show 5 < 1000; decide), ?_⟩
  have u1 := u0.put (o' := .ins C B.dx (bF B keep ((cs.length : Int) + 1))) hc nins
  have h1 := u1.now hc
  have gl : (lrow nk cs)[ch.key]? = some (lof cs ch.key : Int) := lrow_get hk
  have gw : (wrow nk cs)[ch.key]? = some (wof cs ch.key) := wrow_get hk
  -- letter
  refine ⟨_, rfl, _, C, _, _, _, rfl, h1.head, CBoard.cl, CBoard.n4, bF4 B _ _, _, rfl, _, rfl, _, rfl, _, rfl, _, C, _, _, _, rfl, h1.head, CBoard.cl, CBoard.n5, bF5 B _ _, _, rfl, _, _, _, _, rfl, rfl, SqL.of h1.tail.tail.tail.head, at_of (j := ch.key) rfl (by rw [List.getElem?_map, gl]; rfl), ⟨(by show 6 ≤ sizeLine; decide), fun tl htl => ?_⟩⟩
  have u2 := u1.old (o := .tup [V.str "change", .int ((cs.length : Int) + 1), .int ch.key, .str (wd ch.set), .int ch.worth, .int (lof cs ch.key)]) htl
  have h2 := u2.now hc
  have htl2 : (upd (upd (upd H t1 (.tup [V.str "set", .str "add"])) B.p (.ins C B.dx (bF B keep ((cs.length : Int) + 1)))) tl (.tup [V.str "change", .int ((cs.length : Int) + 1), .int ch.key, .str (wd ch.set), .int ch.worth, .int (lof cs ch.key)])) tl = some (HO.tup [V.str "change", .int ((cs.length : Int) + 1), .int ch.key, .str (wd ch.set), .int ch.worth, .int (lof cs ch.key)]) := upd_same
  -- self.now[key] = ..
  have ix1 : ∀ (g : List Int), g.length = nk → ixN (g.map V.int).length (ch.key : Int) = some ch.key := fun g e => ixN_nat (by rw [List.length_map, e]; exact hk)
  have ew : (wrow nk (cs ++ [ch])).map V.int = ((wrow nk cs).map V.int).set ch.key (.int (wst ch.key (wof cs ch.key) ch)) := by rw [wrow_snoc, List.map_set]
  have el : (lrow nk (cs ++ [ch])).map V.int = ((lrow nk cs).map V.int).set ch.key (.int ((cs.length + 1 : Nat) : Int)) := by rw [lrow_snoc, List.map_set]
  refine rd_mid (fun σ' H' => σ' = [some (.ref B.p), some (.int ch.key), some (.str (wd ch.set)), some (.int ch.worth), some (.ref tl)] ∧ H' = upd (upd (upd (upd H t1 (.tup [V.str "set", .str "add"])) B.p (.ins C B.dx (bF B keep ((cs.length : Int) + 1)))) tl (.tup [V.str "change", .int ((cs.length : Int) + 1), .int ch.key, .str (wd ch.set), .int ch.worth, .int (lof cs ch.key)])) B.l1 (.lst ((wrow nk (cs ++ [ch])).map V.int))) ?_ ?_
  · refine ⟨_, rfl, rfl, _, rfl, ite2 (fun hs => ?_) fun hs => ?_⟩
    · rw [wdS] at hs
      refine ⟨_, rfl, _, rfl, _, C, _, _, _, rfl, h2.head, CBoard.cl, CBoard.n1, bF1 B _ _, _, rfl, _, _, _, _, rfl, rfl, h2.tail.head, ix1 _ (wrow_len nk cs), rfl, ?_⟩
      exact congrArg (fun z => upd _ _ (HO.lst z)) (by rw [ew, wst, if_pos rfl, if_pos hs, Int.zero_add])
    · rw [wdS] at hs
      refine ⟨_, rfl, _, C, _, _, _, rfl, h2.head, CBoard.cl, CBoard.n1, bF1 B _ _, _, rfl, _, _, _, _, rfl, rfl, SqL.of h2.tail.head, at_of (j := ch.key) rfl (by rw [List.getElem?_map, gw]; rfl), _, rfl, _, _, rfl, rfl, ?_⟩
      refine ⟨_, rfl, _, C, _, _, _, rfl, h2.head, CBoard.cl, CBoard.n1, bF1 B _ _, _, rfl, _, _, _, _, rfl, rfl, h2.tail.head, ix1 _ (wrow_len nk cs), rfl, ?_⟩
      exact congrArg (fun z => upd _ _ (HO.lst z)) (by rw [ew, wst, if_pos rfl, if_neg hs])
  rintro _ _ ⟨rfl, rfl⟩
  have u3 := (u2.swap2.put (o' := .lst ((wrow nk (cs ++ [ch])).map V.int)) hc nl).swap2
  have h3 := u3.now hc
  -- self.last[key] = self.many
  refine ⟨_, rfl, _, C, _, _, _, rfl, h3.head, CBoard.cl, CBoard.n4, bF4 B _ _, _, rfl, _, C, _, _, _, rfl, h3.head, CBoard.cl, CBoard.n5, bF5 B _ _, _, rfl, _, _, _, _, rfl, rfl, h3.tail.tail.tail.head, ix1 _ (lrow_len nk cs), ?_⟩
  have u4 := ((u3.perm (List.reverse_perm _).symm).put (o' := .lst (((lrow nk cs).map V.int).set ch.key (.int ((cs.length : Int) + 1)))) hc nl).perm (List.reverse_perm _).symm
  have h4 := u4.now hc
  -- self.rows.append(letter)
  have hxs : xs.length ≤ 20 := by
    rw [rxs.length, List.length_map, tailL_len]
    omega
  refine ⟨_, rfl, _, C, _, _, _, rfl, h4.head, CBoard.cl, CBoard.n3, bF3 B _ _, .inl ⟨rfl, _, SqL.of h4.tail.tail.head⟩, _, rfl, _, _, _, rfl, rfl, h4.tail.tail.head, small1000 (by omega), ?_⟩
  have u5 := ((((u4.perm (List.reverse_perm _).symm).swap2.put (o' := .lst (xs ++ [.ref tl])) hc nl).swap2).perm (List.reverse_perm _).symm)
  have h5 := u5.now hc
  have m25 := ((h2.swap2.mono_put (o' := .lst ((wrow nk (cs ++ [ch])).map V.int))).trans ((h3.perm (List.reverse_perm _).symm).mono_put (o' := .lst (((lrow nk cs).map V.int).set ch.key (.int ((cs.length : Int) + 1)))))).trans ((h4.perm (List.reverse_perm _).symm).swap2.mono_put (o' := .lst (xs ++ [.ref tl])))
  have htl5 := m25 tl _ htl2 trivial
  have rl := Rp.tup (K := K) (ds := [.str "change", .int ((cs.length + 1 : Nat) : Int), .int ch.key, .str (wd ch.set), .int ch.worth, .int (lof cs ch.key)]) htl5 (by
    rw [← n1]
    exact .cons .str (.cons .int (.cons .int (.cons .str (.cons .int (.cons .int .nil))))))
  have rxs5 := (rxs.mono u5.mono).snoc rl
  have e5 : (tailL keep cs).map Letter.enc ++ [PyData.tuple [.str "change", .int ((cs.length + 1 : Nat) : Int), .int ch.key, .str (wd ch.set), .int ch.worth, .int (lof cs ch.key)]] = (tailL keep cs ++ [Letter.change (cs.length + 1) ch (lof cs ch.key)]).map Letter.enc := by
    rw [List.map_append]
    rfl
  rw [e5] at rxs5
  have hx5 : xs.length = min cs.length keep := by rw [rxs.length, List.length_map, tailL_len]
  have efin : ∀ (ys : List V) (H' : Hp), Tr H [(B.p, HO.ins C B.dx (bF B keep cs.length)), (B.l1, HO.lst ((wrow nk cs).map V.int)), (B.l2, HO.lst xs), (B.l3, HO.lst ((lrow nk cs).map V.int))] H'
      [(B.p, HO.ins C B.dx (bF B keep ((cs.length : Int) + 1))), (B.l1, HO.lst ((wrow nk (cs ++ [ch])).map V.int)), (B.l2, HO.lst ys), (B.l3, HO.lst (((lrow nk cs).map V.int).set ch.key (.int ((cs.length : Int) + 1))))] →
      RpL K H' ((tailL keep (cs ++ [ch])).map Letter.enc) ys → Rp K H' (Letter.change (cs.length + 1) ch (lof cs ch.key)).enc (.ref tl) → Q (.ref tl) H' := fun ys H' u q ql => by
    refine go _ _ H' ⟨ys, ?_, q⟩ u ql
    rw [n1, ← el, List.length_append]
    rfl
  refine rd_mid (fun σ' H' => σ' = [some (.ref B.p), some (.int ch.key), some (.str (wd ch.set)), some (.int ch.worth), some (.ref tl)] ∧ Q (.ref tl) H') ?_ ?_
  · refine ⟨_, rfl, _, C, _, _, _, rfl, h5.head, CBoard.cl, CBoard.n3, bF3 B _ _, _, _, rfl, .inl (SqL.of h5.tail.tail.head), _, rfl, _, C, _, _, _, rfl, h5.head, CBoard.cl, CBoard.n2, bF2 B _ _, _, _, rfl, rfl, _, rfl, ite2 (fun h0 => ?_) fun h0 => ?_⟩
    · have hgt := of_decide_eq_true h0
      rw [List.length_append, List.length_singleton] at hgt
      obtain ⟨y, ys, ey⟩ : ∃ y ys, xs ++ [V.ref tl] = y :: ys := by
        cases xs with
        | nil => exact ⟨_, _, rfl⟩
        | cons a b => exact ⟨_, _, rfl⟩
      refine ⟨_, rfl, _, C, _, _, _, rfl, h5.head, CBoard.cl, CBoard.n3, bF3 B _ _, .inl ⟨rfl, _, SqL.of h5.tail.tail.head⟩, B.l2, _, 0, 0, y, rfl, rfl, h5.tail.tail.head, by decide, by decide, (by rw [List.length_append, List.length_singleton]; simp [seqIndex?]), (by rw [ey]; rfl), rfl, ?_⟩
      have u6 := ((((u5.perm (List.reverse_perm _).symm).swap2.put (o' := .lst ((xs ++ [V.ref tl]).eraseIdx 0)) hc nl).swap2).perm (List.reverse_perm _).symm)
      have m6 := (h5.perm (List.reverse_perm _).symm).swap2.mono_put (o' := .lst ((xs ++ [V.ref tl]).eraseIdx 0))
      refine efin _ _ u6 ?_ (rl.mono m6)
      have ed : (xs ++ [V.ref tl]).drop 1 = (xs ++ [V.ref tl]).eraseIdx 0 := by rw [List.eraseIdx_zero, List.drop_one]
      have q := (rxs5.drop 1).mono m6
      rw [ed] at q
      rw [tailL_snoc, if_neg (by omega), List.map_drop]
      exact q
    · have hle : ¬ ((keep : Int) < ((xs ++ [V.ref tl]).length : Nat)) := fun q => h0 (decide_eq_true q)
      rw [List.length_append, List.length_singleton] at hle
      refine ⟨rfl, efin _ _ u5 ?_ rl⟩
      rw [tailL_snoc, if_pos (by omega)]
      exact rxs5
  rintro _ H9 ⟨rfl, q⟩
  exact ⟨_, rfl, q⟩
end
end Cu

namespace Cu
open PySem PySem.Spec PyProof.Rows L2
theorem bFno {B : BA} {a b : Int} {m : Str} (h : ((bF B a b).lookup m) = none := by rfl) : (bF B a b).lookup m = none := h
section
variable {K : PySem.W.Frag} {H : Hp} {C : Addr} {σ : L2.St} {Q : VK} {i : Nat} {B : BA} {nk keep : Nat} {cs : List Ch} {c : Lg}
theorem rd_bnumber (h1 : σ[i]? = some (some (.ref B.p))) (r : BR K C B nk keep cs H c) (hc : Has H c) (q : Q (.int cs.length) H) :
    tMeth C "number" (spBnumber K C) [] E0 (tVar i) tNil σ H Q := ⟨_, h1, B.p, _, _, rfl, r.at_p hc, bFno, rfl, B, nk, keep, cs, c, rfl, r, hc, q⟩
theorem rd_bworths (h1 : σ[i]? = some (some (.ref B.p))) (r : BR K C B nk keep cs H c) (hc : Has H c) (q : ∀ p H', Grow H H' → FzL K H' p ((wrow nk cs).map V.int) → Q (.ref p) H') :
    tFz (tMeth C "worths" (spBworths K C) [] E0 (tVar i) tNil) σ H Q :=
  rd_fz ⟨_, h1, B.p, _, _, rfl, r.at_p hc, bFno, rfl, B, nk, keep, cs, c, rfl, r, hc, fun _ _ t => ⟨_, _, rfl, t.own.head, fun _ => q _ _ (t.fz .nil) FzL.frz⟩⟩
theorem rd_blasts (h1 : σ[i]? = some (some (.ref B.p))) (r : BR K C B nk keep cs H c) (hc : Has H c) (q : ∀ p H', Grow H H' → FzL K H' p ((lrow nk cs).map V.int) → Q (.ref p) H') :
    tFz (tMeth C "lasts" (spBlasts K C) [] E0 (tVar i) tNil) σ H Q :=
  rd_fz ⟨_, h1, B.p, _, _, rfl, r.at_p hc, bFno, rfl, B, nk, keep, cs, c, rfl, r, hc, fun _ _ t => ⟨_, _, rfl, t.own.head, fun _ => q _ _ (t.fz .nil) FzL.frz⟩⟩
theorem rd_bbeat (h1 : σ[i]? = some (some (.ref B.p))) (r : BR K C B nk keep cs H c) (hc : Has H c) (q : ∀ v H', Grow H H' → Rp K H' (beatL nk cs cs.length).enc v → Q v H') :
    tMeth C "beat" (spBbeat K C) [] E0 (tVar i) tNil σ H Q := ⟨_, h1, B.p, _, _, rfl, r.at_p hc, bFno, rfl, B, nk, keep, cs, c, rfl, r, hc, q⟩
theorem rd_btail (h1 : σ[i]? = some (some (.ref B.p))) (r : BR K C B nk keep cs H c) (hc : Has H c) (q : ∀ p xs H', Grow H H' → FzL K H' p xs → RpL K H' ((tailL keep cs).map Letter.enc) xs → Q (.ref p) H') :
    tFz (tMeth C "tail" (spBtail K C) [] E0 (tVar i) tNil) σ H Q :=
  rd_fz ⟨_, h1, B.p, _, _, rfl, r.at_p hc, bFno, rfl, B, nk, keep, cs, c, rfl, r, hc, fun _ xs _ t rx => ⟨_, _, rfl, t.own.head, fun _ => q _ xs _ (t.fz .nil) FzL.frz (rx.mono t.own.mono_put)⟩⟩
end
end Cu

namespace Cu
open PySem PySem.Spec PyProof.Rows L2
abbrev s_counts : Stmt := (top 17)
theorem sc_counts : FnScope ["_law_d", "_law_keys"] ["_law_d"] (defScope s_counts) := ⟨rfl, rfl, rfl, by decide +kernel, rfl, by decide +kernel, by decide +kernel⟩

def spCounts (K : PySem.W.Frag) : Sp := fun vs H Q _ => vs.length = 1 ∧ ∃ (a : Addr) (R : Lg), vs = [.ref a] ∧ Dice K H a R ∧
  ∀ (nk keep : Nat) (t : Addr) (H' : Hp), 0 < nk → nk ≤ 8 → keep ≤ 20 → Mono H H' → Dice K H' a R → H' t = some (.tup [.int nk, .int keep]) → Q (.ref t) H'
section
variable {P : Program} {w : World} {K : PySem.W.Frag} {mg : Str → Option Value} {base : Heap}
theorem ok_counts (F : Fd K mg "_law_counts" s_counts) (Bm : Blt mg) (g_next : Gf P w K mg base 1 "_law_next" ["_law_dice_here", "_law_many"] (spNext K)) : Gf P w K mg base 2 "_law_counts" ["_law_d"] (spCounts K) := by
  refine F.ok sc_counts (fun _ _ _ _ _ _ us hl => match us, hl with | [_], _ => rfl) len_of fun qual f cdv A outer s H vs Q E hr h => ?_
  obtain ⟨_, a, R, rfl, d, go⟩ := h
  refine ⟨_, (pss_cons (ps_set (i := 1) sc_counts.nd rfl (Or.inl rfl) (pe_ix ix_list (pe_lst (pa_cons (pe_op op_add pe_int (pc g_next hr (pa_cons (pv 0) (pa_cons pe_int pa_nil)))) (pa_cons (pe_op op_add pe_int (pc g_next hr (pa_cons (pv 0) (pa_cons pe_int pa_nil)))) pa_nil))) (pc g_next hr (pa_cons (pv 0) (pa_cons pe_int pa_nil))) (fun _ _ => rfl)))
      (pss_one (ps_ret (pe_tup (pa_cons (pv 1) (pa_cons (pe_ix ix_list (pe_lst (pa_cons (pc g_next hr (pa_cons (pv 0) (pa_cons pe_int pa_nil))) (pa_cons (pc g_next hr (pa_cons (pv 0) (pa_cons pe_int pa_nil))) pa_nil))) (pc g_next hr (pa_cons (pv 0) (pa_cons pe_int pa_nil))) (fun _ _ => rfl)) pa_nil)))))), ?_⟩
  refine ⟨_, rfl, rfl, a, 3, R, rfl, by decide, by decide, d, fun r1 H1 p1 q1 m1 d1 => ⟨_, _, rfl, rfl, ?_⟩⟩
  refine ⟨_, rfl, rfl, a, 8, R, rfl, by decide, by decide, d1, fun r2 H2 p2 q2 m2 d2 => ⟨_, _, rfl, rfl, ?_⟩⟩
  refine ⟨(by show 2 ≤ sizeLine; decide), fun l hl => ?_⟩
  refine ⟨_, rfl, rfl, a, 2, _, rfl, by decide, by decide, d2.new (o := .lst [.int (1 + r1), .int (1 + r2)]) hl nl, fun r3 H3 p3 q3 m3 d3 => ?_⟩
  obtain ⟨v, hv, hm⟩ := at_some (xs := [.int (1 + r1), .int (1 + r2)]) p3 q3
  obtain ⟨nk, rfl, hk, hk8⟩ : ∃ nk : Nat, v = V.int nk ∧ 0 < nk ∧ nk ≤ 8 := by
    simp only [List.mem_cons, List.not_mem_nil, or_false] at hm
    rcases hm with e | e
    · exact ⟨(1 + r1).toNat, by rw [e]; congr 1; omega, by omega, by omega⟩
    · exact ⟨(1 + r2).toNat, by rw [e]; congr 1; omega, by omega, by omega⟩
  refine ⟨l, _, _, _, rfl, rfl, SqL.of d3.at_, hv, ?_⟩
  have d4 := d3.tail
  refine ⟨_, rfl, _, rfl, rfl, a, 7, R, rfl, by decide, by decide, d4, fun r5 H5 p5 q5 m5 d5 => ?_⟩
  refine ⟨_, rfl, rfl, a, 21, R, rfl, by decide, by decide, d5, fun r6 H6 p6 q6 m6 d6 => ⟨(by show 2 ≤ sizeLine; decide), fun l2 hl2 => ?_⟩⟩
  refine ⟨_, rfl, rfl, a, 2, _, rfl, by decide, by decide, d6.new (o := .lst [.int r5, .int r6]) hl2 nl, fun r7 H7 p7 q7 m7 d7 => ?_⟩
  obtain ⟨v, hv, hm⟩ := at_some (xs := [.int r5, .int r6]) p7 q7
  obtain ⟨keep, rfl, hkp⟩ : ∃ keep : Nat, v = V.int keep ∧ keep ≤ 20 := by
    simp only [List.mem_cons, List.not_mem_nil, or_false] at hm
    rcases hm with e | e
    · exact ⟨r5.toNat, by rw [e]; congr 1; omega, by omega⟩
    · exact ⟨r6.toNat, by rw [e]; congr 1; omega, by omega⟩
  refine ⟨l2, _, _, _, rfl, rfl, SqL.of d7.at_, hv, ⟨(by show 2 ≤ sizeLine; decide), fun t ht => ?_⟩⟩
  exact go nk keep t _ hk hk8 hkp (((((((m1.trans m2).trans (Mono.new hl)).trans m3).trans m5).trans m6).trans (Mono.new hl2)).trans (m7.trans (Mono.new ht))) (d7.tail.old ht) upd_same
end
end Cu

namespace Cu
open PySem PySem.Spec PyProof.Rows L2
/-! a letter puts aside one change of a key at most -/
theorem fold_alen : ∀ {L : List Int} {st : HK × List Int}, (L.foldl HK.fstep st).1.aside.length ≤ st.1.aside.length
  | [], _ => Nat.le_refl _
  | m :: L, st => by
    rw [List.foldl_cons]
    refine Nat.le_trans fold_alen ?_
    rcases fstep_cases st m with e | ⟨a, _, _, e⟩ | ⟨a, _, _, _, e⟩
    · rw [e]
      exact Nat.le_refl _
    · rw [e]
      exact List.length_filter_le _ _
    · rw [e]
      exact List.length_filter_le _ _
theorem free_alen (h : HK) : h.free.1.aside.length ≤ h.aside.length := fold_alen (st := (h, []))
theorem hearK_cnt {k : Nat} {h : HK} {l : Letter} : (hearK k h l).1.aside.length ≤ h.aside.length + 1 := by
  cases l with
  | change n c ahead =>
    simp only [hearK]
    split
    · unfold HK.chg
      split
      · exact Nat.le_succ _
      · split
        · show (putA h.aside _).length ≤ _
          unfold putA
          split
          · rw [List.length_map]
            exact Nat.le_succ _
          · rw [List.length_append]
            exact Nat.le_refl _
        · exact Nat.le_succ_of_le (free_alen (h.done n c.set c.worth))
    · exact Nat.le_succ _
  | part n b rows =>
    simp only [hearK]
    split
    · split
      · unfold HK.row
        split
        · rename_i r _ _
          exact Nat.le_succ_of_le (free_alen { h with worth := r.1, since := r.2, upto := n })
        · exact Nat.le_succ _
      · exact Nat.le_succ _
    · exact Nat.le_succ _
  | beat n lasts =>
    simp only [hearK]
    split
    · unfold HK.beat
      split <;> exact Nat.le_succ _
    · exact Nat.le_succ _
theorem hear_cnt {hs : List HK} {l : Letter} {b : Nat} (w : ∀ (k : Nat) (h : HK), hs[k]? = some h → h.aside.length ≤ b) : ∀ (k : Nat) (h : HK), (hear hs l)[k]? = some h → h.aside.length ≤ b + 1 := fun k h e => by
  obtain ⟨g, eg, rfl⟩ := hear_inv e
  have := w k g eg
  have := hearK_cnt (k := k) (h := g) (l := l)
  omega
theorem AllI.wfc {nk : Nat} {cs : List Ch} {hs : List HK} {b : Nat} (i : AllI nk cs hs) (w : ∀ (k : Nat) (h : HK), hs[k]? = some h → h.aside.length ≤ b) (hb : b < 122) : ∀ h ∈ hs, Wf h := fun h hm => by
  obtain ⟨k, e⟩ := List.getElem?_of_mem hm
  exact ⟨(i.2 k h e).nd, by have := w k h e; omega⟩
end Cu

namespace Cu
open PySem PySem.Spec PyProof.Rows L2
abbrev s_pool : Stmt := (top 22)
theorem sc_pool : FnScope ["_law_d", "_law_keys", "_law_keep", "_law_changes_here", "_law_board", "_law_worths", "_law_pool_here", "_law_key", "_law_word", "_law_worth_here", "_law_begin"] ["_law_d", "_law_keys", "_law_keep", "_law_changes_here"] (defScope s_pool) := ⟨rfl, rfl, rfl, by decide +kernel, rfl, by decide +kernel, by decide +kernel⟩

def worthsD (nk : Nat) (cs : List Ch) (n : Nat) : List PyData := (List.range n).map fun i => ilst (wrow nk (cs.take i))
def spPool (K : PySem.W.Frag) (CB : Addr) : Sp := fun vs H Q _ => vs.length = 4 ∧ ∃ (a : Addr) (nk keep : Nat) (cs : List Ch) (v : V) (R : Lg), vs = [.ref a, .int nk, .int keep, v] ∧ 0 < nk ∧ nk ≤ 8 ∧ keep ≤ 20 ∧ cs.length ≤ 300 ∧ (∀ c ∈ cs, c.key < nk) ∧ Dice K H a R ∧ Rp K H (.list (cs.map Ch.enc)) v ∧
  ∀ (ls : List Letter) (u : V) (H' : Hp), ls ≠ [] → ls.length ≤ 1000 → (∀ l ∈ ls, IsLet nk cs l) → Mono H H' → Dice K H' a R → Rp K H' (.tuple [.list (worthsD nk cs (cs.length + 1)), .list (ls.map Letter.enc)]) u → Q u H'
section
variable {P : Program} {w : World} {K : PySem.W.Frag} {mg : Str → Option Value} {base : Heap} {CB : Addr}
theorem ok_pool (F : Fd K mg "_law_pool" s_pool) (Bm : Blt mg) (CBoard : CBo K CB) (g_next : Gf P w K mg base 1 "_law_next" ["_law_dice_here", "_law_many"] (spNext K)) (k_Board : Kf P w K mg base 1 "Board" CB ["self", "keys", "keep"] (spBinit K CB))
    (m_Board_part : Mf P w K mg base 1 CB "part" ["self", "begin", "end"] (spBpart K CB)) (m_Board_change : Mf P w K mg base 1 CB "change" ["self", "key", "word", "worth"] (spBchange K CB)) (m_Board_worths : Mf P w K mg base 1 CB "worths" ["self"] (spBworths K CB)) (m_Board_beat : Mf P w K mg base 1 CB "beat" ["self"] (spBbeat K CB)) :
    Gf P w K mg base 3 "_law_pool" ["_law_d", "_law_keys", "_law_keep", "_law_changes_here"] (spPool K CB) := by
  refine F.ok sc_pool (fun _ _ _ _ _ _ us hl => match us, hl with | [_, _, _, _], _ => rfl) len_of fun qual f cdv A0 outer s H vs Q E hr h => ?_
  obtain ⟨_, a, nk, keep, cs, v, R, rfl, hk, hk8, hkp, hcl, hck, d, rv, go⟩ := h
  refine ⟨_, (pss_cons (ps_set (i := 4) sc_pool.nd rfl (Or.inl rfl) (pk k_Board hr (pa_cons (pv 1) (pa_cons (pv 2) pa_nil))))
      (pss_cons (ps_set (i := 5) sc_pool.nd rfl (Or.inl rfl) (pe_lst (pa_cons (pe_fz (pm0 (pv 4) CBoard.cl m_Board_worths hr)) pa_nil)))
      (pss_cons (ps_set (i := 6) sc_pool.nd rfl (Or.inl rfl) (pe_lst (pa_cons (pm0 (pv 4) CBoard.cl m_Board_beat hr) (pa_cons (pm (pv 4) CBoard.cl m_Board_part hr (pa_cons pe_int (pa_cons (pv 1) pa_nil))) pa_nil))))
      (pss_cons (ps_for PassesOwn.never rfl (pi_list (pv 3)) (pg_tup rfl (pgs_cons (pg_name (i := 7) sc_pool.nd rfl (Or.inl rfl)) (pgs_cons (pg_name (i := 8) sc_pool.nd rfl (Or.inl rfl)) (pgs_cons (pg_name (i := 9) sc_pool.nd rfl (Or.inl rfl)) pgs_nil))))
        (pss_cons (ps_expr (pe_bm PySem.F.plainAttrs_list PySem.F.slot_list_append PySem.F.type_list_append mt_append (pv 6) (pa_cons (pm (pv 4) CBoard.cl m_Board_change hr (pa_cons (pv 7) (pa_cons (pv 8) (pa_cons (pv 9) pa_nil)))) pa_nil)))
        (pss_cons (ps_expr (pe_bm PySem.F.plainAttrs_list PySem.F.slot_list_append PySem.F.type_list_append mt_append (pv 5) (pa_cons (pe_fz (pm0 (pv 4) CBoard.cl m_Board_worths hr)) pa_nil)))
        (pss_cons (ps_mid (ps_if (pt_cmpR op_eq (pc g_next hr (pa_cons (pv 0) (pa_cons pe_int pa_nil))) pe_int (nomark _))
          (pss_cons (ps_set (i := 10) sc_pool.nd rfl (Or.inl rfl) (pc g_next hr (pa_cons (pv 0) (pa_cons (pv 1) pa_nil))))
          (pss_one (ps_expr (pe_bm PySem.F.plainAttrs_list PySem.F.slot_list_append PySem.F.type_list_append mt_append (pv 6) (pa_cons (pm (pv 4) CBoard.cl m_Board_part hr (pa_cons (pv 10) (pa_cons (pe_op op_add (pe_op op_add (pv 10) pe_int) (pc g_next hr (pa_cons (pv 0) (pa_cons (pe_op op_sub (pv 1) (pv 10)) pa_nil)))) pa_nil))) pa_nil)))))
          pss_nil))
        (pss_one (ps_if (pt_cmpR op_eq (pc g_next hr (pa_cons (pv 0) (pa_cons pe_int pa_nil))) pe_int (nomark _))
          (pss_one (ps_expr (pe_bm PySem.F.plainAttrs_list PySem.F.slot_list_append PySem.F.type_list_append mt_append (pv 6) (pa_cons (pm0 (pv 4) CBoard.cl m_Board_beat hr) pa_nil))))
          pss_nil))))))
      (pss_one (ps_ret (pe_tup (pa_cons (pe_fz (pv 5)) (pa_cons (pe_fz (pv 6)) pa_nil))))))))), ?_⟩
  obtain ⟨al, xl, rfl, fl, rxl⟩ := rv.lst_inv
  have hxl : xl.length = cs.length := by rw [rxl.length, List.length_map]
  refine ⟨_, rfl, _, rfl, fun x1 dx1 hx1 hd1 hn1 => ?_⟩
  have t3 := mk_tr (C := CB) hx1 hd1 hn1
  refine ⟨rfl, x1, dx1, nk, keep, rfl, hk, hk8, hkp, upd_same, fun B cb H3 e1 R3 u3 => ⟨rfl, ?_⟩⟩
  subst e1
  have t3 := t3.trans u3
  have d3 := Dice.tr (C := []) d t3
  -- worths = [board.worths()]
  refine rd_bworths (by rfl) R3 d3.has.left fun p4 H4 g4 f4 => ⟨(by show 1 ≤ sizeLine; decide), fun w5 hw5 => ?_⟩
  have d5 := (d3.grow g4).new (o := .lst [.ref p4]) hw5 nl
  have m5 := g4.mono.trans (Mono.new (o := .lst [.ref p4]) hw5)
  have R5 := R3.mono m5
  -- pool = [board.beat(), board.part(0, keys)]
  refine rd_bbeat (by rfl) R5 d5.has.tail.left fun v6 H6 g6 r6 => ?_
  have d6 := d5.grow g6
  refine ⟨_, rfl, B.p, _, _, rfl, (R5.mono g6.mono).at_p d6.has.tail.left, bFno, _, rfl, rfl, B, nk, keep, [], cb, 0, nk, rfl, R5.mono g6.mono, d6.has.tail.left, hk, Nat.le_refl _, hk8, fun v7 H7 g7 r7 => ⟨(by show 2 ≤ sizeLine; decide), fun p8 hp8 => ?_⟩⟩
  have d8 := (d6.grow g7).new (o := .lst [v6, v7]) hp8 nl
  have mn8 := Mono.new (o := .lst [v6, v7]) hp8
  have m8 := (g6.mono.trans g7.mono).trans mn8
  have R8 := R5.mono m8
  have r6 := (r6.mono g7.mono).mono mn8
  have r7 := r7.mono mn8
  have f8 := (f4.mono (Mono.new (o := .lst [.ref p4]) hw5)).mono m8
  have mH8 := ((t3.mono.trans m5).trans m8)
  generalize upd H7 p8 (.lst [v6, v7]) = H8 at *
  have up : ∀ {n : Nat} {l : Letter}, IsLet nk (cs.take n) l → IsLet nk cs l := fun {n l} h => by
    have := h.on (ds := cs.drop n)
    rwa [List.take_append_drop] at this
  refine ⟨_, rfl, al, rfl, ⟨_, (fl.mono mH8).sq⟩, for_list (K := K) (a := al) (xs := xl) (fun i σ H9 => ∃ (cb : Lg) (ls : List Letter) (ws xs : List V) (v7 v8 v9 v10 : Option V), σ = [some (.ref a), some (.int nk), some (.int keep), some (.ref al), some (.ref B.p), some (.ref w5), some (.ref p8), v7, v8, v9, v10] ∧
      Mono H H9 ∧ Dice K H9 a ((p8, .lst xs) :: (w5, .lst ws) :: (cb ++ R)) ∧ BR K CB B nk keep (cs.take i) H9 cb ∧ RpL K H9 (ls.map Letter.enc) xs ∧ RpL K H9 (worthsD nk cs (i + 1)) ws ∧ (∀ l ∈ ls, IsLet nk cs l) ∧ ls ≠ [] ∧ ls.length ≤ 2 + 3 * i)
    ⟨cb, [beatL nk [] 0, partL [] 0 0 nk], [.ref p4], [v6, v7], none, none, none, none, rfl, mH8, d8, R8, .cons r6 (.cons r7 .nil), .cons (Rp.il f8) .nil, fun l hl => ?_, fun z => (nomatch z), Nat.le_refl _⟩ (fun i σ H9 _ ⟨_, _, _, _, _, _, _, _, _, m, _⟩ => (fl.mono m).sq) ?_ ?_⟩
  · refine up (n := 0) ?_
    simp only [List.mem_cons, List.not_mem_nil, or_false] at hl
    rcases hl with rfl | rfl
    · exact .beat (Nat.le_refl _)
    · exact .part (Nat.le_refl _) hk (Nat.le_refl _)
  · rintro i x σ H9 hi ⟨cb, ls, ws, xs, v7, v8, v9, v10, rfl, m9, d9, R9, rx9, rw9, hls, hne, hll⟩
    have hi' : i < cs.length := by
      have := (List.getElem?_eq_some_iff.mp hi).1
      omega
    obtain ⟨ch, ec⟩ : ∃ ch, cs[i]? = some ch := ⟨cs[i], List.getElem?_eq_getElem hi'⟩
    obtain ⟨u, eu, ru⟩ := (rxl.mono m9).get (i := i) (d := ch.enc) (by rw [List.getElem?_map, ec]; rfl)
    rw [hi] at eu
    cases eu
    obtain ⟨ac, rfl, hac⟩ := ru.ch_inv
    refine ⟨ac, _, rfl, SqT.of hac, rfl, _, _, rfl, _, _, rfl, _, _, rfl, rfl, ?_⟩
    have hb9 : Has H9 cb := d9.has.tail.tail.left
    have elen : (cs.take i).length = i := by
      rw [List.length_take]
      omega
    refine ⟨_, rfl, .inl ⟨rfl, _, SqL.of d9.at_⟩, _, rfl, B.p, _, _, rfl, R9.at_p hb9, bFno, _, rfl, _, rfl, _, rfl, rfl, B, nk, keep, cs.take i, cb, ch, rfl, R9, hb9, hck ch (List.mem_of_getElem? ec), hk8, hkp, fun v12 cb' H10 R10 t10 r10 => ?_⟩
    have d10 : Dice K H10 a ((p8, .lst xs) :: (w5, .lst ws) :: (cb' ++ R)) := d9.tr0 ((t10.right (D := R)).left (D := [(p8, .lst xs), (w5, .lst ws)]))
    rw [elen] at r10
    rw [← take_snoc ec] at R10
    have hx9 : xs.length = ls.length := by rw [rx9.length, List.length_map]
    refine ⟨_, _, _, rfl, rfl, d10.at_, small1000 (by omega), ?_⟩
    have m11 := d10.mput (o' := .lst (xs ++ [v12]))
    have d11 := d10.put (o' := .lst (xs ++ [v12])) nl
    have R11 := R10.mono m11
    -- worths.append(board.worths())
    refine ⟨_, rfl, .inl ⟨rfl, _, SqL.of d11.has.tail.head⟩, ?_⟩
    refine rd_bworths (by rfl) R11 d11.has.tail.tail.left fun p12 H12 g12 f12 => ?_
    have d12 := (d11.grow g12).perm (List.Perm.swap _ _ _)
    have hw9 : ws.length = i + 1 := by rw [rw9.length, worthsD, List.length_map, List.length_range]
    refine ⟨_, _, _, rfl, rfl, d12.at_, small1000 (by omega), ?_⟩
    have m13 := d12.mput (o' := .lst (ws ++ [.ref p12]))
    have d13 := (d12.put (o' := .lst (ws ++ [.ref p12])) nl).perm (List.Perm.swap _ _ _)
    have mm : Mono H9 _ := ((t10.mono.trans m11).trans g12.mono).trans m13
    have R13 := (R11.mono g12.mono).mono m13
    have rw13 : RpL K (upd H12 w5 (.lst (ws ++ [.ref p12]))) (worthsD nk cs (i + 1 + 1)) (ws ++ [.ref p12]) := by
      have e1 : worthsD nk cs (i + 1 + 1) = worthsD nk cs (i + 1) ++ [ilst (wrow nk (cs.take (i + 1)))] := by
        unfold worthsD
        rw [List.range_succ, List.map_append]
        rfl
      rw [e1]
      exact (rw9.mono mm).snoc (Rp.il (f12.mono m13))
    have rx13 : RpL K (upd H12 w5 (.lst (ws ++ [.ref p12]))) ((ls ++ [Letter.change (i + 1) ch (lof (cs.take i) ch.key)]).map Letter.enc) (xs ++ [v12]) := by
      rw [List.map_append]
      exact (rx9.mono mm).snoc (((r10.mono m11).mono g12.mono).mono m13)
    generalize upd H12 w5 (.lst (ws ++ [.ref p12])) = H13 at *
    have elen2 : (cs.take (i + 1)).length = i + 1 := by
      rw [List.length_take]
      omega
    refine rd_mid (fun σ H14 => ∃ (ls : List Letter) (xs : List V) (v7 v8 v9 v10 : Option V), σ = [some (.ref a), some (.int nk), some (.int keep), some (.ref al), some (.ref B.p), some (.ref w5), some (.ref p8), v7, v8, v9, v10] ∧
      Mono H13 H14 ∧ Dice K H14 a ((p8, .lst xs) :: (w5, .lst (ws ++ [.ref p12])) :: (cb' ++ R)) ∧ RpL K H14 (ls.map Letter.enc) xs ∧ (∀ l ∈ ls, IsLet nk cs l) ∧ ls ≠ [] ∧ ls.length ≤ 4 + 3 * i) ?_ ?_
    · have hls' : ∀ l ∈ ls ++ [Letter.change (i + 1) ch (lof (cs.take i) ch.key)], IsLet nk cs l := fun l hl => by
        rcases List.mem_append.mp hl with hl | hl
        · exact hls l hl
        · rw [List.mem_singleton.mp hl]
          exact .change ec
      have hl' : (ls ++ [Letter.change (i + 1) ch (lof (cs.take i) ch.key)]).length ≤ 3 + 3 * i := by
        rw [List.length_append]
        show ls.length + 1 ≤ _
        omega
      have hne' : ls ++ [Letter.change (i + 1) ch (lof (cs.take i) ch.key)] ≠ [] := by simp
      generalize ls ++ [Letter.change (i + 1) ch (lof (cs.take i) ch.key)] = ls at *
      generalize xs ++ [v12] = xs at *
      refine ⟨_, rfl, rfl, a, 3, _, rfl, by decide, by decide, d13, fun r14 H14 p14 q14 m14 d14 => ⟨rfl, _, rfl, ite2 (fun h => ?_) fun h => ?_⟩⟩
      · refine ⟨_, rfl, _, rfl, rfl, a, (nk : Int), _, rfl, by omega, by omega, d14, fun r15 H15 p15 q15 m15 d15 => ?_⟩
        obtain ⟨b, rfl, hb⟩ : ∃ b : Nat, r15 = b ∧ b < nk := ⟨r15.toNat, by omega, by omega⟩
        have hb15 : Has H15 cb' := (show Has H15 (cb' ++ R) from d15.has.tail.tail).left
        have R15 := (R13.mono m14).mono m15
        refine ⟨_, rfl, .inl ⟨rfl, _, SqL.of d15.at_⟩, _, rfl, B.p, _, _, rfl, R15.at_p hb15, bFno, _, rfl, _, rfl, _, _, rfl, rfl, _, rfl, _, rfl, _, rfl, _, _, rfl, rfl, rfl, a, (nk : Int) - b, _, rfl, by omega, by omega, d15, fun r16 H16 p16 q16 m16 d16 => ⟨_, _, rfl, rfl, ?_⟩⟩
        obtain ⟨e, ee⟩ : ∃ e : Nat, (b : Int) + 1 + r16 = e := ⟨((b : Int) + 1 + r16).toNat, by omega⟩
        have hb16 : Has H16 cb' := (show Has H16 (cb' ++ R) from d16.has.tail.tail).left
        refine ⟨rfl, B, nk, keep, cs.take (i + 1), cb', b, e, (by rw [← ee]; rfl), R15.mono m16, hb16, by omega, by omega, hk8, fun v17 H17 g17 r17 => ?_⟩
        have d17 := d16.grow g17
        have hx13 : xs.length = ls.length := by rw [rx13.length, List.length_map]
        refine ⟨_, _, _, rfl, rfl, d17.at_, small1000 (by omega), ?_⟩
        have m18 := d17.mput (o' := .lst (xs ++ [v17]))
        refine ⟨ls ++ [partL (cs.take (i + 1)) (cs.take (i + 1)).length b e], xs ++ [v17], _, _, _, _, rfl, (((m14.trans m15).trans m16).trans g17.mono).trans m18, d17.put nl, ?_, fun l hl => ?_, by simp, by rw [List.length_append]; show ls.length + 1 ≤ _; omega⟩
        · rw [List.map_append]
          exact (((((rx13.mono m14).mono m15).mono m16).mono g17.mono).snoc r17).mono m18
        · rcases List.mem_append.mp hl with hl | hl
          · exact hls' l hl
          · rw [List.mem_singleton.mp hl]
            exact up (.part (Nat.le_refl _) (by omega) (by omega))
      · exact ⟨ls, xs, _, _, _, _, rfl, m14, d14, rx13.mono m14, hls', hne', by omega⟩
    rintro σ H14 ⟨ls, xs, v7, v8, v9, v10, rfl, m14, d14, rx14, hls, hne, hll⟩
    refine ⟨_, rfl, rfl, a, 4, _, rfl, by decide, by decide, d14, fun r15 H15 p15 q15 m15 d15 => ⟨rfl, _, rfl, ite2 (fun h => ?_) fun h => ?_⟩⟩
    · have hb15 : Has H15 cb' := (show Has H15 (cb' ++ R) from d15.has.tail.tail).left
      have R15 := (R13.mono m14).mono m15
      refine ⟨_, rfl, .inl ⟨rfl, _, SqL.of d15.at_⟩, ?_⟩
      refine rd_bbeat (by rfl) R15 hb15 fun v16 H16 g16 r16 => ?_
      have d16 := d15.grow g16
      have hx14 : xs.length = ls.length := by rw [rx14.length, List.length_map]
      refine ⟨_, _, _, rfl, rfl, d16.at_, small1000 (by omega), ?_⟩
      have m17 := d16.mput (o' := .lst (xs ++ [v16]))
      refine ⟨cb', ls ++ [beatL nk (cs.take (i + 1)) (cs.take (i + 1)).length], _, xs ++ [v16], _, _, _, _, rfl, ((((m9.trans mm).trans m14).trans m15).trans g16.mono).trans m17, d16.put nl, (R15.mono g16.mono).mono m17, ?_, ((((rw13.mono m14).mono m15).mono g16.mono).mono m17), fun l hl => ?_, by simp, by rw [List.length_append]; show ls.length + 1 ≤ _; omega⟩
      · rw [List.map_append]
        exact ((((rx14.mono m15).mono g16.mono).snoc r16).mono m17)
      · rcases List.mem_append.mp hl with hl | hl
        · exact hls l hl
        · rw [List.mem_singleton.mp hl]
          exact up (.beat (Nat.le_refl _))
    · exact ⟨cb', ls, _, xs, _, _, _, _, rfl, ((m9.trans mm).trans m14).trans m15, d15, (R13.mono m14).mono m15, rx14.mono m15, (rw13.mono m14).mono m15, hls, hne, by omega⟩
  · rintro σ H9 ⟨cb, ls, ws, xs, v7, v8, v9, v10, rfl, m9, d9, R9, rx9, rw9, hls, hne, hll⟩
    rw [hxl] at rw9 hll
    have d9 := d9.perm (List.Perm.swap _ _ _)
    refine rd_fz ⟨_, rfl, w5, _, rfl, d9.at_, fun o1 => ?_⟩
    have m10 := d9.mfz (ob := o1)
    have d10 := d9.fz (ob := o1)
    refine rd_fz ⟨_, rfl, p8, _, rfl, d10.at_, fun o2 => ⟨(by show 2 ≤ sizeLine; decide), fun t ht => ?_⟩⟩
    have m11 := d10.mfz (ob := o2)
    have d11 := d10.fz (ob := o2)
    have d12 := (d11.old (o := .tup [.ref w5, .ref p8]) ht).sub (List.sublist_append_right cb R)
    have m12 := Mono.new (o := .tup [.ref w5, .ref p8]) ht
    have fw : FzL K (upd H9 w5 (.frz o1 (.lst ws))) w5 ws := FzL.frz
    have fx : FzL K (upd (upd H9 w5 (.frz o1 (.lst ws))) p8 (.frz o2 (.lst xs))) p8 xs := FzL.frz
    exact go ls _ _ hne (by omega) hls (((m9.trans m10).trans m11).trans m12) d12 (.tup upd_same (.cons (Rp.lst ((fw.mono m11).mono m12) (((rw9.mono m10).mono m11).mono m12)) (.cons (Rp.lst (fx.mono m12) (((rx9.mono m10).mono m11).mono m12)) .nil)))
end
end Cu

namespace Cu
open PySem PySem.Spec PyProof.Rows L2
abbrev s_right : Stmt := (top 23)
theorem sc_right : FnScope ["_law_hearer", "_law_worths", "_law_keys", "_law_key", "_law_found", "_law_worth_here", "_law_since", "_law_upto", "_law_whole", "_law_number"] ["_law_hearer", "_law_worths", "_law_keys"] (defScope s_right) := ⟨rfl, rfl, rfl, by decide +kernel, rfl, by decide +kernel, by decide +kernel⟩

theorem worthsD_get {nk n m : Nat} {cs : List Ch} (h : m < n) : (worthsD nk cs n)[m]? = some (ilst (wrow nk (cs.take m))) := by
  rw [worthsD, List.getElem?_map, List.getElem?_range h]
  rfl
theorem whole_min {hs : List HK} {n : Int} {ws : List Int} (h : wholeM hs = some (n, ws)) : n = minU hs := by
  unfold wholeM at h
  split at h
  · cases h
  · split at h
    · cases h
      rfl
    · cases h
def spRight (K : PySem.W.Frag) (C : Addr) : Sp := fun vs H Q _ => vs.length = 3 ∧ ∃ (A : HA) (hs : List HK) (c : Lg) (v : V) (nk : Nat) (cs : List Ch), vs = [.ref A.p, v, .int nk] ∧ 0 < nk ∧ nk ≤ 8 ∧ cs.length ≤ 300 ∧ HR K C A hs H c ∧ Has H c ∧ AllI nk cs hs ∧ Rp K H (.list (worthsD nk cs (cs.length + 1))) v ∧
  ∀ H', Grow H H' → Q (.bl true) H'
section
variable {P : Program} {w : World} {K : PySem.W.Frag} {mg : Str → Option Value} {base : Heap} {C : Addr}
theorem ok_right (F : Fd K mg "_law_right" s_right) (Bm : Blt mg) (CHearer : CHr K C) (m_Hearer_known : Mf P w K mg base 1 C "known" ["self"] (spKnown K C)) (m_Hearer_look : Mf P w K mg base 1 C "look" ["self", "key"] (spLook K C)) (m_Hearer_whole : Mf P w K mg base 1 C "whole" ["self"] (spWhole K C)) :
    Gf P w K mg base 2 "_law_right" ["_law_hearer", "_law_worths", "_law_keys"] (spRight K C) := by
  refine F.ok sc_right (fun _ _ _ _ _ _ us hl => match us, hl with | [_, _, _], _ => rfl) len_of fun qual f cdv A0 outer s H vs Q E hr h => ?_
  obtain ⟨_, A, hs, c, v, nk, cs, rfl, hk, hk8, hcl, r, hc, ai, rv, go⟩ := h
  refine ⟨_, (pss_cons (ps_for PassesOwn.never rfl (pi_range1 rfl Bm.range (pa_cons (pv 2) pa_nil)) (pg_name (i := 3) sc_right.nd rfl (Or.inr rfl))
        (pss_cons (ps_set (i := 4) sc_right.nd rfl (Or.inl rfl) (pm (pv 0) CHearer.cl m_Hearer_look hr (pa_cons (pv 3) pa_nil)))
        (pss_one (ps_if (pt_cmpR op_notN (pv 4) pe_non (nomark _))
          (pss_cons (ps_asg (pv 4) (pg_tup rfl (pgs_cons (pg_name (i := 5) sc_right.nd rfl (Or.inr rfl)) (pgs_cons (pg_name (i := 6) sc_right.nd rfl (Or.inl rfl)) (pgs_cons (pg_name (i := 7) sc_right.nd rfl (Or.inl rfl)) pgs_nil)))))
          (pss_cons (ps_if (PW.pt (pw_or (pt_not (pt_chain3 op_le op_le op_lt pe_int (pv 6) (pv 7) (pe_callB call_len_seq rfl Bm.len (by decide +kernel) (pa_cons (pv 1) pa_nil)))) (pw_or1 (pt_cmpR op_ne (pv 7) (pe_ix ix_list (pe_fz (pm0 (pv 0) CHearer.cl m_Hearer_known hr)) (pv 3) (fun _ _ => rfl)) (nomark _)))))
            (pss_one (ps_ret pe_bl))
            pss_nil)
          (pss_one (ps_if (pt_cmpR (op_neD hr.units) (pe_lc (own := [("_law_number", 9)]) (g := (gName 9)) rfl sc_right.nd (pi_range2 rfl Bm.range (pa_cons (pv 6) (pa_cons (pe_op op_add (pv 7) pe_int) pa_nil))) (blkOk_by (N := ["_law_hearer", "_law_worths", "_law_keys", "_law_key", "_law_found", "_law_worth_here", "_law_since", "_law_upto", "_law_whole", "_law_number"]) (sc := defScope s_right) (by decide +kernel)) (fun _ _ _ _ _ => (pg_name (i := 9) sc_right.nd rfl (Or.inl rfl))) (fun _ _ _ _ _ => (pts_one (pt_cmpR op_ne (pe_ix (ix_listK K rfl) (pe_ix (ix_listK K rfl) (pv 1) (pv 9) (fun _ _ => rfl)) (pv 3) (fun _ _ => rfl)) (pv 5) (nomark _)))) (fun _ _ _ _ _ => (pv 9))) (pe_lst pa_nil) (nomark _))
            (pss_one (ps_ret pe_bl))
            pss_nil))))
          pss_nil))))
      (pss_cons (ps_set (i := 8) sc_right.nd rfl (Or.inl rfl) (pe_fzw (pm0 (pv 0) CHearer.cl m_Hearer_whole hr)))
      (pss_one (ps_ret (pe_or (pe_cmpR op_isN (pv 8) pe_non (nomark _)) (pe_one (pe_and (pe_cmpR (op_eqD hr.units) (pe_ix ix_list (pv 1) (pe_ix ix_tup (pv 8) pe_int (fun _ _ => rfl)) (fun _ _ => rfl)) (pe_ix ix_tup (pv 8) pe_int (fun _ _ => rfl)) (nomark _)) (pe_one (pe_cmpR op_eq (pe_ix ix_tup (pv 8) pe_int (fun _ _ => rfl)) (pe_callB (cr_min rfl) rfl Bm.min (by decide +kernel) (pa_cons (pe_fz (pm0 (pv 0) CHearer.cl m_Hearer_known hr)) pa_nil)) (nomark _)))))))))), ?_⟩
  obtain ⟨av, xw, rfl, fw, rxw⟩ := rv.lst_inv
  have hxl : xw.length = cs.length + 1 := by rw [rxw.length, worthsD, List.length_map, List.length_range]
  have z0 : 0 ≤ sizeLine := by decide
  refine ⟨_, rfl, _, rfl, by omega, by omega, for_range (lo := 0) (n := (nk : Int).toNat) (fun i σ H2 => ∃ v3 v4 v5 v6 v7 : Option V, σ = [some (.ref A.p), some (.ref av), some (.int nk), v3, v4, v5, v6, v7, none, none] ∧ Grow H H2)
    ⟨_, _, _, _, _, rfl, Grow.refl H⟩ ?_ ?_⟩
  · rintro k σ H2 hkk ⟨v3, v4, v5, v6, v7, rfl, g2⟩
    have hkn : k < nk := by omega
    have ez : ((0 : Int) + k) = (k : Int) := by omega
    obtain ⟨h, eh⟩ : ∃ h, hs[k]? = some h := ⟨_, List.getElem?_eq_getElem (by rw [ai.1]; exact hkn)⟩
    have ki := ai.2 k h eh
    have hc2 := Grow.has' g2 hc
    refine rd_look (k := k) (by rfl) (r.mono g2.mono) hc2 (by rfl) ez eh fun w3 H3 g3 q3 => ?_
    have g23 := g2.trans g3
    by_cases hu : h.upto < 0
    · have e3 : w3 = .non := by
        unfold lookM at q3
        rw [if_pos hu] at q3
        exact Rp.none_iff.mp q3
      subst e3
      exact ⟨_, rfl, rfl, _, rfl, iteM (by decide) ⟨_, _, _, _, _, rfl, g23⟩⟩
    · obtain ⟨u, eu⟩ : ∃ u : Nat, h.upto = u := ⟨h.upto.toNat, by omega⟩
      obtain ⟨t, rfl, ht⟩ := q3.look_inv (by omega)
      obtain ⟨k1, k2⟩ := ki.ok u eu
      have k3 := lof_take_le cs u k
      have k4 := ki.hi
      refine ⟨_, rfl, rfl, _, rfl, iteP (by simp) ⟨_, rfl, t, _, rfl, SqT.of ht, rfl, _, _, rfl, _, _, rfl, _, _, rfl, rfl, ?_⟩⟩
      have m3 : Mono H H3 := g23.mono
      refine ⟨_, rfl, _, _, rfl, rfl, _, rfl, iteP (decide_eq_true (by omega)) ⟨_, rfl, _, _, rfl, rfl, _, rfl, iteP (decide_eq_true (by omega)) ⟨_, rfl, av, _, rfl, .inl (fw.mono m3).sq, _, _, rfl, rfl, _, rfl, iteM (by rw [hxl]; simp; omega) ⟨_, rfl, ?_⟩⟩⟩⟩
      refine rd_known (by rfl) (r.mono m3) (Grow.has' g23 hc) fun p4 H4 g4 f4 => ⟨_, rfl, p4, _, _, _, rfl, rfl, f4.sq, at_of (j := k) ez (by rw [List.getElem?_map, List.getElem?_map, eh]; rfl), rfl, _, rfl, iteM (by simp) ?_⟩
      have m4 : Mono H H4 := m3.trans g4.mono
      refine ⟨_, rfl, _, rfl, _, _, rfl, rfl, _, _, rfl, ⟨by omega, by omega, by omega, by omega⟩, fun D hD => ?_⟩
      refine lc_range (lo := (h.since : Int)) (n := (h.upto + 1 - (h.since : Int)).toNat) (fun m H5 => Tr H4 [] H5 [(D, .lst [])]) ((Tr.refl H4 []).new hD nl) ?_ ?_
      · rintro i H5 hi t5
        have hi' : h.since + i ≤ u := by omega
        obtain ⟨vr, hvr, rvr⟩ := (rxw.mono (m4.trans t5.mono)).get (worthsD_get (nk := nk) (cs := cs) (n := cs.length + 1) (m := h.since + i) (by omega))
        obtain ⟨pw, rfl, fpw⟩ := rvr.il_inv
        have ew : h.worth = wof (cs.take (h.since + i)) k := by
          rw [k1]
          exact (wof_const hi' (by omega)).1
        refine ⟨rfl, _, rfl, _, rfl, av, _, _, _, rfl, rfl, (fw.mono (m4.trans t5.mono)).sq, at_of (j := h.since + i) (by omega) hvr, _, rfl, pw, _, _, _, rfl, rfl, fpw.sq, at_of (j := k) ez (by rw [List.getElem?_map, wrow_get hkn]; rfl), _, rfl, rfl, _, rfl, iteM (by rw [ew]; simp) t5⟩
      · rintro H5 t5
        refine ⟨z0, fun e he => ⟨_, _, Dp.nil (by rw [upd_ne (ne_of_none t5.own.head he)]; exact t5.own.head), Dp.nil upd_same, (Gd.nil (n := 0)).shaped, (Gd.nil (n := 0)).shaped, _, rfl, ?_⟩⟩
        rw [(Gd.nil (n := 0)).refl]
        exact iteM (by decide) ⟨_, _, _, _, _, rfl, (g23.trans g4).trans (t5.tail.old he)⟩
  · rintro σ H2 ⟨v3, v4, v5, v6, v7, rfl, g2⟩
    refine rd_whole (by rfl) (r.mono g2.mono) (Grow.has' g2 hc) (by rw [ai.1]; exact hk) fun w3 H3 g3 q3 => ?_
    have g23 := g2.trans g3
    rcases q3.whole_inv with ⟨_, rfl⟩ | ⟨n, ws, t, p, hw, rfl, ht, fp⟩
    · exact ⟨_, rfl, rfl, _, rfl, iteP (by decide) (go _ g23)⟩
    · have en := whole_min hw
      obtain ⟨m, rfl, hm, rfl⟩ := whole_row ai hk hw
      obtain ⟨vr, hvr, rvr⟩ := (rxw.mono g23.mono).get (worthsD_get (nk := nk) (cs := cs) (n := cs.length + 1) (m := m) (by omega))
      obtain ⟨pw, rfl, fpw⟩ := rvr.il_inv
      refine ⟨_, rfl, rfl, _, rfl, iteM (by simp) ⟨_, rfl, _, rfl, t, _, _, _, rfl, rfl, SqT.of ht, rfl, av, _, _, _, rfl, rfl, (fw.mono g23.mono).sq, at_of (j := m) rfl hvr, _, rfl, t, _, _, _, rfl, rfl, SqT.of ht, rfl,
        _, _, Dp.il fpw.sq, Dp.il fp.sq, (Gd.ilst (n := 0) _).shaped, (Gd.ilst (n := 0) _).shaped, _, rfl, iteP (Gd.refl (Gd.ilst (n := 0) _)) ⟨_, rfl, t, _, _, _, rfl, rfl, SqT.of ht, rfl, ?_⟩⟩⟩
      refine rd_known (by rfl) (r.mono g23.mono) (Grow.has' g23 hc) fun p4 H4 g4 f4 => ⟨p4, _, rfl, f4.sq, by rw [List.length_map, ai.1]; exact hk, fun y m1 m2 => ⟨rfl, ?_⟩⟩
      have em : minU hs = y := by
        rw [minU, List.min?_eq_some_iff.mpr ⟨m1, m2⟩]
        rfl
      rw [decide_eq_true (by rw [← em, ← en])]
      exact go _ (g23.trans g4)
end
end Cu

namespace Cu
open PySem PySem.Spec PyProof.Rows L2
abbrev s_law : Stmt := (top 24)
theorem sc_law : FnScope ["_law_script", "_law_d", "_law_keys", "_law_keep", "_law_changes_here", "_law_worths", "_law_pool_here", "_law_hearer", "_law_done", "_law_near", "_law_turn", "_law_ahead", "_law_letter", "_law_number", "_law_same", "_law_one", "_law_key"] ["_law_script"] (defScope s_law) := ⟨rfl, rfl, rfl, by decide +kernel, rfl, by decide +kernel, by decide +kernel⟩

/-- of a key the numbers told rise -/
theorem heard_rise {nk : Nat} {cs : List Ch} {hs : List HK} {l : Letter} (i : AllI nk cs hs) (hl : IsLet nk cs l) : (heard hs l).Pairwise fun m n => ∀ k, IsN cs k m → IsN cs k n → m < n := by
  have at_ : ∀ (j : Nat) (x : List Int), (hs.mapIdx fun k h => (hearK k h l).2)[j]? = some x → ∃ g, hs[j]? = some g ∧ x = (hearK j g l).2 := fun j x hx => by
    rw [List.getElem?_mapIdx] at hx
    cases eh : hs[j]? with
    | none =>
      rw [eh] at hx
      cases hx
    | some g =>
      rw [eh] at hx
      exact ⟨g, rfl, (Option.some.inj hx).symm⟩
  unfold heard
  rw [List.pairwise_flatten]
  constructor
  · intro x hx
    obtain ⟨j, hj⟩ := List.getElem?_of_mem hx
    obtain ⟨g, eg, rfl⟩ := at_ j x hj
    exact (i.told hl eg).rise.imp fun h _ _ _ => h
  · rw [List.pairwise_iff_getElem]
    intro a b ha hb hab m hm n hn k hk1 hk2
    obtain ⟨g, eg, e1⟩ := at_ a _ (List.getElem?_eq_getElem ha)
    obtain ⟨g', eg', e2⟩ := at_ b _ (List.getElem?_eq_getElem hb)
    rw [e1] at hm
    rw [e2] at hn
    have q1 := ((i.told hl eg).num m hm).2.2.key hk1
    have q2 := ((i.told hl eg').num n hn).2.2.key hk2
    omega
theorem dn_len {cs : List Ch} {hs : List HK} {dn : List Int} (h : ∀ n ∈ dn, Dn cs hs n) (nd : dn.Nodup) : dn.length ≤ cs.length := nodup_len nd fun n hn => by
  obtain ⟨_, _, _, _, q⟩ := h n hn
  exact q.bd
section
variable {P : Program} {w : World} {K : PySem.W.Frag} {mg : Str → Option Value} {base : Heap} {C CB : Addr}
theorem ok_law {f : Addr} {fd : FuncData} (F : Fun K "law" "law" s_law f fd) (Bm : Blt mg) (CHearer : CHr K C) (CBoard : CBo K CB) (g_dice : Gf P w K mg base 1 "_law_dice" ["_law_script"] (spDice K)) (g_next : Gf P w K mg base 1 "_law_next" ["_law_dice_here", "_law_many"] (spNext K))
    (g_counts : Gf P w K mg base 2 "_law_counts" ["_law_d"] (spCounts K)) (g_changes : Gf P w K mg base 3 "_law_changes" ["_law_d", "_law_keys", "_law_most"] (spChanges K)) (g_pool : Gf P w K mg base 3 "_law_pool" ["_law_d", "_law_keys", "_law_keep", "_law_changes_here"] (spPool K CB)) (g_right : Gf P w K mg base 2 "_law_right" ["_law_hearer", "_law_worths", "_law_keys"] (spRight K C))
    (k_Hearer : Kf P w K mg base 1 "Hearer" C ["self", "keys"] (spHinit K C)) (m_Hearer_hear : Mf P w K mg base 4 C "hear" ["self", "letter"] (spHear K C)) (m_Hearer_known : Mf P w K mg base 1 C "known" ["self"] (spKnown K C)) : FnOk P w K mg base CX0 5 f fd ["_law_script"] (spLaw K) := by
  refine F.ok sc_law len_of fun cdv A0 outer s H vs Q E hr h => ?_
  obtain ⟨_, c, ns, rfl, hns, fc, go⟩ := h
  refine ⟨_, (pss_cons (ps_set (i := 1) sc_law.nd rfl (Or.inl rfl) (pc g_dice hr (pa_cons (pv 0) pa_nil)))
      (pss_cons (ps_asg (pc g_counts hr (pa_cons (pv 1) pa_nil)) (pg_tup rfl (pgs_cons (pg_name (i := 2) sc_law.nd rfl (Or.inl rfl)) (pgs_cons (pg_name (i := 3) sc_law.nd rfl (Or.inl rfl)) pgs_nil))))
      (pss_cons (ps_set (i := 4) sc_law.nd rfl (Or.inr rfl) (pc g_changes hr (pa_cons (pv 1) (pa_cons (pv 2) (pa_cons (pe_ix ix_list (pe_lst (pa_cons pe_int (pa_cons pe_int (pa_cons pe_int (pa_cons pe_int pa_nil))))) (pc g_next hr (pa_cons (pv 1) (pa_cons pe_int pa_nil))) (fun _ _ => rfl)) pa_nil)))))
      (pss_cons (ps_asg (pc g_pool hr (pa_cons (pv 1) (pa_cons (pv 2) (pa_cons (pv 3) (pa_cons (pv 4) pa_nil))))) (pg_tup rfl (pgs_cons (pg_name (i := 5) sc_law.nd rfl (Or.inl rfl)) (pgs_cons (pg_name (i := 6) sc_law.nd rfl (Or.inl rfl)) pgs_nil))))
      (pss_cons (ps_set (i := 7) sc_law.nd rfl (Or.inr rfl) (pk k_Hearer hr (pa_cons (pv 2) pa_nil)))
      (pss_cons (ps_set (i := 8) sc_law.nd rfl (Or.inl rfl) (pe_lst pa_nil))
      (pss_cons (ps_set (i := 9) sc_law.nd rfl (Or.inl rfl) pe_int)
      (pss_cons (ps_for PassesOwn.never rfl (pi_range1 rfl Bm.range (pa_cons (pc g_next hr (pa_cons (pv 1) (pa_cons pe_int pa_nil))) pa_nil)) (pg_name (i := 10) sc_law.nd rfl (Or.inl rfl))
        (pss_cons (ps_set (i := 11) sc_law.nd rfl (Or.inr rfl) (pe_fz (pm0 (pv 7) CHearer.cl m_Hearer_known hr)))
        (pss_cons (ps_set (i := 9) sc_law.nd rfl (Or.inl rfl) (pe_callB (call_min2 rfl) rfl Bm.min (by decide +kernel) (pa_cons (pe_op op_sub (pe_callB call_len_seq rfl Bm.len (by decide +kernel) (pa_cons (pv 6) pa_nil)) pe_int) (pa_cons (pe_op op_add (pv 9) (pc g_next hr (pa_cons (pv 1) (pa_cons pe_int pa_nil)))) pa_nil))))
        (pss_cons (ps_set (i := 12) sc_law.nd rfl (Or.inl rfl) (pe_ix ix_list (pv 6) (pe_ix ix_list (pe_lst (pa_cons (pv 9) (pa_cons (pe_callB (call_max2 rfl) rfl Bm.max (by decide +kernel) (pa_cons pe_int (pa_cons (pe_op op_sub (pv 9) (pc g_next hr (pa_cons (pv 1) (pa_cons pe_int pa_nil)))) pa_nil))) (pa_cons (pc g_next hr (pa_cons (pv 1) (pa_cons (pe_callB call_len_seq rfl Bm.len (by decide +kernel) (pa_cons (pv 6) pa_nil)) pa_nil))) pa_nil)))) (pc g_next hr (pa_cons (pv 1) (pa_cons pe_int pa_nil))) (fun _ _ => rfl)) (fun _ _ => rfl)))
        (pss_cons (ps_for PassesOwn.never rfl (pi_list (pm (pv 7) CHearer.cl m_Hearer_hear hr (pa_cons (pv 12) pa_nil))) (pg_name (i := 13) sc_law.nd rfl (Or.inr rfl))
          (pss_cons (ps_setLc (i := 14) (own := [("_law_one", 15)]) (g := (gName 15)) rfl sc_law.nd rfl rfl (sw_true rfl rfl rfl (by decide +kernel)) (pi_list (pv 8)) (blkOk_by (N := ["_law_script", "_law_d", "_law_keys", "_law_keep", "_law_changes_here", "_law_worths", "_law_pool_here", "_law_hearer", "_law_done", "_law_near", "_law_turn", "_law_ahead", "_law_letter", "_law_number", "_law_same", "_law_one", "_law_key"]) (sc := defScope s_law) (by decide +kernel)) (fun _ _ _ _ _ => (pg_name (i := 15) sc_law.nd rfl (Or.inl rfl))) (fun _ _ _ _ _ => (pts_one (pt_cmpR op_eq (pe_ix (ix_tupK K rfl) (pe_ix (ix_listK K rfl) (pv 4) (pe_op op_sub (pv 15) pe_int) (fun _ _ => rfl)) pe_int (fun _ _ => rfl)) (pe_ix (ix_tupK K rfl) (pe_ix (ix_listK K rfl) (pv 4) (pe_op op_sub (pv 13) pe_int) (fun _ _ => rfl)) pe_int (fun _ _ => rfl)) (nomark _)))) (fun _ _ _ _ _ => (pv 15)))
          (pss_cons (ps_mid (ps_if (PW.pt (pw_and (pt_cmpR (op_neD hr.units) (pv 14) (pe_lst pa_nil) (nomark _)) (pw_and1 (pt_cmpR op_ge (pe_callB (cr_max rfl) rfl Bm.max (by decide +kernel) (pa_cons (pv 14) pa_nil)) (pv 13) (nomark _)))))
            (pss_one (ps_ret pe_bl))
            pss_nil))
          (pss_one (ps_expr (pe_bm PySem.F.plainAttrs_list PySem.F.slot_list_append PySem.F.type_list_append mt_append (pv 8) (pa_cons (pv 13) pa_nil)))))))
        (pss_cons (ps_if (pt_cmpR (op_neD hr.units) (pe_lc (own := [("_law_key", 16)]) (g := (gName 16)) rfl sc_law.nd (pi_range1 rfl Bm.range (pa_cons (pv 2) pa_nil)) (blkOk_by (N := ["_law_script", "_law_d", "_law_keys", "_law_keep", "_law_changes_here", "_law_worths", "_law_pool_here", "_law_hearer", "_law_done", "_law_near", "_law_turn", "_law_ahead", "_law_letter", "_law_number", "_law_same", "_law_one", "_law_key"]) (sc := defScope s_law) (by decide +kernel)) (fun _ _ _ _ _ => (pg_name (i := 16) sc_law.nd rfl (Or.inl rfl))) (fun _ _ _ _ _ => (pts_one (pt_cmpR op_lt (pe_ix (ix_listK K rfl) (pe_fz (pm0 (pv 7) CHearer.cl m_Hearer_known hr)) (pv 16) (fun _ _ => rfl)) (pe_ix (ix_listK K rfl) (pv 11) (pv 16) (fun _ _ => rfl)) (nomark _)))) (fun _ _ _ _ _ => (pv 16))) (pe_lst pa_nil) (nomark _))
          (pss_one (ps_ret pe_bl))
          pss_nil)
        (pss_one (ps_if (pt_not (pt_val (pc g_right hr (pa_cons (pv 7) (pa_cons (pv 5) (pa_cons (pv 2) pa_nil))))))
          (pss_one (ps_ret pe_bl))
          pss_nil))))))))
      (pss_one (ps_ret pe_bl)))))))))), ?_⟩
  have z0 : 0 ≤ sizeLine := by decide
  refine ⟨_, rfl, rfl, c, ns, [], rfl, by omega, fc, .nil, fun a H1 m1 d1 => ?_⟩
  refine ⟨_, rfl, rfl, a, [], rfl, d1, fun nk keep tc H2 hk hk8 hkp m2 d2 htc => ?_⟩
  refine ⟨tc, _, rfl, SqT.of htc, rfl, _, _, rfl, _, _, rfl, rfl, ?_⟩
  -- changes_here = changes(d, keys, [50, 50, 50, 200][next(d, 4)])
  refine ⟨_, rfl, _, rfl, (by show 4 ≤ sizeLine; decide), fun l3 hl3 => ?_⟩
  have d3 := d2.new (o := .lst [.int 50, .int 50, .int 50, .int 200]) hl3 nl
  refine ⟨_, rfl, rfl, a, 4, _, rfl, by decide, by decide, d3, fun r4 H4 p4 q4 m4 d4 => ?_⟩
  obtain ⟨v, hv, hm⟩ := at_some (xs := [.int 50, .int 50, .int 50, .int 200]) p4 q4
  obtain ⟨mo, rfl, hmo⟩ : ∃ mo : Nat, v = V.int mo ∧ mo ≤ 200 := by
    simp only [List.mem_cons, List.not_mem_nil, or_false] at hm
    rcases hm with e | e | e | e
    · exact ⟨50, e, by decide⟩
    · exact ⟨50, e, by decide⟩
    · exact ⟨50, e, by decide⟩
    · exact ⟨200, e, by decide⟩
  refine ⟨l3, _, _, _, rfl, rfl, SqL.of d4.at_, hv, rfl, a, nk, mo, _, rfl, hk, hk8, by omega, d4.tail, fun cs v0 H5 hcl hck m5 d5 r5 => ?_⟩
  have hcl : cs.length ≤ 200 := by omega
  -- worths, pool_here = pool(d, keys, keep, changes_here)
  refine ⟨_, rfl, _, rfl, _, rfl, _, rfl, rfl, a, nk, keep, cs, v0, _, rfl, hk, hk8, hkp, by omega, hck, d5, r5, fun ls u H6 hne hll hlet m6 d6 r6 => ?_⟩
  obtain ⟨ta, txs, rfl, hta, rts⟩ := r6.tup_inv
  obtain ⟨v1, txs, rfl, rw_, rts⟩ := rts.cons_inv
  obtain ⟨v2, txs, rfl, rl, rts⟩ := rts.cons_inv
  have := rts.nil_inv
  subst this
  obtain ⟨al, xl, rfl, fl, rxl⟩ := rl.lst_inv
  have hxl : xl.length = ls.length := by rw [rxl.length, List.length_map]
  obtain ⟨ac, xc, rfl, fcl, rxc⟩ := (r5.mono m6).lst_inv
  have hpos : 0 < xl.length := by
    rw [hxl]
    cases ls with
    | nil => exact absurd rfl hne
    | cons _ _ => exact Nat.succ_pos _
  refine ⟨ta, _, rfl, SqT.of hta, rfl, _, _, rfl, _, _, rfl, rfl, ?_⟩
  -- hearer = Hearer(keys)
  refine ⟨_, rfl, fun x1 dx1 hx1 hd1 hn1 => ?_⟩
  have t7 := mk_tr (C := C) hx1 hd1 hn1
  refine ⟨rfl, x1, dx1, nk, rfl, hk, hk8, upd_same, fun A1 k0 H7 e1 R7 u7 => ⟨rfl, ?_⟩⟩
  subst e1
  have t7 := t7.trans u7
  have d7 := d6.tr0 t7
  -- done, near = [], 0
  refine ⟨z0, fun dl hdl => ?_⟩
  have d8 := d7.new (o := .lst []) hdl nl
  have m8 := t7.mono.trans (Mono.new (o := .lst []) hdl)
  have R8 := R7.mono (Mono.new (o := .lst []) hdl)
  refine ⟨_, rfl, rfl, a, 121, _, rfl, by decide, by decide, d8, fun r9 H9 p9 q9 m9 d9 => ⟨_, rfl, by omega, by omega, ?_⟩⟩
  have m69 := m8.trans m9
  have fl := fl.mono m69
  have rxl := rxl.mono m69
  have fcl := fcl.mono m69
  have rxc := rxc.mono m69
  have rw_ := rw_.mono m69
  have R9 := R8.mono m9
  refine for_range (lo := 0) (n := r9.toNat) (fun i σ H => ∃ (hs : List HK) (k1 : Lg) (dn : List Int) (z : Int) (v10 v11 v12 v13 v14 v15 v16 : Option V),
    σ = [some (.ref c), some (.ref a), some (.int nk), some (.int keep), some (.ref ac), some v1, some (.ref al), some (.ref A1.p), some (.ref dl), some (.int z), v10, v11, v12, v13, v14, v15, v16] ∧ Mono H9 H ∧ Dice K H a ((dl, .lst (dn.map V.int)) :: k1) ∧ HR K C A1 hs H k1 ∧ AllI nk cs hs ∧
      (∀ (k : Nat) (h : HK), hs[k]? = some h → h.aside.length ≤ i) ∧ (∀ n ∈ dn, Dn cs hs n) ∧ dn.Nodup ∧ 0 ≤ z ∧ z < xl.length)
    ⟨List.replicate nk HK.ini, k0, [], 0, none, none, none, none, none, none, none, rfl, Mono.refl _, d9, R9, AllI.ini nk cs, fun k h e => ?_, fun _ h => (nomatch h), List.nodup_nil, Int.le_refl 0, by omega⟩ ?_ ?_
  · rw [List.getElem?_replicate] at e
    split at e
    · cases e
      exact Nat.le_refl _
    · cases e
  · rintro i σ H hi ⟨hs, k1, dn, z, v10, v11, v12, v13, v14, v15, v16, rfl, mH, dH, r, ai, hcnt, hdn, hnd, hz1, hz2⟩
    -- ahead = hearer.known()
    refine rd_known (by rfl) r dH.has.tail fun p11 H11 g11 f11 => ?_
    have d11 := dH.grow g11
    have m11 := mH.trans g11.mono
    -- near = min(len(pool) - 1, near + next(d, 3))
    refine ⟨_, rfl, al, _, rfl, .inl (fl.mono m11).sq, _, _, rfl, rfl, _, rfl, _, rfl, rfl, a, 3, _, rfl, by decide, by decide, d11, fun r12 H12 p12 q12 m12 d12 => ⟨_, _, rfl, rfl, _, _, rfl, ?_⟩⟩
    obtain ⟨y, ey, hy1, hy2⟩ : ∃ y : Int, (if z + r12 < (xl.length : Int) - 1 then z + r12 else (xl.length : Int) - 1) = y ∧ 0 ≤ y ∧ y < xl.length := by
      refine ⟨_, rfl, ?_⟩
      split <;> omega
    show gName 9 (V.int (if z + r12 < (xl.length : Int) - 1 then z + r12 else (xl.length : Int) - 1)) _ _ _
    rw [ey]
    have m12' := m11.trans m12
    -- letter = pool[[near, max(0, near - next(d, 8)), next(d, len(pool))][next(d, 3)]]
    refine ⟨_, rfl, _, rfl, _, rfl, _, rfl, rfl, a, 8, _, rfl, by decide, by decide, d12, fun r13 H13 p13 q13 m13 d13 => ⟨_, _, rfl, rfl, _, _, rfl, ?_⟩⟩
    have m13' := m12'.trans m13
    refine ⟨_, rfl, _, rfl, al, _, rfl, .inl (fl.mono m13').sq, rfl, a, (xl.length : Int), _, rfl, by omega, by omega, d13, fun r14 H14 p14 q14 m14 d14 => ⟨(by show 3 ≤ sizeLine; decide), fun l15 hl15 => ?_⟩⟩
    have d15 := d14.new (o := .lst [.int y, .int (if y - r13 > 0 then y - r13 else 0), .int r14]) hl15 nl
    refine ⟨_, rfl, rfl, a, 3, _, rfl, by decide, by decide, d15, fun r16 H16 p16 q16 m16 d16 => ?_⟩
    obtain ⟨v, hv, hm⟩ := at_some (xs := [.int y, .int (if y - r13 > 0 then y - r13 else 0), .int r14]) p16 q16
    obtain ⟨x, rfl, hx⟩ : ∃ x : Nat, v = V.int x ∧ x < xl.length := by
      have key : ∀ w : Int, v = V.int w → 0 ≤ w → w < xl.length → ∃ x : Nat, v = V.int x ∧ x < xl.length := fun w e h1 h2 => ⟨w.toNat, by rw [e, Int.toNat_of_nonneg h1], by omega⟩
      simp only [List.mem_cons, List.not_mem_nil, or_false] at hm
      rcases hm with e | e | e
      · exact key _ e hy1 hy2
      · refine key _ e ?_ ?_ <;> split <;> omega
      · exact key _ e (by omega) (by omega)
    have m16' : Mono H9 H16 := (m13'.trans m14).trans ((Mono.new (o := .lst [.int y, .int (if y - r13 > 0 then y - r13 else 0), .int r14]) hl15).trans m16)
    have mH16 : Mono H H16 := (g11.mono.trans m12).trans ((m13.trans m14).trans ((Mono.new (o := .lst [.int y, .int (if y - r13 > 0 then y - r13 else 0), .int r14]) hl15).trans m16))
    have m11H16 : Mono H11 H16 := (m12.trans (m13.trans m14)).trans ((Mono.new (o := .lst [.int y, .int (if y - r13 > 0 then y - r13 else 0), .int r14]) hl15).trans m16)
    obtain ⟨l, el⟩ : ∃ l, ls[x]? = some l := ⟨ls[x]'(by omega), List.getElem?_eq_getElem _⟩
    have il : IsLet nk cs l := hlet l (List.mem_of_getElem? el)
    obtain ⟨xv, ex, rx⟩ := (rxl.mono m16').get (i := x) (d := l.enc) (by rw [List.getElem?_map, el]; rfl)
    refine ⟨l15, _, _, _, rfl, rfl, SqL.of d16.at_, hv, al, _, _, _, rfl, rfl, (fl.mono m16').sq, at_of (j := x) rfl ex, ?_⟩
    have d16 := d16.tail
    have r16' := r.mono mH16
    -- for number in hearer.hear(letter)
    refine ⟨_, rfl, A1.p, _, _, rfl, r16'.at_p d16.has.tail, hFno, _, rfl, rfl, A1, hs, k1, xv, l, rfl, r16', d16.has.tail, rx, by rw [ai.1]; exact hk8, ai.wfc hcnt (by omega), let_ok hck ai.1 il, fun f1 k1' H17 r17 t17 => ?_⟩
    have d17 : Dice K H17 a ((dl, .lst (dn.map V.int)) :: (f1, .lst ((heard hs l).map V.int)) :: k1') := d16.tr0 (t17.left (D := [(dl, .lst (dn.map V.int))]))
    have m17 := m16'.trans t17.mono
    have ai' := ai.hear il
    refine ⟨f1, rfl, ⟨_, SqL.of d17.has.tail.head⟩, for_list (K := K) (a := f1) (xs := (heard hs l).map V.int) (fun j σ H => ∃ v13 v14 v15 : Option V, σ = [some (.ref c), some (.ref a), some (.int nk), some (.int keep), some (.ref ac), some v1, some (.ref al), some (.ref A1.p), some (.ref dl), some (.int y), some (.int (0 + i)), some (.ref p11), some xv, v13, v14, v15, v16] ∧
        Mono H17 H ∧ Dice K H a ((dl, .lst ((dn ++ (heard hs l).take j).map V.int)) :: (f1, .lst ((heard hs l).map V.int)) :: k1'))
      ⟨_, _, _, rfl, Mono.refl _, by rw [List.take_zero, List.append_nil]; exact d17⟩ (fun j σ H _ ⟨_, _, _, _, _, d⟩ => SqL.of d.has.tail.head) ?_ ?_⟩
    · rintro j xn σ H hj ⟨v13, v14, v15, rfl, m18, d18⟩
      obtain ⟨n, hn, rfl⟩ := int_get hj
      obtain ⟨kk, g, eg, hg⟩ := heard_mem (List.mem_of_getElem? hn)
      obtain ⟨q1, q2, q3⟩ := (ai.told il eg).num n hg
      have hlt : ∀ s ∈ dn ++ (heard hs l).take j, ∀ k, IsN cs k s → IsN cs k n → s < n := fun s hs' k hk1 hk2 => by
        rcases List.mem_append.mp hs' with hs' | hs'
        · obtain ⟨k', h', e', u', is'⟩ := hdn s hs'
          have e1 := is'.key hk1
          have e2 := q3.key hk2
          have : k' = kk := by omega
          subst this
          rw [e'] at eg
          cases eg
          omega
        · obtain ⟨i', hi'⟩ := List.getElem?_of_mem hs'
          rw [List.getElem?_take] at hi'
          split at hi'
          · rename_i hij
            obtain ⟨b1, e1⟩ := List.getElem?_eq_some_iff.mp hi'
            obtain ⟨b2, e2⟩ := List.getElem?_eq_some_iff.mp hn
            have := List.pairwise_iff_getElem.mp (heard_rise ai il) i' j b1 b2 hij k (by rw [e1]; exact hk1) (by rw [e2]; exact hk2)
            rwa [e1, e2] at this
          · cases hi'
      have hisn : ∀ s ∈ dn ++ (heard hs l).take j, ∃ k, IsN cs k s := fun s hs' => by
        rcases List.mem_append.mp hs' with hs' | hs'
        · obtain ⟨k', h', e', u', is'⟩ := hdn s hs'
          exact ⟨k', is'⟩
        · obtain ⟨k', g', e1, e2⟩ := heard_mem (List.mem_of_mem_take hs')
          exact ⟨k', ((ai.told il e1).num s e2).2.2⟩
      have hlen : (dn ++ (heard hs l).take j).length ≤ 400 := by
        have h1 := dn_len hdn hnd
        have h2 := heard_few ai il
        rw [List.length_append, List.length_take]
        omega
      generalize hcur : dn ++ (heard hs l).take j = cur at hlt hisn hlen d18
      have mc : ∀ {H' : Hp}, Mono H H' → Mono H9 H' := fun q => (m17.trans m18).trans q
      have chAt : ∀ {H' : Hp} {s : Int} {k : Nat}, Mono H H' → IsN cs k s → ∃ (t : Addr) (w : Bool × Int), atI xc (s - 1) = some (.ref t) ∧ H' t = some (.tup [.int k, .str (wd w.1), .int w.2]) := fun {H' s k} q hs' => by
        obtain ⟨m, ch, e1, e2, rfl⟩ := hs'
        obtain ⟨u, hu, ru⟩ := (rxc.mono (mc q)).get (i := m) (d := ch.enc) (by rw [List.getElem?_map, e2]; rfl)
        obtain ⟨t, rfl, ht⟩ := ru.ch_inv
        exact ⟨t, (ch.set, ch.worth), at_of (j := m) (by omega) hu, ht⟩
      -- same = [one for one in done if changes_here[one - 1][0] == changes_here[number - 1][0]]
      refine ⟨_, rfl, dl, rfl, ⟨_, SqL.of d18.at_⟩, fun D hD => ?_⟩
      refine lc_list (K := K) (a := dl) (xs := cur.map V.int) (fun m H5 => ∃ ss : List Int, Mono H H5 ∧ Dice K H5 a ((D, .lst (ss.map V.int)) :: (dl, .lst (cur.map V.int)) :: (f1, .lst ((heard hs l).map V.int)) :: k1') ∧ ss.length ≤ m ∧ ∀ s ∈ ss, s < n)
        ⟨[], Mono.new hD, d18.new hD nl, Nat.le_refl _, fun _ h => (nomatch h)⟩ (fun m H5 _ ⟨_, _, d, _⟩ => SqL.of d.has.tail.head) ?_ ?_
      · rintro m xs5 H5 hm5 ⟨ss, m5, d5, hss, hsn⟩
        obtain ⟨s, es, rfl⟩ := int_get hm5
        have hm' : m < cur.length := (List.getElem?_eq_some_iff.mp es).1
        obtain ⟨k1s, his⟩ := hisn s (List.mem_of_getElem? es)
        obtain ⟨t1, w1, a1, ht1⟩ := chAt m5 his
        obtain ⟨t2, w2, a2, ht2⟩ := chAt m5 q3
        refine ⟨rfl, _, rfl, _, rfl, _, _, rfl, rfl, ac, _, _, _, rfl, rfl, (fcl.mono (mc m5)).sq, a1, t1, _, _, _, rfl, rfl, SqT.of ht1, rfl, _, rfl, _, rfl, _, _, rfl, rfl, ac, _, _, _, rfl, rfl, (fcl.mono (mc m5)).sq, a2, t2, _, _, _, rfl, rfl, SqT.of ht2, rfl, rfl, _, rfl, ite2 (fun h0 => ?_) fun h0 => ?_⟩
        · have ek : (k1s : Int) = kk := V.int.inj (of_decide_eq_true h0)
          have ek : k1s = kk := by omega
          subst ek
          refine ⟨_, rfl, _, d5.at_, by rw [List.length_map]; exact small1000 (by omega), ss ++ [s], m5.trans d5.mput, ?_, by rw [List.length_append]; show ss.length + 1 ≤ _; omega, fun x hx => ?_⟩
          · rw [List.map_append]
            exact d5.put nl
          · rcases List.mem_append.mp hx with hx | hx
            · exact hsn x hx
            · rw [List.mem_singleton.mp hx]
              exact hlt s (List.mem_of_getElem? es) _ his q3
        · exact ⟨ss, m5, d5, by omega, hsn⟩
      rintro H5 ⟨ss, m5, d5, hss, hsn⟩
      rw [List.length_map] at hss
      have d6' : ∀ {e : Addr}, H5 e = none → Dice K (upd H5 e (.lst [])) a ((D, .lst (ss.map V.int)) :: (dl, .lst (cur.map V.int)) :: (f1, .lst ((heard hs l).map V.int)) :: k1') := fun he => d5.old he
      refine rd_mid (fun σ' H' => ∃ e, H5 e = none ∧ H' = upd H5 e (.lst []) ∧ σ' = [some (.ref c), some (.ref a), some (.int nk), some (.int keep), some (.ref ac), some v1, some (.ref al), some (.ref A1.p), some (.ref dl), some (.int y), some (.int (0 + i)), some (.ref p11), some xv, some (.int n), some (.ref D), v15, v16]) ?_ ?_
      · refine ⟨_, rfl, z0, fun e he => ⟨_, _, Dp.ints' (d6' he).at_, Dp.nil upd_same, (Gd.ilst (n := 0) _).shaped, (Gd.nil (n := 0)).shaped, _, rfl, ?_⟩⟩
        cases ss with
        | nil =>
          rw [show PyData.eqv (ilst []) (.list []) = true from (Gd.nil (n := 0)).refl]
          exact iteM (by decide) (iteM (by decide) ⟨e, he, rfl, rfl⟩)
        | cons s0 ss =>
          rw [show PyData.eqv (ilst (s0 :: ss)) (.list []) = false from by rw [ilst, eqv_nil]; rfl]
          exact iteP (by decide) ⟨_, rfl, D, s0 :: ss, rfl, SqL.of (d6' he).at_, Nat.succ_pos _, fun mx m1 m2 => ⟨_, rfl, _, _, rfl, rfl, _, rfl, iteM (by have := hsn mx m1; simp; omega) ⟨e, he, rfl, rfl⟩⟩⟩
      rintro _ _ ⟨e, he, rfl, rfl⟩
      have dE := (d6' he).tail
      refine ⟨_, rfl, .inl ⟨rfl, _, SqL.of dE.at_⟩, _, rfl, _, _, _, rfl, rfl, dE.at_, by rw [List.length_map]; exact small1000 (by omega), ?_⟩
      refine ⟨_, _, _, rfl, (m18.trans (m5.trans (Mono.new he))).trans dE.mput, ?_⟩
      rw [take_snoc hn, ← List.append_assoc, hcur, List.map_append]
      exact dE.put nl
    · rintro σ H ⟨v13, v14, v15, rfl, m18, d18⟩
      rw [List.length_map, List.take_length] at d18
      have hdn' : ∀ n ∈ dn ++ heard hs l, Dn cs (hear hs l) n := fun n hn => by
        rcases List.mem_append.mp hn with q | q
        · exact (hdn n q).hear ai il
        · exact (heard_dn ai il q).1
      have hnd' : (dn ++ heard hs l).Nodup := List.nodup_append.mpr ⟨hnd, heard_nodup ai il, fun x hx y hy e => (heard_dn ai il hy).2 (e ▸ hdn x hx)⟩
      have d19 := d18.sub (List.Sublist.cons_cons _ (List.sublist_cons_self _ _))
      have r19 := r17.mono m18
      have m19 := m17.trans m18
      have f19 := f11.mono ((m11H16.trans t17.mono).trans m18)
      -- [key for key in range(keys) if hearer.known()[key] < ahead[key]] != []
      refine ⟨_, rfl, _, rfl, by omega, by omega, fun D hD => ?_⟩
      refine lc_range (lo := 0) (n := (nk : Int).toNat) (fun m H5 => Tr H [] H5 [(D, .lst [])]) ((Tr.refl H []).new hD nl) ?_ ?_
      · rintro k H5 hk5 t5
        have hkn : k < nk := by omega
        have ez : ((0 : Int) + k) = (k : Int) := by omega
        obtain ⟨g, eg⟩ : ∃ g, hs[k]? = some g := ⟨hs[k]'(by rw [ai.1]; exact hkn), List.getElem?_eq_getElem _⟩
        have up := (ai.told il eg).up
        refine ⟨rfl, ?_⟩
        have h5 := t5.has _ d19.has
        refine rd_known (by rfl) (r19.mono t5.mono) h5.tail.tail fun p20 H20 g20 f20 => ?_
        exact ⟨_, rfl, p20, _, _, _, rfl, rfl, f20.sq, at_of (j := k) ez (by rw [List.getElem?_map, List.getElem?_map, hear_get eg]; rfl), _, rfl, _, rfl, p11, _, _, _, rfl, rfl, (f19.mono (t5.mono.trans g20.mono)).sq, at_of (j := k) ez (by rw [List.getElem?_map, List.getElem?_map, eg]; rfl), _, _, rfl, rfl, _, rfl, iteM (by simp; omega) (t5.grow g20)⟩
      rintro H5 t5
      refine ⟨z0, fun e he => ⟨_, _, Dp.nil (by rw [upd_ne (ne_of_none t5.own.head he)]; exact t5.own.head), Dp.nil upd_same, (Gd.nil (n := 0)).shaped, (Gd.nil (n := 0)).shaped, _, rfl, ?_⟩⟩
      rw [(Gd.nil (n := 0)).refl]
      refine iteM (by decide) ?_
      have g20 : Grow H (upd H5 e (.lst [])) := t5.tail.old (o := .lst []) he
      have d20 := d19.grow g20
      have r20 := r19.mono g20.mono
      -- right(hearer, worths, keys)
      refine ⟨_, rfl, _, rfl, _, rfl, rfl, A1, hear hs l, k1', v1, nk, cs, rfl, hk, hk8, by omega, r20, d20.has.tail, ai', rw_.mono (m19.trans g20.mono), fun H21 g21 => ⟨_, rfl, iteM (by decide) ?_⟩⟩
      exact ⟨hear hs l, k1', dn ++ heard hs l, y, _, _, _, _, _, _, _, rfl, (m19.trans g20.mono).trans g21.mono, d20.grow g21, r20.mono g21.mono, ai', hear_cnt hcnt, hdn', hnd', hy1, hy2⟩
  · rintro σ H ⟨hs, k1, dn, z, v10, v11, v12, v13, v14, v15, v16, rfl, mH, dH, r, ai, hcnt, hdn, hnd, hz1, hz2⟩
    exact go _
end
end Cu

namespace Cu
open PySem PySem.Spec PyProof.Rows L2
theorem facts {l : PySem.W.OpenLaw} {w : World} {K : PySem.W.Frag} {h : Heap} {mg : Str → Option Value} {fa C_Hearer C_Board f1 f2 f3 f4 f5 f6 f7 f8 f9 f10 f11 f12 f13 f14 f15 f16 f17 f18 f19 f20 f21 f22 : Addr} (X : K.In h) (G : h.Ns mainGlobals mg) (hfa : mg "law" = some (.ref fa))
    {od1 an1 od2 an2 od3 an3 od4 an4 od5 an5 od6 an6 od7 an7 od8 an8 od9 an9 od10 an10 od11 an11 od12 an12 od13 an13 od14 an14 od15 an15 od16 an16 od17 an17 od18 an18 od19 an19 od20 an20 od21 an21 od22 an22 : Option Addr} {sl1 sl2 sl3 sl4 sl5 sl6 sl7 sl8 sl9 sl10 sl11 sl12 sl13 sl14 sl15 sl16 sl17 sl18 sl19 sl20 sl21 sl22 : Array (Option Value)} {oc1 kV1 dc1 pm1 cd1 ct1 oc2 kV2 dc2 pm2 cd2 ct2 oc3 kV3 dc3 pm3 cd3 ct3 oc4 kV4 dc4 pm4 cd4 ct4 oc5 kV5 dc5 pm5 cd5 ct5 oc6 kV6 dc6 pm6 cd6 ct6 oc7 kV7 dc7 pm7 cd7 ct7 oc8 kV8 dc8 pm8 cd8 ct8 oc9 kV9 dc9 pm9 cd9 ct9 oc10 kV10 dc10 pm10 cd10 ct10 oc11 kV11 dc11 pm11 cd11 ct11 oc12 kV12 dc12 pm12 cd12 ct12 oc13 kV13 dc13 pm13 cd13 ct13 oc14 kV14 dc14 pm14 cd14 ct14 oc15 kV15 dc15 pm15 cd15 ct15 oc16 kV16 dc16 pm16 cd16 ct16 oc17 kV17 dc17 pm17 cd17 ct17 oc18 kV18 dc18 pm18 cd18 ct18 oc19 kV19 dc19 pm19 cd19 ct19 oc20 kV20 dc20 pm20 cd20 ct20 oc21 kV21 dc21 pm21 cd21 ct21 oc22 kV22 dc22 pm22 cd22 ct22 : Value} {tk_MOST_KEYS tk_MOST_TAIL : Tok}
    (b_len : PySem.W.nsIn K mainGlobals "len" = some none)
    (b_range : PySem.W.nsIn K mainGlobals "range" = some none)
    (b_int : PySem.W.nsIn K mainGlobals "int" = some none)
    (b_list : PySem.W.nsIn K mainGlobals "list" = some none)
    (b_tuple : PySem.W.nsIn K mainGlobals "tuple" = some none)
    (b_sorted : PySem.W.nsIn K mainGlobals "sorted" = some none)
    (b_min : PySem.W.nsIn K mainGlobals "min" = some none)
    (b_max : PySem.W.nsIn K mainGlobals "max" = some none)
    (b_sum : PySem.W.nsIn K mainGlobals "sum" = some none)
    (b_set : PySem.W.nsIn K mainGlobals "set" = some none)
    (b_str : PySem.W.nsIn K mainGlobals "str" = some none)
    (b_isinstance : PySem.W.nsIn K mainGlobals "isinstance" = some none)
    (b_enumerate : PySem.W.nsIn K mainGlobals "enumerate" = some none)
    (b_zip : PySem.W.nsIn K mainGlobals "zip" = some none)
    (b_bool : PySem.W.nsIn K mainGlobals "bool" = some none)
    (b_dict : PySem.W.nsIn K mainGlobals "dict" = some none)
    (c_MOST_KEYS : PySem.W.nsIn K mainGlobals "MOST_KEYS" = some (some (.int 8 tk_MOST_KEYS)))
    (c_MOST_TAIL : PySem.W.nsIn K mainGlobals "MOST_TAIL" = some (some (.int 20 tk_MOST_TAIL)))
    (ac_Hearer : PySem.W.nsIn K mainGlobals "Hearer" = some (some (.ref C_Hearer)))
    (pg_Hearer : PySem.W.plainGet K C_Hearer Str.empty = true)
    (hd_Hearer : PySem.W.hasDictIn K C_Hearer = true)
    (po_Hearer : PySem.W.plainOver K C_Hearer = true)
    (sa_Hearer : PySem.W.findIn K (.ref C_Hearer) "__setattr__" = some (some (.builtin "object.__setattr__")))
    (no0_Hearer : PySem.W.findIn K (.ref C_Hearer) "worth" = some none)
    (no1_Hearer : PySem.W.findIn K (.ref C_Hearer) "since" = some none)
    (no2_Hearer : PySem.W.findIn K (.ref C_Hearer) "upto" = some none)
    (no3_Hearer : PySem.W.findIn K (.ref C_Hearer) "aside" = some none)
    (ac_Board : PySem.W.nsIn K mainGlobals "Board" = some (some (.ref C_Board)))
    (pg_Board : PySem.W.plainGet K C_Board Str.empty = true)
    (hd_Board : PySem.W.hasDictIn K C_Board = true)
    (po_Board : PySem.W.plainOver K C_Board = true)
    (sa_Board : PySem.W.findIn K (.ref C_Board) "__setattr__" = some (some (.builtin "object.__setattr__")))
    (no0_Board : PySem.W.findIn K (.ref C_Board) "now" = some none)
    (no1_Board : PySem.W.findIn K (.ref C_Board) "keep" = some none)
    (no2_Board : PySem.W.findIn K (.ref C_Board) "rows" = some none)
    (no3_Board : PySem.W.findIn K (.ref C_Board) "many" = some none)
    (no4_Board : PySem.W.findIn K (.ref C_Board) "last" = some none)
    (a1 : PySem.W.nsIn K mainGlobals "_law_dice" = some (some (.ref f1)))
    (l1 : K.lookup f1 = some ⟨oc1, od1, .func (PySem.W.fnOf "_law_dice" "_law_dice" (defArgs s_dice) (defBody s_dice) (defScope s_dice) .none kV1 dc1 pm1 an1 cd1 ct1), sl1⟩)
    (d1 : PySem.W.codeIn K cd1 "_law_dice" = true)
    (k1 : PySem.W.keepIn K (.ref f1) = true)
    (a2 : PySem.W.nsIn K mainGlobals "_law_next" = some (some (.ref f2)))
    (l2 : K.lookup f2 = some ⟨oc2, od2, .func (PySem.W.fnOf "_law_next" "_law_next" (defArgs s_next) (defBody s_next) (defScope s_next) .none kV2 dc2 pm2 an2 cd2 ct2), sl2⟩)
    (d2 : PySem.W.codeIn K cd2 "_law_next" = true)
    (k2 : PySem.W.keepIn K (.ref f2) = true)
    (a3 : PySem.W.nsIn K mainGlobals "_law_counts" = some (some (.ref f3)))
    (l3 : K.lookup f3 = some ⟨oc3, od3, .func (PySem.W.fnOf "_law_counts" "_law_counts" (defArgs s_counts) (defBody s_counts) (defScope s_counts) .none kV3 dc3 pm3 an3 cd3 ct3), sl3⟩)
    (d3 : PySem.W.codeIn K cd3 "_law_counts" = true)
    (k3 : PySem.W.keepIn K (.ref f3) = true)
    (a4 : PySem.W.nsIn K mainGlobals "_law_worth" = some (some (.ref f4)))
    (l4 : K.lookup f4 = some ⟨oc4, od4, .func (PySem.W.fnOf "_law_worth" "_law_worth" (defArgs s_worth) (defBody s_worth) (defScope s_worth) .none kV4 dc4 pm4 an4 cd4 ct4), sl4⟩)
    (d4 : PySem.W.codeIn K cd4 "_law_worth" = true)
    (k4 : PySem.W.keepIn K (.ref f4) = true)
    (a5 : PySem.W.nsIn K mainGlobals "_law_changes" = some (some (.ref f5)))
    (l5 : K.lookup f5 = some ⟨oc5, od5, .func (PySem.W.fnOf "_law_changes" "_law_changes" (defArgs s_changes) (defBody s_changes) (defScope s_changes) .none kV5 dc5 pm5 an5 cd5 ct5), sl5⟩)
    (d5 : PySem.W.codeIn K cd5 "_law_changes" = true)
    (k5 : PySem.W.keepIn K (.ref f5) = true)
    (a6 : PySem.W.findIn K (.ref C_Board) "__init__" = some (some (.ref f6)))
    (i6 : PySem.W.isFn K (.ref f6) = true)
    (l6 : K.lookup f6 = some ⟨oc6, od6, .func (PySem.W.fnOf "__init__" "Board.__init__" (defArgs s_Board_init) (defBody s_Board_init) (defScope s_Board_init) .none kV6 dc6 pm6 an6 cd6 ct6), sl6⟩)
    (d6 : PySem.W.codeIn K cd6 "Board.__init__" = true)
    (k6 : PySem.W.keepIn K (.ref f6) = true)
    (mk_Board : PySem.W.makesIn K C_Board = true)
    (kc_Board : PySem.W.keepIn K (.ref C_Board) = true)
    (a7 : PySem.W.findIn K (.ref C_Board) "part" = some (some (.ref f7)))
    (i7 : PySem.W.isFn K (.ref f7) = true)
    (l7 : K.lookup f7 = some ⟨oc7, od7, .func (PySem.W.fnOf "part" "Board.part" (defArgs s_Board_part) (defBody s_Board_part) (defScope s_Board_part) .none kV7 dc7 pm7 an7 cd7 ct7), sl7⟩)
    (d7 : PySem.W.codeIn K cd7 "Board.part" = true)
    (k7 : PySem.W.keepIn K (.ref f7) = true)
    (a8 : PySem.W.findIn K (.ref C_Board) "change" = some (some (.ref f8)))
    (i8 : PySem.W.isFn K (.ref f8) = true)
    (l8 : K.lookup f8 = some ⟨oc8, od8, .func (PySem.W.fnOf "change" "Board.change" (defArgs s_Board_change) (defBody s_Board_change) (defScope s_Board_change) .none kV8 dc8 pm8 an8 cd8 ct8), sl8⟩)
    (d8 : PySem.W.codeIn K cd8 "Board.change" = true)
    (k8 : PySem.W.keepIn K (.ref f8) = true)
    (a9 : PySem.W.findIn K (.ref C_Board) "worths" = some (some (.ref f9)))
    (i9 : PySem.W.isFn K (.ref f9) = true)
    (l9 : K.lookup f9 = some ⟨oc9, od9, .func (PySem.W.fnOf "worths" "Board.worths" (defArgs s_Board_worths) (defBody s_Board_worths) (defScope s_Board_worths) .none kV9 dc9 pm9 an9 cd9 ct9), sl9⟩)
    (d9 : PySem.W.codeIn K cd9 "Board.worths" = true)
    (k9 : PySem.W.keepIn K (.ref f9) = true)
    (a10 : PySem.W.findIn K (.ref C_Board) "beat" = some (some (.ref f10)))
    (i10 : PySem.W.isFn K (.ref f10) = true)
    (l10 : K.lookup f10 = some ⟨oc10, od10, .func (PySem.W.fnOf "beat" "Board.beat" (defArgs s_Board_beat) (defBody s_Board_beat) (defScope s_Board_beat) .none kV10 dc10 pm10 an10 cd10 ct10), sl10⟩)
    (d10 : PySem.W.codeIn K cd10 "Board.beat" = true)
    (k10 : PySem.W.keepIn K (.ref f10) = true)
    (a11 : PySem.W.nsIn K mainGlobals "_law_pool" = some (some (.ref f11)))
    (l11 : K.lookup f11 = some ⟨oc11, od11, .func (PySem.W.fnOf "_law_pool" "_law_pool" (defArgs s_pool) (defBody s_pool) (defScope s_pool) .none kV11 dc11 pm11 an11 cd11 ct11), sl11⟩)
    (d11 : PySem.W.codeIn K cd11 "_law_pool" = true)
    (k11 : PySem.W.keepIn K (.ref f11) = true)
    (a12 : PySem.W.findIn K (.ref C_Hearer) "known" = some (some (.ref f12)))
    (i12 : PySem.W.isFn K (.ref f12) = true)
    (l12 : K.lookup f12 = some ⟨oc12, od12, .func (PySem.W.fnOf "known" "Hearer.known" (defArgs s_Hearer_known) (defBody s_Hearer_known) (defScope s_Hearer_known) .none kV12 dc12 pm12 an12 cd12 ct12), sl12⟩)
    (d12 : PySem.W.codeIn K cd12 "Hearer.known" = true)
    (k12 : PySem.W.keepIn K (.ref f12) = true)
    (a13 : PySem.W.findIn K (.ref C_Hearer) "look" = some (some (.ref f13)))
    (i13 : PySem.W.isFn K (.ref f13) = true)
    (l13 : K.lookup f13 = some ⟨oc13, od13, .func (PySem.W.fnOf "look" "Hearer.look" (defArgs s_Hearer_look) (defBody s_Hearer_look) (defScope s_Hearer_look) .none kV13 dc13 pm13 an13 cd13 ct13), sl13⟩)
    (d13 : PySem.W.codeIn K cd13 "Hearer.look" = true)
    (k13 : PySem.W.keepIn K (.ref f13) = true)
    (a14 : PySem.W.findIn K (.ref C_Hearer) "whole" = some (some (.ref f14)))
    (i14 : PySem.W.isFn K (.ref f14) = true)
    (l14 : K.lookup f14 = some ⟨oc14, od14, .func (PySem.W.fnOf "whole" "Hearer.whole" (defArgs s_Hearer_whole) (defBody s_Hearer_whole) (defScope s_Hearer_whole) .none kV14 dc14 pm14 an14 cd14 ct14), sl14⟩)
    (d14 : PySem.W.codeIn K cd14 "Hearer.whole" = true)
    (k14 : PySem.W.keepIn K (.ref f14) = true)
    (a15 : PySem.W.nsIn K mainGlobals "_law_right" = some (some (.ref f15)))
    (l15 : K.lookup f15 = some ⟨oc15, od15, .func (PySem.W.fnOf "_law_right" "_law_right" (defArgs s_right) (defBody s_right) (defScope s_right) .none kV15 dc15 pm15 an15 cd15 ct15), sl15⟩)
    (d15 : PySem.W.codeIn K cd15 "_law_right" = true)
    (k15 : PySem.W.keepIn K (.ref f15) = true)
    (a16 : PySem.W.findIn K (.ref C_Hearer) "__init__" = some (some (.ref f16)))
    (i16 : PySem.W.isFn K (.ref f16) = true)
    (l16 : K.lookup f16 = some ⟨oc16, od16, .func (PySem.W.fnOf "__init__" "Hearer.__init__" (defArgs s_Hearer_init) (defBody s_Hearer_init) (defScope s_Hearer_init) .none kV16 dc16 pm16 an16 cd16 ct16), sl16⟩)
    (d16 : PySem.W.codeIn K cd16 "Hearer.__init__" = true)
    (k16 : PySem.W.keepIn K (.ref f16) = true)
    (mk_Hearer : PySem.W.makesIn K C_Hearer = true)
    (kc_Hearer : PySem.W.keepIn K (.ref C_Hearer) = true)
    (a17 : PySem.W.findIn K (.ref C_Hearer) "do" = some (some (.ref f17)))
    (i17 : PySem.W.isFn K (.ref f17) = true)
    (l17 : K.lookup f17 = some ⟨oc17, od17, .func (PySem.W.fnOf "do" "Hearer.do" (defArgs s_Hearer_do) (defBody s_Hearer_do) (defScope s_Hearer_do) .none kV17 dc17 pm17 an17 cd17 ct17), sl17⟩)
    (d17 : PySem.W.codeIn K cd17 "Hearer.do" = true)
    (k17 : PySem.W.keepIn K (.ref f17) = true)
    (a18 : PySem.W.findIn K (.ref C_Hearer) "freed" = some (some (.ref f18)))
    (i18 : PySem.W.isFn K (.ref f18) = true)
    (l18 : K.lookup f18 = some ⟨oc18, od18, .func (PySem.W.fnOf "freed" "Hearer.freed" (defArgs s_Hearer_freed) (defBody s_Hearer_freed) (defScope s_Hearer_freed) .none kV18 dc18 pm18 an18 cd18 ct18), sl18⟩)
    (d18 : PySem.W.codeIn K cd18 "Hearer.freed" = true)
    (k18 : PySem.W.keepIn K (.ref f18) = true)
    (a19 : PySem.W.findIn K (.ref C_Hearer) "changed" = some (some (.ref f19)))
    (i19 : PySem.W.isFn K (.ref f19) = true)
    (l19 : K.lookup f19 = some ⟨oc19, od19, .func (PySem.W.fnOf "changed" "Hearer.changed" (defArgs s_Hearer_changed) (defBody s_Hearer_changed) (defScope s_Hearer_changed) .none kV19 dc19 pm19 an19 cd19 ct19), sl19⟩)
    (d19 : PySem.W.codeIn K cd19 "Hearer.changed" = true)
    (k19 : PySem.W.keepIn K (.ref f19) = true)
    (a20 : PySem.W.findIn K (.ref C_Hearer) "copied" = some (some (.ref f20)))
    (i20 : PySem.W.isFn K (.ref f20) = true)
    (l20 : K.lookup f20 = some ⟨oc20, od20, .func (PySem.W.fnOf "copied" "Hearer.copied" (defArgs s_Hearer_copied) (defBody s_Hearer_copied) (defScope s_Hearer_copied) .none kV20 dc20 pm20 an20 cd20 ct20), sl20⟩)
    (d20 : PySem.W.codeIn K cd20 "Hearer.copied" = true)
    (k20 : PySem.W.keepIn K (.ref f20) = true)
    (a21 : PySem.W.findIn K (.ref C_Hearer) "hear" = some (some (.ref f21)))
    (i21 : PySem.W.isFn K (.ref f21) = true)
    (l21 : K.lookup f21 = some ⟨oc21, od21, .func (PySem.W.fnOf "hear" "Hearer.hear" (defArgs s_Hearer_hear) (defBody s_Hearer_hear) (defScope s_Hearer_hear) .none kV21 dc21 pm21 an21 cd21 ct21), sl21⟩)
    (d21 : PySem.W.codeIn K cd21 "Hearer.hear" = true)
    (k21 : PySem.W.keepIn K (.ref f21) = true)
    (a22 : PySem.W.nsIn K mainGlobals "law" = some (some (.ref f22)))
    (l22 : K.lookup f22 = some ⟨oc22, od22, .func (PySem.W.fnOf "law" "law" (defArgs s_law) (defBody s_law) (defScope s_law) .none kV22 dc22 pm22 an22 cd22 ct22), sl22⟩)
    (d22 : PySem.W.codeIn K cd22 "law" = true)
    (k22 : PySem.W.keepIn K (.ref f22) = true)
    : ∃ fd : FuncData, (∀ (s : Shared) (v : Value), BindsTo s fd ⟨[v], []⟩ [("_law_script", v)]) ∧ ∀ base : Heap, K.In base → base.Ns mainGlobals mg → FnOk l.prog w K mg base CX0 5 fa fd ["_law_script"] (spLaw K) := by
  have e := hfa.symm.trans (PySem.W.mg_of X G a22)
  cases e
  have Bm : Blt mg := ⟨PySem.W.mg_none_of X G b_len, PySem.W.mg_none_of X G b_range, PySem.W.mg_none_of X G b_int, PySem.W.mg_none_of X G b_list, PySem.W.mg_none_of X G b_tuple, PySem.W.mg_none_of X G b_sorted, PySem.W.mg_none_of X G b_min, PySem.W.mg_none_of X G b_max, PySem.W.mg_none_of X G b_sum, PySem.W.mg_none_of X G b_set, PySem.W.mg_none_of X G b_str, PySem.W.mg_none_of X G b_isinstance, PySem.W.mg_none_of X G b_enumerate, PySem.W.mg_none_of X G b_zip, PySem.W.mg_none_of X G b_bool, PySem.W.mg_none_of X G b_dict⟩
  have km_MOST_KEYS := PySem.W.mg_of X G c_MOST_KEYS
  have km_MOST_TAIL := PySem.W.mg_of X G c_MOST_TAIL
  have CHearer : CHr K C_Hearer := ⟨⟨pg_Hearer, hd_Hearer, po_Hearer, sa_Hearer⟩, no0_Hearer, no1_Hearer, no2_Hearer, no3_Hearer⟩
  have CBoard : CBo K C_Board := ⟨⟨pg_Board, hd_Board, po_Board, sa_Board⟩, no0_Board, no1_Board, no2_Board, no3_Board, no4_Board⟩
  have F1 : Fd K mg "_law_dice" s_dice := ⟨_, _, fun_mk (st := s_dice) l1 d1 k1, PySem.W.mg_of X G a1⟩
  have F2 : Fd K mg "_law_next" s_next := ⟨_, _, fun_mk (st := s_next) l2 d2 k2, PySem.W.mg_of X G a2⟩
  have F3 : Fd K mg "_law_counts" s_counts := ⟨_, _, fun_mk (st := s_counts) l3 d3 k3, PySem.W.mg_of X G a3⟩
  have F4 : Fd K mg "_law_worth" s_worth := ⟨_, _, fun_mk (st := s_worth) l4 d4 k4, PySem.W.mg_of X G a4⟩
  have F5 : Fd K mg "_law_changes" s_changes := ⟨_, _, fun_mk (st := s_changes) l5 d5 k5, PySem.W.mg_of X G a5⟩
  have F6 : Kd K mg "Board" C_Board "Board.__init__" s_Board_init := ⟨_, _, fun_mk (st := s_Board_init) l6 d6 k6, ⟨mk_Board, a6, i6, kc_Board⟩, PySem.W.mg_of X G ac_Board⟩
  have F7 : Md K C_Board "part" "Board.part" s_Board_part := ⟨_, _, fun_mk (st := s_Board_part) l7 d7 k7, ⟨a7, i7, k7⟩⟩
  have F8 : Md K C_Board "change" "Board.change" s_Board_change := ⟨_, _, fun_mk (st := s_Board_change) l8 d8 k8, ⟨a8, i8, k8⟩⟩
  have F9 : Md K C_Board "worths" "Board.worths" s_Board_worths := ⟨_, _, fun_mk (st := s_Board_worths) l9 d9 k9, ⟨a9, i9, k9⟩⟩
  have F10 : Md K C_Board "beat" "Board.beat" s_Board_beat := ⟨_, _, fun_mk (st := s_Board_beat) l10 d10 k10, ⟨a10, i10, k10⟩⟩
  have F11 : Fd K mg "_law_pool" s_pool := ⟨_, _, fun_mk (st := s_pool) l11 d11 k11, PySem.W.mg_of X G a11⟩
  have F12 : Md K C_Hearer "known" "Hearer.known" s_Hearer_known := ⟨_, _, fun_mk (st := s_Hearer_known) l12 d12 k12, ⟨a12, i12, k12⟩⟩
  have F13 : Md K C_Hearer "look" "Hearer.look" s_Hearer_look := ⟨_, _, fun_mk (st := s_Hearer_look) l13 d13 k13, ⟨a13, i13, k13⟩⟩
  have F14 : Md K C_Hearer "whole" "Hearer.whole" s_Hearer_whole := ⟨_, _, fun_mk (st := s_Hearer_whole) l14 d14 k14, ⟨a14, i14, k14⟩⟩
  have F15 : Fd K mg "_law_right" s_right := ⟨_, _, fun_mk (st := s_right) l15 d15 k15, PySem.W.mg_of X G a15⟩
  have F16 : Kd K mg "Hearer" C_Hearer "Hearer.__init__" s_Hearer_init := ⟨_, _, fun_mk (st := s_Hearer_init) l16 d16 k16, ⟨mk_Hearer, a16, i16, kc_Hearer⟩, PySem.W.mg_of X G ac_Hearer⟩
  have F17 : Md K C_Hearer "do" "Hearer.do" s_Hearer_do := ⟨_, _, fun_mk (st := s_Hearer_do) l17 d17 k17, ⟨a17, i17, k17⟩⟩
  have F18 : Md K C_Hearer "freed" "Hearer.freed" s_Hearer_freed := ⟨_, _, fun_mk (st := s_Hearer_freed) l18 d18 k18, ⟨a18, i18, k18⟩⟩
  have F19 : Md K C_Hearer "changed" "Hearer.changed" s_Hearer_changed := ⟨_, _, fun_mk (st := s_Hearer_changed) l19 d19 k19, ⟨a19, i19, k19⟩⟩
  have F20 : Md K C_Hearer "copied" "Hearer.copied" s_Hearer_copied := ⟨_, _, fun_mk (st := s_Hearer_copied) l20 d20 k20, ⟨a20, i20, k20⟩⟩
  have F21 : Md K C_Hearer "hear" "Hearer.hear" s_Hearer_hear := ⟨_, _, fun_mk (st := s_Hearer_hear) l21 d21 k21, ⟨a21, i21, k21⟩⟩
  have F22 := fun_mk (st := s_law) l22 d22 k22
  refine ⟨PySem.W.fnOf "law" "law" (defArgs s_law) (defBody s_law) (defScope s_law) .none kV22 dc22 pm22 an22 cd22 ct22, fun s v => .of_eq rfl, fun base _ _ => ?_⟩
  have g_dice := ok_dice (P := l.prog) (w := w) (base := base) F1 Bm
  have g_next := ok_next (P := l.prog) (w := w) (base := base) F2 Bm
  have g_counts := ok_counts (P := l.prog) (w := w) (base := base) F3 Bm g_next
  have g_worth := ok_worth (P := l.prog) (w := w) (base := base) F4 Bm g_next
  have g_changes := ok_changes (P := l.prog) (w := w) (base := base) F5 Bm g_next g_worth
  have k_Board := ok_Binit (P := l.prog) (w := w) (base := base) F6 Bm CBoard km_MOST_KEYS km_MOST_TAIL
  have m_Board_part := ok_Bpart (P := l.prog) (w := w) (base := base) F7 Bm CBoard
  have m_Board_change := ok_Bchange (P := l.prog) (w := w) (base := base) F8 Bm CBoard
  have m_Board_worths := ok_Bworths (P := l.prog) (w := w) (base := base) F9 Bm CBoard
  have m_Board_beat := ok_Bbeat (P := l.prog) (w := w) (base := base) F10 Bm CBoard
  have g_pool := ok_pool (P := l.prog) (w := w) (base := base) F11 Bm CBoard g_next k_Board m_Board_part m_Board_change m_Board_worths m_Board_beat
  have m_Hearer_known := ok_known (P := l.prog) (w := w) (base := base) F12 Bm CHearer
  have m_Hearer_look := ok_look (P := l.prog) (w := w) (base := base) F13 Bm CHearer
  have m_Hearer_whole := ok_whole (P := l.prog) (w := w) (base := base) F14 Bm CHearer
  have g_right := ok_right (P := l.prog) (w := w) (base := base) F15 Bm CHearer m_Hearer_known m_Hearer_look m_Hearer_whole
  have k_Hearer := ok_Hinit (P := l.prog) (w := w) (base := base) F16 Bm CHearer km_MOST_KEYS
  have m_Hearer_do := ok_do (P := l.prog) (w := w) (base := base) F17 Bm CHearer
  have m_Hearer_freed := ok_freed (P := l.prog) (w := w) (base := base) F18 Bm CHearer m_Hearer_do
  have m_Hearer_changed := ok_changed (P := l.prog) (w := w) (base := base) F19 Bm CHearer m_Hearer_do m_Hearer_freed
  have m_Hearer_copied := ok_copied (P := l.prog) (w := w) (base := base) F20 Bm CHearer m_Hearer_freed
  have m_Hearer_hear := ok_hear (P := l.prog) (w := w) (base := base) F21 Bm CHearer m_Hearer_changed m_Hearer_copied
  exact ok_law (P := l.prog) (w := w) (base := base) F22 Bm CHearer CBoard g_dice g_next g_counts g_changes g_pool g_right k_Hearer m_Hearer_hear m_Hearer_known
theorem walked {l : PySem.W.OpenLaw} {q : Program} {loose : List Str} {XP : (Str → Option Value) → Heap → Prop} {YP : World → Heap → Prop} {d : DefRec} {K : Params → PySem.W.Frag} (hn : l.most = some 63) (hdf : d.params.defaults = [])
    (hY : ∀ (w : World) (h : Heap), YP w h → (K w.params).In h)
    (F : ∀ (w : World) (mg : Str → Option Value) (fa : Addr) (h : Heap), (K w.params).In h → h.Ns mainGlobals mg → mg d.name = some (.ref fa) →
      ∃ fd : FuncData, (∀ (s : Shared) (u : Value), BindsTo s fd ⟨[u], []⟩ [("_law_script", u)]) ∧ ∀ base : Heap, (K w.params).In base → base.Ns mainGlobals mg → FnOk l.prog w (K w.params) mg base CX0 5 fa fd ["_law_script"] (spLaw (K w.params))) :
    PySem.W.WalkO q loose XP YP l.row.toRowW d [] (fun f vs => PySem.call f vs) :=
  L2.walk_of (n := 63) (k := 5) (x := "_law_script") (CX := fun _ => CX0) (sp := fun w => spLaw (K w.params)) hn (by decide) hdf ⟨rfl, by decide, by decide⟩ hY F (fun _ _ a ns hl hO hS => ⟨rfl, a, ns, rfl, hl, FzL.only hO hS, fun _ => rfl⟩) fun _ _ _ _ _ z => z
end Cu
open PySem PySem.W PyProof.Rows
set_option maxHeartbeats 0 in
theorem PySem.Challenge.cw_catchup_k04_whole_never_wrong_holds : PySem.Challenge.rw_catchup_k04_whole_never_wrong.Holds := by
  w_on; o_law; k_head; (case hw => w_witness2)
  k_fill
  refine Cu.walked (l := PySem.Challenge.rw_catchup_k04_whole_never_wrong) rfl rfl (fun w h Y => PySem.W.kIn_of Y) ?F
  case F =>
    intro w mg fa h KX G hmg
    refine' Cu.facts KX G hmg ?b_len ?b_range ?b_int ?b_list ?b_tuple ?b_sorted ?b_min ?b_max ?b_sum ?b_set ?b_str ?b_isinstance ?b_enumerate ?b_zip ?b_bool ?b_dict ?c_MOST_KEYS ?c_MOST_TAIL ?ac_Hearer ?pg_Hearer ?hd_Hearer ?po_Hearer ?sa_Hearer ?no0_Hearer ?no1_Hearer ?no2_Hearer ?no3_Hearer ?ac_Board ?pg_Board ?hd_Board ?po_Board ?sa_Board ?no0_Board ?no1_Board ?no2_Board ?no3_Board ?no4_Board ?a1 ?l1 ?d1 ?k1 ?a2 ?l2 ?d2 ?k2 ?a3 ?l3 ?d3 ?k3 ?a4 ?l4 ?d4 ?k4 ?a5 ?l5 ?d5 ?k5 ?a6 ?i6 ?l6 ?d6 ?k6 ?mk_Board ?kc_Board ?a7 ?i7 ?l7 ?d7 ?k7 ?a8 ?i8 ?l8 ?d8 ?k8 ?a9 ?i9 ?l9 ?d9 ?k9 ?a10 ?i10 ?l10 ?d10 ?k10 ?a11 ?l11 ?d11 ?k11 ?a12 ?i12 ?l12 ?d12 ?k12 ?a13 ?i13 ?l13 ?d13 ?k13 ?a14 ?i14 ?l14 ?d14 ?k14 ?a15 ?l15 ?d15 ?k15 ?a16 ?i16 ?l16 ?d16 ?k16 ?mk_Hearer ?kc_Hearer ?a17 ?i17 ?l17 ?d17 ?k17 ?a18 ?i18 ?l18 ?d18 ?k18 ?a19 ?i19 ?l19 ?d19 ?k19 ?a20 ?i20 ?l20 ?d20 ?k20 ?a21 ?i21 ?l21 ?d21 ?k21 ?a22 ?l22 ?d22 ?k22
    (case b_len => k_is)
    (case b_range => k_is)
    (case b_int => k_is)
    (case b_list => k_is)
    (case b_tuple => k_is)
    (case b_sorted => k_is)
    (case b_min => k_is)
    (case b_max => k_is)
    (case b_sum => k_is)
    (case b_set => k_is)
    (case b_str => k_is)
    (case b_isinstance => k_is)
    (case b_enumerate => k_is)
    (case b_zip => k_is)
    (case b_bool => k_is)
    (case b_dict => k_is)
    (case c_MOST_KEYS => k_is)
    (case c_MOST_TAIL => k_is)
    (case ac_Hearer => k_is)
    (case pg_Hearer => k_is)
    (case hd_Hearer => k_is)
    (case po_Hearer => k_is)
    (case sa_Hearer => k_is)
    (case no0_Hearer => k_is)
    (case no1_Hearer => k_is)
    (case no2_Hearer => k_is)
    (case no3_Hearer => k_is)
    (case ac_Board => k_is)
    (case pg_Board => k_is)
    (case hd_Board => k_is)
    (case po_Board => k_is)
    (case sa_Board => k_is)
    (case no0_Board => k_is)
    (case no1_Board => k_is)
    (case no2_Board => k_is)
    (case no3_Board => k_is)
    (case no4_Board => k_is)
    (case a1 => k_is)
    (case l1 => k_is)
    (case d1 => k_is)
    (case k1 => k_is)
    (case a2 => k_is)
    (case l2 => k_is)
    (case d2 => k_is)
    (case k2 => k_is)
    (case a3 => k_is)
    (case l3 => k_is)
    (case d3 => k_is)
    (case k3 => k_is)
    (case a4 => k_is)
    (case l4 => k_is)
    (case d4 => k_is)
    (case k4 => k_is)
    (case a5 => k_is)
    (case l5 => k_is)
    (case d5 => k_is)
    (case k5 => k_is)
    (case a6 => k_is)
    (case i6 => k_is)
    (case l6 => k_is)
    (case d6 => k_is)
    (case k6 => k_is)
    (case mk_Board => k_is)
    (case kc_Board => k_is)
    (case a7 => k_is)
    (case i7 => k_is)
    (case l7 => k_is)
    (case d7 => k_is)
    (case k7 => k_is)
    (case a8 => k_is)
    (case i8 => k_is)
    (case l8 => k_is)
    (case d8 => k_is)
    (case k8 => k_is)
    (case a9 => k_is)
    (case i9 => k_is)
    (case l9 => k_is)
    (case d9 => k_is)
    (case k9 => k_is)
    (case a10 => k_is)
    (case i10 => k_is)
    (case l10 => k_is)
    (case d10 => k_is)
    (case k10 => k_is)
    (case a11 => k_is)
    (case l11 => k_is)
    (case d11 => k_is)
    (case k11 => k_is)
    (case a12 => k_is)
    (case i12 => k_is)
    (case l12 => k_is)
    (case d12 => k_is)
    (case k12 => k_is)
    (case a13 => k_is)
    (case i13 => k_is)
    (case l13 => k_is)
    (case d13 => k_is)
    (case k13 => k_is)
    (case a14 => k_is)
    (case i14 => k_is)
    (case l14 => k_is)
    (case d14 => k_is)
    (case k14 => k_is)
    (case a15 => k_is)
    (case l15 => k_is)
    (case d15 => k_is)
    (case k15 => k_is)
    (case a16 => k_is)
    (case i16 => k_is)
    (case l16 => k_is)
    (case d16 => k_is)
    (case k16 => k_is)
    (case mk_Hearer => k_is)
    (case kc_Hearer => k_is)
    (case a17 => k_is)
    (case i17 => k_is)
    (case l17 => k_is)
    (case d17 => k_is)
    (case k17 => k_is)
    (case a18 => k_is)
    (case i18 => k_is)
    (case l18 => k_is)
    (case d18 => k_is)
    (case k18 => k_is)
    (case a19 => k_is)
    (case i19 => k_is)
    (case l19 => k_is)
    (case d19 => k_is)
    (case k19 => k_is)
    (case a20 => k_is)
    (case i20 => k_is)
    (case l20 => k_is)
    (case d20 => k_is)
    (case k20 => k_is)
    (case a21 => k_is)
    (case i21 => k_is)
    (case l21 => k_is)
    (case d21 => k_is)
    (case k21 => k_is)
    (case a22 => k_is)
    (case l22 => k_is)
    (case d22 => k_is)
    (case k22 => k_is)
#print axioms PySem.Challenge.cw_catchup_k04_whole_never_wrong_holds
